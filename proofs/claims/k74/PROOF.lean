import PyProof.Rows.All
import Wide.All
import OpenK.AllK
import Wide.FinOn
import HandS.RevTup
import HandS.Rev
import HandS.MapObj
import HandS.ForMost
import HandS.Flow
import HandS.Wide
import HandS.Style
import HandS.Gcd
import HandS.TupAny
import HandS.Conv
import HandS.DictComp
import KE.KDictCopyH
import KE.KDictList
import KE.KDictZip
import KE.GoesMore
import KE.GoesEnum
import KE.KDictDisplayH
import KE.GoesZip
import HandS.IsInst
import HandS.Deep
import HandS.Replace
import PySem.Challenge.RW_chartspec_k74_labels_in_the_clear_and_ob
import PyProof.ReprLen
import PyProof.P3Eq
import HandS.HeadHook2
set_option Elab.async false
set_option linter.all false
set_option maxRecDepth 100000
set_option maxHeartbeats 1000000
namespace Cs
open PySem PySem.Spec PyProof.Rows RT
theorem nolen_rt : typeLookup (.type "reversed") "__len__" = pure none := by rw [typeLookup_type, builtinLookup_eq_fast]; kernel_rfl
theorem hint_rt : typeLookup (.type "reversed") "__length_hint__" = pure (some (.builtin "reversed.__length_hint__")) := by rw [typeLookup_type, builtinLookup_eq_fast]; kernel_rfl
theorem slot_rt_hint : Slot "reversed" "__length_hint__" "reversed.__length_hint__" :=
  .of (owner := "reversed") (n := "__length_hint__") (by rw [typeLookup_type, builtinLookup_eq_fast]; kernel_rfl) (by decide +kernel) (by decide +kernel) (by decide +kernel)
    (by first | exact .inl (by decide +kernel) | exact .inr (by decide +kernel)) (by rw [isSubtype_type]; kernel_rfl)
theorem entry_rt_hint : entryFor table "reversed.__length_hint__" = some Builtin.«reversed.__length_hint__» := entryFor_of_tree (by kernel_rfl)
theorem args_rt_hint (a : Value) : argsOk "reversed.__length_hint__" ⟨[a], []⟩ := by
  unfold argsOk; rw [signature?_of (id := "reversed.__length_hint__") (n := ['_', '_', 't', 'n', 'i', 'h', '_', 'h', 't', 'g', 'n', 'e', 'l', '_', '_']) (o := ['d', 'e', 's', 'r', 'e', 'v', 'e', 'r']) (by kernel_rfl) owner_rt]; kernel_rfl
theorem bk_rt_hint : builtinKind "reversed.__length_hint__" = some .method := by decide +kernel
theorem bind_rt_hint (self : Value) : bindSpecial (.builtin "reversed.__length_hint__") self = pure (.builtin "reversed.__length_hint__", [self]) := by
  have hop : withoutEnding? "reversed.__length_hint__" "#opaque" = none := by decide +kernel
  have hdat : withoutEnding? "reversed.__length_hint__" "#data" = none := by decide +kernel
  simp only [bindSpecial, typeOf, builtinType, hop, hdat, bk_rt_hint]; rfl
theorem walks_rt {prog : Program} {w : World} {A : Around} (hh : A.handled = none) (I l : Addr) (hne : l ≠ I) (items : Array Value) (hsz : items.size ≤ sizeLine) :
    Walks prog w A I [I, l] [I] items.size (fun i v => items[items.size - 1 - i]? = some v) (fun i h => i ≤ items.size ∧ IsRt h I l ((items.size : Int) - 1 - (i : Int)) ∧ IsTup h l items) where
  sub := fun b hb => by simp at hb; simp [hb]
  frame := fun _ _ _ x hk => ⟨x.1, x.2.1.at fun o e => hk I (by simp) o e, let ⟨o, ho, r⟩ := x.2.2; ⟨o, hk l (by simp) o ho, r⟩⟩
  item := fun i s Q E hi x hQ => by
    have e : (items.size : Int) - 1 - (i : Int) = ((items.size - 1 - i : Nat) : Int) := by omega
    have hit := x.2.1
    rw [e] at hit
    have hx : items[items.size - 1 - i]? = some (items[items.size - 1 - i]'(by omega)) := Array.getElem?_eq_getElem (by omega)
    refine next_rt_item hit x.2.2 hx hsz fun h' hit' hs' => ?_
    have e2 : ((items.size - 1 - i : Nat) : Int) - 1 = (items.size : Int) - 1 - ((i + 1 : Nat) : Int) := by omega
    rw [e2] at hit'
    exact hQ _ h' (s.toks + 1) hx ⟨hi, hit', let ⟨o, ho, r⟩ := x.2.2; ⟨o, (hs'.2 l hne).trans ho, r⟩⟩ fun b o hb eo => hs'.extBut b o (fun h => hb (by simp [h])) eo
  done := fun s Q E x hQ => by
    have e : (items.size : Int) - 1 - (items.size : Int) = -1 := by omega
    have hit := x.2.1
    rw [e] at hit
    exact next_rt_end hh hit fun h' he' => hQ h' s.toks fun b o hb eo => he' b o (fun h => hb (by simp [h])) eo
  self := fun _ _ _ _ x hQ => iter_rt x.2.1 hQ
section
variable {prog : Program} {w : World} {A : Around} {E : Value → Shared → Prop} {s : Shared}
theorem call_rt_hint {it t : Addr} {items : Array Value} {Q : Value → Shared → Prop} (hit : IsRt s.heap it t ((items.size : Int) - 1)) (ht : IsTup s.heap t items) (hsz : items.size ≤ sizeLine)
    (hQ : ∀ k k', Q (.int items.size k) { s with toks := k' }) : wpAny (model prog w) A (call (.builtin "reversed.__length_hint__") [.ref it]) Q E s := by
  obtain ⟨o, ho, hc, hd⟩ := id hit
  rw [sizeLine_eq] at hsz
  refine wpAny_call_entry slot_rt_hint hit.typeIs entry_rt_hint ?_ (args_rt_hint _)
  unfold Builtin.«reversed.__length_hint__»
  refine wpAny_bind (wpAny_of_eq (a := Value.ref it) rfl ?_)
  refine wpAny_bind (wpAny_field ho hd (x := .ref t) rfl ?_)
  show wpAny _ _ (if _ then _ else _) _ _ s
  rw [if_neg (by intro h; cases h)]
  refine wpAny_bind (len_tuple ht (by omega) ?_)
  refine wpAny_bind (wpAny_of_eq (a := some (items.size : Int)) rfl ?_)
  try dsimp only
  refine wpAny_bind (wpAny_field (s := { s with toks := s.toks + 1 + 1 }) ho hd (x := rawInt ((items.size : Int) - 1)) rfl ?_)
  show wpAny _ _ (if (items.size : Int) < ((items.size : Int) - 1) + 1 then _ else _) _ _ _
  rw [if_neg (by omega)]
  have e : ((items.size : Int) - 1) + 1 = items.size := by omega
  rw [e]
  unfold retInt
  refine wpAny_bind (wpAny_mkInt ?_)
  exact wpAny_pure ⟨_, rfl, hQ _ _⟩
theorem hint_rt_ok {it t : Addr} {items : Array Value} {Q : Bool → Shared → Prop} (hit : IsRt s.heap it t ((items.size : Int) - 1)) (ht : IsTup s.heap t items) (hsz : items.size ≤ sizeLine)
    (hQ : ∀ k', Q ((items.size : Int) != 0) { s with toks := k' }) : wpAny (model prog w) A (Builtin.List.listLengthHint (.ref it)) Q E s := by
  unfold Builtin.List.listLengthHint
  refine wpAny_bind (wpAny_specialOf hit.typeIs nolen_rt ?_)
  show wpAny _ A (specialOf (Value.ref it) (Str.ofString "__length_hint__") >>= _) _ _ _
  refine wpAny_bind (wpAny_specialOf hit.typeIs hint_rt ?_)
  generalize hid : ("reversed.__length_hint__" : String) = id0
  wp_delta
  rw [show splitId id0 = some ("reversed", "__length_hint__") from by subst hid; decide +kernel]
  subst hid
  refine wpAny_bind (wpAny_isInstance (b := true) hit.typeIs (by rw [isSubtype_type]; kernel_rfl) ?_)
  rw [if_neg (by decide)]
  try dsimp only
  rw [if_neg (by decide +kernel)]
  refine wpAny_bind (wpAny_rule ?_)
  refine wpAny_bind (wpAny_of_eq (bind_rt_hint _) ?_)
  try dsimp only
  refine wpAny_bind (wpAny_attempt (call_rt_hint hit ht hsz fun k k' => ?_))
  try dsimp only
  obtain ⟨z, hz⟩ : ∃ z : Int, (items.size : Int) = z := ⟨_, rfl⟩
  rw [hz]
  have hQ' := hQ k'
  rw [hz] at hQ'
  have hs := hsz
  rw [sizeLine_eq] at hs
  have f1 : Builtin.List.listFitsIndex z = true := by unfold Builtin.List.listFitsIndex; simp; omega
  have f2 : Builtin.List.listTooLong z.toNat = false := by unfold Builtin.List.listTooLong; rw [decide_eq_false_iff_not, sizeLine_eq]; omega
  have ea : asInt? (Value.int z k) = pure (some z) := rfl
  try dsimp only
  refine wpAny_bind (wpAny_of_eq ea ?_)
  try dsimp only
  rw [if_neg (by rw [f1]; decide)]
  try dsimp only
  rw [if_neg (by omega)]
  try dsimp only
  rw [if_neg (by rw [f2]; decide)]
  exact wpAny_pure hQ'
theorem collect_rt {it l : Addr} {items : Array Value} {Q : List Value → Shared → Prop} (hh : A.handled = none) (hit : IsRt s.heap it l ((items.size : Int) - 1)) (hl : IsTup s.heap l items) (hne : l ≠ it) (hn : items.size ≤ sizeLine)
    (hQ : ∀ (h' : Heap) (tk : Nat) (acc : Array Value), (∀ b o, b ≠ it → s.heap.get? b = some o → h'.get? b = some o) → ItemsOf (fun i v => items[items.size - 1 - i]? = some v) acc items.size → Q acc.toList { s with heap := h', toks := tk }) :
    wpAny (model prog w) A (collect (.ref it)) Q E s := by
  have W := (walks_rt (prog := prog) (w := w) (A := A.in1) hh it l hne items hn).toS
  obtain ⟨oi, hoi, _⟩ := id hit
  obtain ⟨ol, hol, _⟩ := id hl
  have hSi : s.heap.objs.size ≠ it := Nat.ne_of_gt (Heap.lt_size hoi)
  have hSl : s.heap.objs.size ≠ l := Nat.ne_of_gt (Heap.lt_size hol)
  have hSf : s.heap.objs.size ∉ [it, l] := by simp only [List.mem_cons, List.not_mem_nil, or_false, not_or]; exact ⟨hSi, hSl⟩
  unfold collect
  refine wpAny_bind (wpAny_runValue (codeAny_builtin F.entry_proto_collect ?_))
  rw [Around.under_plainId F.plain_proto_collect _]
  show wpAny _ A.in1 (newList [] >>= fun l' => again (.builtin "list.__iadd__" ⟨[l', .ref it], []⟩)) _ _ s
  refine wpAny_bind (wpAny_newObj_type ?_)
  refine wpAny_pure ⟨plainId_quiet F.plain_list_iadd _, codeAny_builtin F.entry_list_iadd ?_⟩
  rw [Around.under_plainId F.plain_list_iadd _]
  have hS₁ : (s.heap.push { cls := .type "list", data := .seq ([] : List Value).toArray }).get? s.heap.objs.size = some { cls := .type "list", data := .seq ([] : List Value).toArray } := Heap.get?_push_size _ rfl
  have hit1 : IsRt (s.heap.push { cls := .type "list", data := .seq ([] : List Value).toArray }) it l ((items.size : Int) - 1) := hit.at fun o e => Heap.get?_push_of_some _ e
  have hl1 : IsTup (s.heap.push { cls := .type "list", data := .seq ([] : List Value).toArray }) l items := let ⟨o, ho, r⟩ := hl; ⟨o, Heap.get?_push_of_some _ ho, r⟩
  have hT : ({ s with heap := s.heap.push { cls := .type "list", data := .seq ([] : List Value).toArray } } : Shared).TypeIs (.ref it) "reversed" := IsRt.typeIs (s := { s with heap := s.heap.push { cls := .type "list", data := .seq ([] : List Value).toArray } }) hit1
  have h1 : Builtin.List.listSameRef (.ref s.heap.objs.size) (.ref it) = false := by simp [Builtin.List.listSameRef, hSi]
  show wpAny _ A.in1 (Builtin.List.listExtendWith (.ref s.heap.objs.size) (.ref it) (.ref s.heap.objs.size)) _ _ _
  unfold Builtin.List.listExtendWith
  refine wpAny_bind (wpAny_typeOf hT ?_)
  rw [if_neg (by rw [h1]; decide)]
  refine wpAny_bind (iter_rt (s := { s with heap := s.heap.push { cls := .type "list", data := .seq ([] : List Value).toArray } }) hit1 ?_)
  refine wpAny_bind (wpAny_holding ?_)
  refine hint_rt_ok (s := { s with heap := s.heap.push { cls := .type "list", data := .seq ([] : List Value).toArray } }) hit1 hl1 hn fun k' => ?_
  have e0 : ((items.size : Nat) : Int) - 1 - ((0 : Nat) : Int) = (items.size : Int) - 1 := by omega
  have z : ∀ (h2 : Heap) (k2 : Nat),
      (∀ b o, b ≠ s.heap.objs.size → (s.heap.push { cls := .type "list", data := .seq ([] : List Value).toArray }).get? b = some o → h2.get? b = some o) → IsRt h2 it l ((items.size : Int) - 1) ∧ IsTup h2 l items := fun h2 k2 ho =>
    ⟨hit1.at fun o e => ho it o (Ne.symm hSi) e, let ⟨o, hoo, r⟩ := hl1; ⟨o, ho l o (Ne.symm hSl) hoo, r⟩⟩
  by_cases c : items.size = 0
  · rw [if_neg (by rw [c]; decide +kernel)]
    obtain ⟨y1, y2⟩ := z _ k' fun _ _ _ e => e
    refine wpAny_pure ⟨plainId_quiet F.plain_extend_loop _, codeAny_extend_loopS W hn _ hSf _ items.size 0 _ _ _ rfl (Nat.zero_le _) ⟨Nat.zero_le _, by rw [e0]; exact y1, y2⟩ hS₁ (ItemsOf.nil _) fun s' acc' c' hm hS' hacc => ?_⟩
    show wpAny _ A (load s.heap.objs.size >>= _) _ _ s'
    refine wpAny_bind (wpAny_load hS' ?_)
    refine wpAny_pure ?_
    rw [Moved.eq_with hm]
    refine hQ s'.heap s'.toks acc' (fun b o hb e => hm.heap b o (fun hmem => ?_) (Heap.get?_push_of_some _ e)) hacc
    rcases List.mem_cons.mp hmem with e' | hmem
    · exact absurd (Heap.lt_size e) (by rw [e']; exact Nat.lt_irrefl _)
    · exact hb (List.mem_singleton.mp hmem)
  · have hc : ((items.size : Int) != 0) = true := by rw [bne_iff_ne]; omega
    rw [if_pos (by rw [hc]; rfl)]
    refine wpAny_bind (wpAny_rule ?_)
    refine wpAny_bind ?_
    show wpAny _ A.in1 (updateSeq s.heap.objs.size (·.push .none) >>= fun _ => updateSeq s.heap.objs.size (·.pop)) _ _ _
    refine wpAny_bind (wpAny_updateSeq hS₁ rfl ?_)
    have hS₂ := Heap.get?_update_self (Obj.mapSeq (·.push Value.none)) hS₁ rfl
    refine wpAny_updateSeq hS₂ rfl ?_
    have hS₃ := Heap.get?_update_self (Obj.mapSeq (·.pop)) hS₂ rfl
    have oth : ∀ b o, b ≠ s.heap.objs.size → (s.heap.push { cls := .type "list", data := .seq ([] : List Value).toArray }).get? b = some o →
        (((s.heap.push { cls := .type "list", data := .seq ([] : List Value).toArray }).update s.heap.objs.size (Obj.mapSeq (·.push Value.none))).update s.heap.objs.size (Obj.mapSeq (·.pop))).get? b = some o :=
      fun b o hb e => (Heap.get?_update_other _ _ (Ne.symm hb)).trans ((Heap.get?_update_other _ _ (Ne.symm hb)).trans e)
    obtain ⟨y1, y2⟩ := z _ k' oth
    refine wpAny_pure ⟨plainId_quiet F.plain_extend_loop _, codeAny_extend_loopS W hn _ hSf _ items.size 0 _ _ _ rfl (Nat.zero_le _) ⟨Nat.zero_le _, by rw [e0]; exact y1, y2⟩ hS₃ (ItemsOf.nil _) fun s' acc' c' hm hS' hacc => ?_⟩
    show wpAny _ A (load s.heap.objs.size >>= _) _ _ s'
    refine wpAny_bind (wpAny_load hS' ?_)
    refine wpAny_pure ?_
    rw [Moved.eq_with hm]
    refine hQ s'.heap s'.toks acc' (fun b o hb e => hm.heap b o (fun hmem => ?_) (oth b o (Nat.ne_of_lt (Heap.lt_size e)) (Heap.get?_push_of_some _ e))) hacc
    rcases List.mem_cons.mp hmem with e' | hmem
    · exact absurd (Heap.lt_size e) (by rw [e']; exact Nat.lt_irrefl _)
    · exact hb (List.mem_singleton.mp hmem)
theorem code_tuple_new_rt {it l : Addr} {items : Array Value} {Q₁ : Value → Shared → Prop} (hh : A.handled = none) (hit : IsRt s.heap it l ((items.size : Int) - 1)) (hl : IsTup s.heap l items) (hne : l ≠ it) (hn : items.size ≤ sizeLine)
    (h : ∀ (h' : Heap) (tk : Nat) (acc : Array Value), (∀ b o, b ≠ it → s.heap.get? b = some o → h'.get? b = some o) → ItemsOf (fun i v => items[items.size - 1 - i]? = some v) acc items.size →
      Q₁ (.ref h'.objs.size) { s with heap := h'.push { cls := .type "tuple", data := .seq acc }, toks := tk }) :
    codeAny (model prog w) A (.call (.builtin "tuple.__new__") ⟨[.type "tuple", .ref it], []⟩) (wants Q₁ E) s := by
  refine codeAny_of_tree ?_
  show wpAny _ A.in1 (do checkBuiltinCall "tuple.__new__" ⟨[.type "tuple", .ref it], []⟩; again (.builtin "tuple.__new__" ⟨[.type "tuple", .ref it], []⟩)) _ _ s
  refine wpAny_bind (wpAny_of_eq (F.newCall_tuple_1 _) (wpAny_pure ⟨plainId_quiet F.plain_tuple_new _, codeAny_builtin F.entry_tuple_new ?_⟩))
  rw [Around.under_plainId F.plain_tuple_new _]
  have hsub := sub_tuple_self
  have hinit := init_tuple_lookup
  have hmh := madeHere_tuple
  have hTI : s.TypeIs (.ref it) "reversed" := hit.typeIs
  have hh1 : A.in1.handled = none := hh
  wp_walk using wpAny_typeOf hTI, collect_rt (A := A.in1) hh1 hit hl hne hn
  intro h' tk acc hk hacc
  show wpAny _ _ (Builtin.Tuple.tupleExact acc.toList.toArray >>= fun v => ret v) _ _ _
  unfold Builtin.Tuple.tupleExact
  refine wpAny_bind (wpAny_newObj_type ?_ (by show acc.toList.toArray.size ≤ sizeLine; simp only [Array.toArray_toList]; rw [hacc.1]; exact hn))
  refine wpAny_pure ?_
  have e : acc.toList.toArray = acc := by simp
  rw [e]
  exact h h' tk acc hk hacc
theorem call_tuple_rt {it l : Addr} {items : Array Value} {Q : Value → Shared → Prop} (hh : A.handled = none) (hit : IsRt s.heap it l ((items.size : Int) - 1)) (hl : IsTup s.heap l items) (hne : l ≠ it) (hn : items.size ≤ sizeLine)
    (hQ : ∀ (h' : Heap) (tk : Nat) (acc : Array Value), (∀ b o, b ≠ it → s.heap.get? b = some o → h'.get? b = some o) → ItemsOf (fun i v => items[items.size - 1 - i]? = some v) acc items.size →
      Q (.ref h'.objs.size) { s with heap := h'.push { cls := .type "tuple", data := .seq acc }, toks := tk }) :
    wpAny (model prog w) A (call (.type "tuple") [.ref it]) Q E s := by
  refine callType_codes (Q₁ := fun obj s₁ => s₁.TypeIs obj "tuple" ∧ Q obj s₁) F.called_tuple (F.typeCall_tuple_1 _) F.entry_object_init
    (code_tuple_new_rt (A := A.in1) hh hit hl hne hn fun h' tk acc hk hacc => ⟨⟨_, Heap.get?_push_size _ rfl, rfl⟩, hQ h' tk acc hk hacc⟩) fun obj s₁ h₁ => ?_
  exact ⟨h₁.1, F.args_object_init_2 obj _, object_init_meets F.called_tuple.init.lookup F.called_tuple.made (by decide) prog w A.in1 _ s₁ ⟨h₁.1, rfl, h₁.2⟩⟩
end
end Cs

set_option Elab.async false
set_option linter.all false
set_option maxRecDepth 100000
namespace Cs
open PySem PySem.Spec PyProof.Rows L2

/-- a value as data; lists and dicts by their place in the store -/
inductive D where
  | non | bl (b : Bool) | int (i : Int) | str (s : Str) | tup (xs : List D) | loc (n : Nat)
deriving Inhabited

/-- what stands at a place of the store: a list, a list that is only read, a dict with plain keys, a dict whose keys are tuples -/
inductive SO where
  | lst (xs : List D) | ro (xs : List D) | dk (kvs : List (Key × D)) | dt (kvs : List (List Key × D))
deriving Inhabited
abbrev Sto := List SO
abbrev Ev := List (Option D)

/-- how tuples are told of: as it comes; each as one that was made (none is a constant of the text); each by its object, which has no dict -/
inductive Md where
  | loose | trk | pln
deriving DecidableEq
class Sct where
  md : Md
def SqP (K : PySem.W.Frag) (H : Hp) (a : Addr) (xs : List V) : Prop := ∃ o, (H a = some (.frz o (.tup xs)) ∨ K.lookup a = some o) ∧ o.dict = none
def SqX [Sct] (K : PySem.W.Frag) (H : Hp) (a : Addr) (xs : List V) : Prop := SqT K H a xs ∧ (Sct.md = .trk → H a = some (.tup xs)) ∧ (Sct.md = .pln → SqP K H a xs)
theorem SqX.new [Sct] {K : PySem.W.Frag} {H : Hp} {a : Addr} {xs : List V} (h : Sct.md ≠ .pln) : SqX K (upd H a (.tup xs)) a xs := ⟨SqT.of upd_same, fun _ => upd_same, fun e => absurd e h⟩
theorem SqX.newP [Sct] {K : PySem.W.Frag} {H : Hp} {a : Addr} {xs : List V} {o : Obj} (h : Sct.md = .pln) (hd : o.dict = none) : SqX K (upd H a (.frz o (.tup xs))) a xs :=
  ⟨.inl (.inr ⟨o, upd_same⟩), fun e => (by rw [h] at e; cases e), fun _ => ⟨o, .inl upd_same, hd⟩⟩
variable [Sct]
mutual
def Rp (K : PySem.W.Frag) (H : Hp) (ρ : List Addr) : D → V → Prop
  | .non, v => v = .non
  | .bl b, v => v = .bl b
  | .int i, v => v = .int i
  | .str s, v => v = .str s
  | .tup ds, v => ∃ a vs, v = .ref a ∧ SqX K H a vs ∧ RpL K H ρ ds vs
  | .loc n, v => ∃ a, v = .ref a ∧ ρ[n]? = some a
def RpL (K : PySem.W.Frag) (H : Hp) (ρ : List Addr) : List D → List V → Prop
  | [], vs => vs = []
  | d :: ds, vs => ∃ v r, vs = v :: r ∧ Rp K H ρ d v ∧ RpL K H ρ ds r
end

/-- tuples and read-only things persist -/
structure Mono (H H' : Hp) : Prop where
  tup : ∀ b xs, H b = some (.tup xs) → H' b = some (.tup xs)
  frz : ∀ b o u, H b = some (.frz o u) → H' b = some (.frz o u)
theorem Mono.refl {H : Hp} : Mono H H := ⟨fun _ _ e => e, fun _ _ _ e => e⟩
theorem Mono.trans {A B C : Hp} (h : Mono A B) (k : Mono B C) : Mono A C := ⟨fun b x e => k.tup b x (h.tup b x e), fun b o u e => k.frz b o u (h.frz b o u e)⟩
theorem Mono.sqT {K : PySem.W.Frag} {H H' : Hp} {a : Addr} {xs : List V} (m : Mono H H') (h : SqT K H a xs) : SqT K H' a xs := by
  rcases h with (h | ⟨o, h⟩) | h
  · exact .inl (.inl (m.tup _ _ h))
  · exact .inl (.inr ⟨o, m.frz _ _ _ h⟩)
  · exact .inr h
theorem Mono.sqX {K : PySem.W.Frag} {H H' : Hp} {a : Addr} {xs : List V} (m : Mono H H') (h : SqX K H a xs) : SqX K H' a xs := ⟨m.sqT h.1, fun e => m.tup _ _ (h.2.1 e), fun e => let ⟨o, z, d⟩ := h.2.2 e; ⟨o, z.elim (fun z => .inl (m.frz _ _ _ z)) .inr, d⟩⟩
theorem Mono.new {H : Hp} {p : Addr} {o : HO} (h : H p = none) : Mono H (upd H p o) :=
  ⟨fun b xs e => by rw [upd_ne (ne_of_none e h)]; exact e, fun b o u e => by rw [upd_ne (ne_of_none e h)]; exact e⟩
theorem Mono.lst {H : Hp} {p : Addr} {xs : List V} {o : HO} (h : H p = some (.lst xs)) : Mono H (upd H p o) :=
  ⟨fun b ys e => by rw [upd_ne (ne_of e h (by intro z; cases z))]; exact e, fun b o u e => by rw [upd_ne (ne_of e h (by intro z; cases z))]; exact e⟩

theorem Mono.dk {H : Hp} {p : Addr} {xs : List (Key × V)} {o : HO} (h : H p = some (.dK xs)) : Mono H (upd H p o) :=
  ⟨fun b ys e => by rw [upd_ne (ne_of e h (by intro z; cases z))]; exact e, fun b o u e => by rw [upd_ne (ne_of e h (by intro z; cases z))]; exact e⟩
theorem Mono.dt {H : Hp} {p : Addr} {xs : List (List Key × V)} {o : HO} (h : H p = some (.dT xs)) : Mono H (upd H p o) :=
  ⟨fun b ys e => by rw [upd_ne (ne_of e h (by intro z; cases z))]; exact e, fun b o u e => by rw [upd_ne (ne_of e h (by intro z; cases z))]; exact e⟩

theorem pre_get {α : Type} {l l' : List α} (h : l <+: l') {i : Nat} {a : α} (e : l[i]? = some a) : l'[i]? = some a := by
  obtain ⟨t, rfl⟩ := h
  rw [List.getElem?_append_left (List.getElem?_eq_some_iff.mp e).1]; exact e

mutual
theorem Rp.mono {K : PySem.W.Frag} {H H' : Hp} {ρ ρ' : List Addr} (m : Mono H H') (p : ρ <+: ρ') : ∀ (d : D) (v : V), Rp K H ρ d v → Rp K H' ρ' d v
  | .non, _, h => h
  | .bl _, _, h => h
  | .int _, _, h => h
  | .str _, _, h => h
  | .tup ds, v, h => by
    obtain ⟨a, vs, e, hs, hr⟩ := h
    exact ⟨a, vs, e, m.sqX hs, RpL.mono m p ds vs hr⟩
  | .loc n, v, h => by
    obtain ⟨a, e, h⟩ := h
    exact ⟨a, e, pre_get p h⟩
theorem RpL.mono {K : PySem.W.Frag} {H H' : Hp} {ρ ρ' : List Addr} (m : Mono H H') (p : ρ <+: ρ') : ∀ (ds : List D) (vs : List V), RpL K H ρ ds vs → RpL K H' ρ' ds vs
  | [], _, h => h
  | d :: ds, vs, h => by
    obtain ⟨v, r, e, h1, h2⟩ := h
    exact ⟨v, r, e, Rp.mono m p d v h1, RpL.mono m p ds r h2⟩
end
end Cs

set_option Elab.async false
set_option linter.all false
set_option maxRecDepth 100000
namespace Cs
open PySem PySem.Spec PyProof.Rows L2

/-! ### rules that the hand layer lacks -/
/-- what is wanted of a new tuple: told of as one that was made, or by its object -/
def TQ (H : Hp) (xs : List V) (Q : VK) : Prop := ∀ p o, H p = none → o.cls = .type "tuple" → o.dict = none → Q (.ref p) (upd H p (.tup xs)) ∨ Q (.ref p) (upd H p (.frz o (.tup xs)))
theorem laidT {X : Cx} {pins : List (Addr × Obj)} {σ : L2.St} {H : Hp} {s : Shared} {h' : Heap} {p : Addr} {o : Obj} {its : List Value} {n t' : Nat} {xs : List V} {Q : VK} (I : Inv X pins σ H s) (k : ∀ b u, s.heap.get? b = some u → h'.get? b = some u)
    (hp : s.heap.objs.size ≤ p) (e : h'.get? p = some o) (hc : o.cls = .type "tuple") (hd : o.dict = none) (hdat : o.data = .seq its.toArray n) (r : Vals xs its) (hz : xs.length ≤ sizeLine) (q : TQ H xs Q) :
    EP X pins σ Q (.ref p) { s with heap := h', toks := t' } := by
  have new : ObjOk X.prog X.w (upd H p (.tup xs)) h' p (.tup xs) := ⟨hz, its, r, o, e, hc, n, hdat⟩
  have hn : H p = none := I.hok.fresh hp
  rcases q p o hn hc hd with q | q
  · exact ⟨.ref p, _, I.laid k hp new, rfl, q⟩
  · have new2 : ObjOk X.prog X.w (upd H p (.frz o (.tup xs))) h' p (.frz o (.tup xs)) := ⟨e, hz, its, r, o, e, hc, n, hdat⟩
    exact ⟨.ref p, _, I.laid k hp new2, rfl, q⟩
theorem obj_there {P : Program} {w : World} {H : Hp} {h : Heap} {a : Addr} {o : HO} (x : ObjOk P w H h a o) : ∃ u, h.get? a = some u := by
  cases o with
  | lst xs => obtain ⟨_, its, n, _, z⟩ := x; exact ⟨_, z⟩
  | tup xs => obtain ⟨_, its, _, u, z, _⟩ := x; exact ⟨u, z⟩
  | dK kvs => obtain ⟨_, _, vs, _, u, es, ep, z, _⟩ := x; exact ⟨u, z⟩
  | dT kvs => obtain ⟨_, _, vs, _, u, es, ep, z, _⟩ := x; exact ⟨u, z⟩
  | set S n => obtain ⟨u, _, _, _, z, _⟩ := x; exact ⟨u, z⟩
  | ins C dx fs => obtain ⟨_, _, _, z, _⟩ := x; exact ⟨_, z⟩
  | own y => exact x
  | xd fs => obtain ⟨_, ⟨u, _, _, z, _⟩, _⟩ := x; exact ⟨u, z⟩
  | rng lo hi => obtain ⟨_, _, _, z⟩ := x; exact ⟨_, z⟩
  | frz ob u => exact ⟨_, x.1⟩
  | tbl ps => exact ⟨_, x⟩
  | met f y => exact ⟨_, x⟩
  | ext φ => exact x.2.1
section
variable {X : Cx}
theorem pairs_at {H : Hp} : ∀ {kvs : List (List Key × V)} {ys : List (List Key × Addr × Value)}, KT H kvs ys → Paired (fun (kv : List Key × V) (a : Addr) => H a = some (.tup (kv.1.map kV))) kvs (ys.map (·.2.1))
  | _, _, .nil => .nil
  | _, _, .cons h t => .cons h.2.1 (pairs_at t)
/-- list(d), the keys tuples -/
theorem call_list_dT (hc : X.calm = true) : CallR X (.type "list") (fun xs H Q => ∃ p kvs, xs = [.ref p] ∧ H p = some (.dT kvs) ∧
    ∀ q as, H q = none → Paired (fun (kv : List Key × V) (a : Addr) => H a = some (.tup (kv.1.map kV))) kvs as → Q (.ref q) (upd H q (.lst (as.map V.ref)))) := by
  intro pins s σ H xs us Q I r h
  obtain ⟨p, kvs, rfl, hp, q⟩ := h
  obtain ⟨u, rfl, ru⟩ := vals1 r
  cases ru
  obtain ⟨z, low, ys, rel, o, es, ep, ho, hx, hdat, hes, _⟩ := dt_of I.hok hp
  have hl : es.size = kvs.length := by rw [← Array.length_toList, hes, List.length_map, Paired.length rel]
  refine PySem.W.kdl_call (KdlSrc.rawDict (es := es) (ep := ep) low) (I.ok.hd hc) ⟨o, ho, hx, hdat⟩ (by rw [hl]; exact z) fun h' tk acc c hkeep hS hacc => ?_
  have key : acc.toList = ys.map fun y => Value.ref y.2.1 := by
    refine List.ext_getElem? fun j => ?_
    rw [Array.getElem?_toList, List.getElem?_map]
    cases e : acc[j]? with
    | some w =>
      obtain ⟨hi, ew⟩ := hacc.2 j w e
      have e3 : es.toList[j]? = some es[j] := by rw [Array.getElem?_toList]; exact Array.getElem?_eq_getElem hi
      rw [hes, List.getElem?_map] at e3
      cases e4 : ys[j]? with
      | none => rw [e4] at e3; cases e3
      | some y =>
        rw [e4] at e3
        have e5 := Option.some.inj e3
        rw [ew, ← e5]; rfl
    | none =>
      have hj : acc.size ≤ j := Array.getElem?_eq_none_iff.mp e
      have : ys[j]? = none := by
        rw [List.getElem?_eq_none_iff, ← Paired.length rel, ← hl, ← hacc.1]; exact hj
      rw [this]; rfl
  have as : Paired (fun (kv : List Key × V) (a : Addr) => H a = some (.tup (kv.1.map kV))) kvs (ys.map (·.2.1)) := by
    exact pairs_at rel
  refine ⟨.ref s.heap.objs.size, upd H s.heap.objs.size (.lst ((ys.map (·.2.1)).map V.ref)), I.laid hkeep (Nat.le_refl _) ⟨?_, acc.toList, c, ?_, ?_⟩, rfl, q _ _ (I.hok.fresh (Nat.le_refl _)) as⟩
  · rw [List.length_map, List.length_map, ← Paired.length rel]; exact z
  · rw [key]
    clear key hes as hl
    generalize ys = l
    induction l with
    | nil => exact .nil
    | cons y l ih => exact .cons rfl ih
  · rw [Array.toArray_toList]; exact hS
/-- tuple(reversed(a)), a a list -/
theorem pe_trev {e : Expr} {te : TE} {p1 p2 p3 p4 : Pos} (hc : X.calm = true) (g1 : Gl X "tuple") (m1 : X.mg "tuple" = none) (g2 : Gl X "reversed") (m2 : X.mg "reversed" = none) (he : PE X e te)
    (hs : starEach [e] X.env = [(false, eval e X.env)]) :
    PE X (.Call (.Name "tuple" p1) [.Call (.Name "reversed" p2) [e] [] p3] [] p4) (fun σ H Q => te σ H fun x H1 => ∃ a xs, x = .ref a ∧ (SqL X.K H1 a xs ∨ SqT X.K H1 a xs) ∧ TQ H1 xs.reverse Q) := by
  refine ⟨fun pins s σ H Q I h => ?_⟩
  refine wpAny_Call_Name_kw (ld_blt I g1 m1 (show bootBuiltins "tuple" = some (.type "tuple") from by decide +kernel) ?_)
  refine PyProof.Rows.callWith_type1 ?_ rfl rfl
  show wpAny _ _ (spliced [(false, eval (.Call (.Name "reversed" p2) [e] [] p3) X.env)]) _ _ s
  refine Calls.spliced_cons ?_
  refine wpAny_Call_Name_kw (ld_blt I g2 m2 PyProof.Rows.boot_reversed ?_)
  refine PyProof.Rows.callWith_type1 ?_ hs rfl
  rw [hs]
  show wpAny _ _ (spliced [(false, eval e X.env)]) _ _ s
  refine Calls.spliced_cons (thn (he.run pins s σ H _ I h) fun u s1 ⟨x, H1, I1, r1, a, xs, e2, hq, q⟩ => Calls.spliced_nil ?_)
  subst e2
  cases r1
  rcases hq with hq | hq
  · obtain ⟨its, rv, pl, hz⟩ := I1.list hq
    have hl := rv.length
    refine call_reversed_list pl.isList (Calls.spliced_nil ?_)
    have new : H1 s1.heap.objs.size = none := I1.hok.fresh (Nat.le_refl _)
    have there : ∀ b o, s1.heap.get? b = some o → (s1.heap.push (revObj a ((its.toArray.size : Int) - 1))).get? b = some o := fun b o z => Heap.get?_push_of_some _ z
    have ne : a ≠ s1.heap.objs.size := by
      obtain ⟨o, n, ho, _⟩ := pl
      exact Nat.ne_of_lt (Heap.lt_size ho)
    refine RT.call_tuple_rev (l := a) (items := its.toArray) (I.ok.hd hc) ⟨_, Heap.get?_push_size _ rfl, rfl, rfl⟩ (pl.isList.at fun o z => there a o z) ne (by rw [List.size_toArray, ← hl]; exact hz) fun h' tk acc hk hacc => ?_
    have eacc : acc.toList = its.reverse := by
      refine List.ext_getElem? fun j => ?_
      rw [Array.getElem?_toList]
      cases e : acc[j]? with
      | some w =>
        have hj : j < acc.size := (Array.getElem?_eq_some_iff.mp e).1
        have h1 := hacc.2 j w e
        have h2 := hacc.1
        simp only [List.size_toArray, List.getElem?_toArray] at h1 h2
        rw [List.getElem?_reverse (by omega), h1]
      | none =>
        have hj : acc.size ≤ j := Array.getElem?_eq_none_iff.mp e
        have h2 := hacc.1
        simp only [List.size_toArray] at h2
        rw [List.getElem?_eq_none (by rw [List.length_reverse]; omega)]
    have keep : ∀ b o, b ≠ s1.heap.objs.size → s1.heap.get? b = some o → h'.get? b = some o := fun b o hb z => hk b o hb (there b o z)
    obtain ⟨f0, f1, f2, f3, f4, f5⟩ := I1.fpOk (H' := H1) (Nat.le_refl _) new
    have I2 : Inv X pins σ H1 { s1 with heap := h', toks := tk } := I1.turned keep f0 f1 f3 f4 f5
    refine laidT (s := { s1 with heap := h', toks := tk }) (its := acc.toList) (n := 0) I2 (fun b o z => Heap.get?_push_of_some _ z) (Nat.le_refl _) (Heap.get?_push_size _ rfl) rfl rfl (by rw [Array.toArray_toList]) (by rw [eacc]; exact rv.reverse) (by rw [List.length_reverse]; exact hz) q
  · obtain ⟨its, rv, pl, hz⟩ := I1.tuple hq
    have hl := rv.length
    refine RT.call_reversed_tup pl (fun A E Q k => len_tuple pl (by have := line63; simp only [List.size_toArray]; omega) k) (Calls.spliced_nil ?_)
    have new : H1 s1.heap.objs.size = none := I1.hok.fresh (Nat.le_refl _)
    have there : ∀ b o, s1.heap.get? b = some o → (s1.heap.push (RT.rtObj a ((its.toArray.size : Int) - 1))).get? b = some o := fun b o z => Heap.get?_push_of_some _ z
    have ne : a ≠ s1.heap.objs.size := by
      obtain ⟨o, ho, _⟩ := pl
      exact Nat.ne_of_lt (Heap.lt_size ho)
    refine call_tuple_rt (l := a) (items := its.toArray) (I.ok.hd hc) ⟨_, Heap.get?_push_size _ rfl, rfl, rfl⟩ (let ⟨o, ho, r⟩ := pl; ⟨o, there a o ho, r⟩) ne (by rw [List.size_toArray, ← hl]; exact hz) fun h' tk acc hk hacc => ?_
    have eacc : acc.toList = its.reverse := by
      refine List.ext_getElem? fun j => ?_
      rw [Array.getElem?_toList]
      cases e : acc[j]? with
      | some w =>
        have hj : j < acc.size := (Array.getElem?_eq_some_iff.mp e).1
        have h1 := hacc.2 j w e
        have h2 := hacc.1
        simp only [List.size_toArray, List.getElem?_toArray] at h1 h2
        rw [List.getElem?_reverse (by omega), h1]
      | none =>
        have hj : acc.size ≤ j := Array.getElem?_eq_none_iff.mp e
        have h2 := hacc.1
        simp only [List.size_toArray] at h2
        rw [List.getElem?_eq_none (by rw [List.length_reverse]; omega)]
    have keep : ∀ b o, b ≠ s1.heap.objs.size → s1.heap.get? b = some o → h'.get? b = some o := fun b o hb z => hk b o hb (there b o z)
    obtain ⟨f0, f1, f2, f3, f4, f5⟩ := I1.fpOk (H' := H1) (Nat.le_refl _) new
    have I2 : Inv X pins σ H1 { s1 with heap := h', toks := tk } := I1.turned keep f0 f1 f3 f4 f5
    refine laidT (s := { s1 with heap := h', toks := tk }) (its := acc.toList) (n := 0) I2 (fun b o z => Heap.get?_push_of_some _ z) (Nat.le_refl _) (Heap.get?_push_size _ rfl) rfl rfl (by rw [Array.toArray_toList]) (by rw [eacc]; exact rv.reverse) (by rw [List.length_reverse]; exact hz) q
/-- a written tuple -/
theorem pe_tupV {es : List Expr} {ta : TA} {n : Nat} {pos : Pos} (h : PA X es ta) : PE X (.Tuple es n pos) (fun σ H Q => ta σ H fun xs H1 => xs.length ≤ sizeLine ∧ TQ H1 xs Q) := by
  refine ⟨fun pins s σ H Q I hq => wpAny_Tuple_spliced (thn (h.run pos pins s σ H _ I hq) fun us s1 ⟨xs, H1, I1, r, z, q⟩ => ⟨by rw [← r.length]; exact z, ?_⟩)⟩
  exact laidT (its := us) (t' := s1.toks) (n := 0) I1 (fun b u e => Heap.get?_push_of_some _ e) (Nat.le_refl _) (Heap.get?_push_size _ rfl) rfl rfl rfl r z q
/-- t + u -/
theorem op_catV : OpR X (binaryOp .Add) (fun x y H Q => ∃ a b xs ys, x = .ref a ∧ y = .ref b ∧ SqT X.K H a xs ∧ SqT X.K H b ys ∧ xs.length + ys.length ≤ sizeLine ∧
    (xs = [] → Q (.ref b) H) ∧ (xs ≠ [] → ys = [] → Q (.ref a) H) ∧ (xs ≠ [] → ys ≠ [] → TQ H (xs ++ ys) Q)) := by
  intro pins s σ H x y v u Q I rx ry h
  obtain ⟨a, b, xs, ys, rfl, rfl, ha, hb, hz, q0, q1, q2⟩ := h
  by_cases c1 : xs = []
  · subst c1
    exact op_catA pins s σ H _ _ v u Q I rx ry ⟨a, b, [], ys, rfl, rfl, ha, hb, hz, q0, fun z => absurd rfl z, fun z => absurd rfl z⟩
  by_cases c2 : ys = []
  · subst c2
    exact op_catA pins s σ H _ _ v u Q I rx ry ⟨a, b, xs, [], rfl, rfl, ha, hb, hz, q0, q1, fun _ z => absurd rfl z⟩
  cases rx
  cases ry
  obtain ⟨its, r1, p1, _⟩ := I.tuple ha
  obtain ⟨jts, r2, p2, _⟩ := I.tuple hb
  refine HT.cat_tup p1 p2 (fun z => c1 (r1.nil_iff.mp z)) (fun z => absurd (r2.nil_iff.mp z) c2) (fun z => ?_) (by rw [← r1.length, ← r2.length]; exact hz)
  exact laidT (its := its ++ jts) (t' := s.toks) (n := 0) I (fun b u e => Heap.get?_push_of_some _ e) (Nat.le_refl _) (Heap.get?_push_size _ rfl) rfl rfl rfl (r1.append r2) (by rw [List.length_append]; exact hz) (q2 c1 c2)
/-- t[lo:hi] -/
theorem sl_tupV : SlR X (fun x lo hi H Q => ∃ a xs, x = .ref a ∧ SqT X.K H a xs ∧ (HT.sIx xs.length 0 lo = 0 ∧ HT.sIx xs.length xs.length hi = xs.length → Q (.ref a) H) ∧
    (¬ (HT.sIx xs.length 0 lo = 0 ∧ HT.sIx xs.length xs.length hi = xs.length) → TQ H (cutV xs lo hi) Q)) := by
  intro pins s σ H x v vl vu lo hi sl Q I rx hs pl pu h
  obtain ⟨a, xs, rfl, hx, q1, q2⟩ := h
  by_cases hw : HT.sIx xs.length 0 lo = 0 ∧ HT.sIx xs.length xs.length hi = xs.length
  · exact sl_tupA pins s σ H _ v vl vu lo hi sl Q I rx hs pl pu ⟨a, xs, rfl, hx, q1, fun z => absurd hw z⟩
  cases rx
  obtain ⟨its, r, ht, hz⟩ := I.tuple hx
  have hl : its.toArray.size = xs.length := by rw [List.size_toArray]; exact r.length.symm
  refine ⟨"tuple", _, PyProof.Rows.slot_tuple_getitem.lookup, ht.typeIs, HT.getItem_tuple_cut ht hs pl pu (by rw [hl]; exact hw) ?_ (by rw [hl]; exact hz)⟩
  rw [hl]
  exact laidT (t' := s.toks) (n := 0) I (fun b u e => Heap.get?_push_of_some _ e) (Nat.le_refl _) (Heap.get?_push_size _ rfl) rfl rfl rfl ((r.drop (HT.sIx xs.length 0 lo)).take (HT.sIx xs.length xs.length hi - HT.sIx xs.length 0 lo))
    (Nat.le_trans (cutV_length xs lo hi) hz) (q2 hw)
/-- tuple(x) -/
theorem call_tupV : CallR X (.type "tuple") (fun xs H Q => ∃ p ys, xs = [.ref p] ∧ ((SqL X.K H p ys ∧ TQ H ys Q) ∨ (SqT X.K H p ys ∧ Q (.ref p) H))) := by
  intro pins s σ H xs us Q I r h
  obtain ⟨p, ys, rfl, h⟩ := h
  rcases h with ⟨hq, q⟩ | h
  · obtain ⟨u, rfl, rx⟩ := vals1 r
    cases rx
    obtain ⟨its, r', pl, hz⟩ := I.list hq
    have hl := r'.length
    refine call_tuple_list pl.isList (fun h' kp => ?_) (by simp only [List.size_toArray] <;> omega)
    have I1 : Inv X pins σ H { s with heap := h' } := I.kept (t' := s.toks) kp
    exact laidT (s := { s with heap := h' }) (its := its) (t' := s.toks) (n := 0) I1 (fun b u e => Heap.get?_push_of_some _ e) (Nat.le_refl _) (Heap.get?_push_size _ rfl) rfl rfl rfl r' hz q
  · exact call_tuple_of pins s σ H _ us Q I r ⟨p, ys, rfl, .inr h⟩
/-- pairs, by their objects -/
theorem pairs_vals {pins : List (Addr × Obj)} {σ : L2.St} {H : Hp} {s : Shared} (I : Inv X pins σ H s) : ∀ {ps : List Addr} {kvs : List (Key × V)}, Paired (fun p kv => SqT X.K H p [kV kv.1, kv.2]) ps kvs →
    ∃ (prs : List (Key × Value)) (vps : List (Value × Value)), KV kvs prs ∧ vps.length = ps.length ∧ prs.length = ps.length ∧ (∀ (j : Nat) k v, vps[j]? = some (k, v) → ∃ (b : Addr) (key : Key), ps[j]? = some b ∧ IsTup s.heap b #[k, v] ∧ prs[j]? = some (key, v) ∧ keyIs key k = true)
  | _, _, .nil => ⟨[], [], .nil, rfl, rfl, fun j k v e => by simp at e⟩
  | _, _, .cons (a := p) (b := kv) h t => by
    obtain ⟨prs, vps, r, l1, l2, hp⟩ := pairs_vals I t
    obtain ⟨its, rv, ht, _⟩ := I.tuple h
    obtain ⟨u, y, rfl, ru, ry⟩ := vals2 rv
    refine ⟨(kv.1, y) :: prs, (u, y) :: vps, .cons ⟨rfl, ry⟩ r, by simp [l1], by simp [l2], fun j k v e => ?_⟩
    cases j with
    | zero =>
      cases Option.some.inj e
      exact ⟨p, kv.1, rfl, ht, rfl, kV_is (P := X.prog) (w := X.w) ru⟩
    | succ j =>
      obtain ⟨b, key, e1, e2, e3, e4⟩ := hp j k v (by simpa using e)
      exact ⟨b, key, by simpa using e1, e2, by simpa using e3, e4⟩
theorem obj_of {pins : List (Addr × Obj)} {σ : L2.St} {H : Hp} {s : Shared} {a : Addr} {o : Obj} {u : HO} (I : Inv X pins σ H s) (h : H a = some (.frz o u) ∨ X.K.lookup a = some o) : s.heap.get? a = some o := by
  rcases h with h | h
  · exact (I.hok _ _ h).1
  · exact I.kIn a o h
/-- dict(x), x a tuple of pairs, known to have no dict of its own -/
theorem call_dict_tup (hc : X.calm = true) : CallR X (.type "dict") (fun xs H Q => ∃ (a : Addr) (ps : List Addr) (kvs : List (Key × V)) (o : Obj), xs = [.ref a] ∧ SqT X.K H a (ps.map V.ref) ∧ (H a = some (.frz o (.tup (ps.map V.ref))) ∨ X.K.lookup a = some o) ∧ o.dict = none ∧
    Paired (fun p kv => SqT X.K H p [kV kv.1, kv.2]) ps kvs ∧ ∀ p, H p = none → Q (.ref p) (upd H p (.dK (mergeK [] kvs)))) := by
  intro pins s σ H xs us Q I r h
  obtain ⟨a, ps, kvs, o, rfl, ha, ho, hd, hp, q⟩ := h
  obtain ⟨u, rfl, ru⟩ := vals1 r
  cases ru
  obtain ⟨its, rv, ht, hz⟩ := I.tuple ha
  have ei := refs_at rv
  subst ei
  rw [List.length_map] at hz
  obtain ⟨prs, vps, rel, l1, l2, hpr⟩ := pairs_vals I hp
  have hg := obj_of I ho
  obtain ⟨o', ho', hcl, n, hdat⟩ := ht
  rw [hg] at ho'
  cases ho'
  have pa : PairItems s.heap (ps.map Value.ref).toArray (fun j => ps.getD j 0) vps := by
    refine ⟨by simp [l1], fun j k v e => ?_⟩
    obtain ⟨b, key, e1, e2, _⟩ := hpr j k v e
    have e5 : ps.getD j 0 = b := by rw [List.getD_eq_getElem?_getD, e1]; rfl
    exact ⟨by simp [e1, e5], .inl (by show s.heap.IsTuple (ps.getD j 0) _; rw [e5]; exact e2)⟩
  refine PySem.call_dict_pairs (knd := mixKind X.prog X.w) (kvs := prs) (PairArg.tuple a (ps.map Value.ref).toArray (fun j => ps.getD j 0) vps) (I.ok.hd hc) ⟨⟨o, n, hg, hcl, hd, hdat⟩, pa⟩
    ⟨by rw [l2, l1], fun i key v e => ?_⟩ (by rw [l1]; exact hz) fun h' tk hm k => ?_
  · obtain ⟨b, kk, _, _, e3, e4⟩ := hpr i key v e
    exact ⟨kk, e3, e4⟩
  · have hlen : (mergeK [] kvs).length ≤ sizeLine := by
      refine Nat.le_trans (length_mergeK kvs []) ?_
      rw [List.length_nil, Nat.zero_add, rel.length, l2]
      exact hz
    exact ⟨.ref s.heap.objs.size, upd H s.heap.objs.size (.dK (mergeK [] kvs)), I.laid (t' := tk) (fun b o e => k b o (by simp) e) (Nat.le_refl _) ⟨hlen, beq_eq_false_iff_ne.mpr (Nat.ne_of_gt I.big), merged [] prs, KV.merge rel .nil, hm⟩, rfl, q _ (I.hok.fresh (Nat.le_refl _))⟩
end
end Cs

set_option Elab.async false
set_option linter.all false
set_option maxRecDepth 100000
namespace Cs
open PySem PySem.Spec PyProof.Rows L2

/-! ### dict(zip(list, tuple)) -/
section
variable {prog : Program} {w : World} {A : Around} {E : Value → Shared → Prop} {s : Shared} {z TI TO i1 i2 T : Addr} {fp1 fp2 : List Addr} {n1 n2 i : Nat} {P1 P2 : Nat → Value → Prop} {St1 St2 : Nat → Heap → Prop} {f : Bool} {oT : Obj}
theorem zipH_item0 {Q : Value → Shared → Prop} (S : ZipSep2 z TI TO i1 i2 fp1 fp2) (D1 : Draws prog w A i1 fp1 n1 P1 St1) (D2 : Draws prog w A i2 fp2 n2 P2 St2)
    (hz : IsZipHeld s.heap z TI TO T f) (hT : s.heap.get? T = some oT) (hTI : IsTupOf2 s.heap TI (.ref i1) (.ref i2)) (st1 : St1 i s.heap) (st2 : St2 i s.heap) (c1 : i < n1) (c2 : i < n2)
    (hQ : ∀ x y h' tk, P1 i x → P2 i y → IsZipHeld h' z TI TO T true → St1 (i + 1) h' → St2 (i + 1) h' → IsTupOf2 h' s.heap.objs.size x y → (∀ b o, b ≠ z → b ≠ i1 → b ≠ i2 → s.heap.get? b = some o → h'.get? b = some o) →
      Q (.ref s.heap.objs.size) { s with heap := h', toks := tk }) :
    wpAny (model prog w) A (Builtin.«zip.__next__» ⟨[.ref z], []⟩) (fun fin s' => ∃ v, fin = .done (.ret v) ∧ Q v s') E s := by
  obtain ⟨hp, gn, dr, tk0, os⟩ := s
  show wpAny _ _ (field (.ref z) 2 >>= _) _ _ _
  refine wpAny_bind (wpAny_field hz rfl (x := .bool false) rfl ?_)
  show wpAny _ _ (field (.ref z) 3 >>= _) _ _ _
  refine wpAny_bind (wpAny_field hz rfl (x := .ref TI) rfl (wpAny_bind (wpAny_seqItems hTI rfl ?_)))
  show wpAny _ _ (Builtin.SmallTypes.ownedTupleIsFree (.ref z) >>= _) _ _ _
  refine wpAny_bind (wpAny_tupleHeld_zip hz hT fun ha hza sa => ?_)
  replace sa : Heap.SameBut z hp ha := sa
  simp only [Bool.false_eq_true, if_false]
  refine wpAny_bind ?_
  rw [← Array.forIn_toList]
  simp only [List.forIn_cons, List.forIn_nil]
  refine wpAny_bind (wpAny_bind (wpAny_holding ?_))
  show wpAny _ _ (Builtin.SmallTypes.nextOf (.ref i1) >>= _) _ _ ⟨ha, gn, dr, tk0, os⟩
  refine wpAny_bind (D1.item i _ _ _ c1 (D1.over st1 sa S.zf1) fun x hb tkb px sb1 sb => wpAny_pure (wpAny_pure ?_))
  replace sb : Heap.SameBut i1 ha hb := sb
  refine wpAny_bind (wpAny_bind (wpAny_holding ?_))
  show wpAny _ _ (Builtin.SmallTypes.nextOf (.ref i2) >>= _) _ _ ⟨hb, gn, dr, tkb, os⟩
  refine wpAny_bind (D2.item i _ _ _ c2 (D2.over (D2.over st2 sa S.zf2) sb S.sep1_2) fun y hc tkc py sc2 sc => wpAny_pure (wpAny_pure (wpAny_pure ?_)))
  replace sc : Heap.SameBut i2 hb hc := sc
  show wpAny _ _ (newTuple [x, y] >>= _) _ _ ⟨hc, gn, dr, tkc, os⟩
  refine wpAny_bind (wpAny_newTuple ?_)
  have size : hc.objs.size = hp.objs.size := by rw [sc.1, sb.1, sa.1]
  have zc : IsZipHeld hc z TI TO T true := sc.extBut _ _ S.zi2 (sb.extBut _ _ S.zi1 hza)
  have old : ∀ b o, b ≠ z → b ≠ i1 → b ≠ i2 → hp.get? b = some o → hc.get? b = some o := fun b o d1 d2 d3 e => sc.extBut _ _ d3 (sb.extBut _ _ d2 (sa.extBut _ _ d1 e))
  have up : ∀ b o, hc.get? b = some o → (hc.push { cls := .type "tuple", data := .seq #[x, y] }).get? b = some o := fun b o e => Heap.get?_push_of_some _ e
  refine wpAny_pure ⟨_, rfl, ?_⟩
  show Q (.ref hc.objs.size) ⟨hc.push { cls := .type "tuple", data := .seq #[x, y] }, gn, dr, tkc, os⟩
  have new : IsTupOf2 (hc.push { cls := .type "tuple", data := .seq #[x, y] }) hc.objs.size x y := Heap.get?_push_size _ rfl
  rw [size] at new ⊢
  exact hQ x y _ tkc px py (up _ _ zc) (D1.frame _ _ _ (D1.over sb1 sc S.sep2_1) fun b _ o e => up b o e) (D2.frame _ _ _ sc2 fun b _ o e => up b o e) new fun b o d1 d2 d3 e => up b o (old b o d1 d2 d3 e)
theorem zipH_end0 {Q : Fin → Shared → Prop} (S : ZipSep2 z TI TO i1 i2 fp1 fp2) (D1 : Draws prog w A i1 fp1 n1 P1 St1) (D2 : Draws prog w A i2 fp2 n2 P2 St2)
    (hz : IsZipHeld s.heap z TI TO T f) (hT : s.heap.get? T = some oT) (hTI : IsTupOf2 s.heap TI (.ref i1) (.ref i2)) (st1 : St1 i s.heap) (st2 : St2 i s.heap) (c1 : i ≤ n1) (c2 : i ≤ n2) (c3 : i = n1 ∨ i = n2)
    (hE : ∀ h' tk e, (∀ b o, b ≠ z → b ≠ i1 → b ≠ i2 → s.heap.get? b = some o → h'.get? b = some o) → (∃ o, h'.get? e = some o ∧ o.cls = .type "StopIteration") → E (.ref e) { s with heap := h', toks := tk }) :
    wpAny (model prog w) A (Builtin.«zip.__next__» ⟨[.ref z], []⟩) Q E s := by
  obtain ⟨hp, gn, dr, tk0, os⟩ := s
  show wpAny _ _ (field (.ref z) 2 >>= _) _ _ _
  refine wpAny_bind (wpAny_field hz rfl (x := .bool false) rfl ?_)
  show wpAny _ _ (field (.ref z) 3 >>= _) _ _ _
  refine wpAny_bind (wpAny_field hz rfl (x := .ref TI) rfl (wpAny_bind (wpAny_seqItems hTI rfl ?_)))
  show wpAny _ _ (Builtin.SmallTypes.ownedTupleIsFree (.ref z) >>= _) _ _ _
  refine wpAny_bind (wpAny_tupleHeld_zip hz hT fun ha hza sa => ?_)
  replace sa : Heap.SameBut z hp ha := sa
  simp only [Bool.false_eq_true, if_false]
  refine wpAny_bind ?_
  rw [← Array.forIn_toList]
  simp only [List.forIn_cons, List.forIn_nil]
  refine wpAny_bind (wpAny_bind (wpAny_holding ?_))
  show wpAny _ _ (Builtin.SmallTypes.nextOf (.ref i1) >>= _) _ _ ⟨ha, gn, dr, tk0, os⟩
  by_cases e1 : i = n1
  · subst e1
    refine wpAny_bind (D1.done _ _ _ (D1.over st1 sa S.zf1) fun hb e sb he => ?_)
    exact hE hb tk0 e (fun b o d1 d2 _ x => sb _ _ d2 (sa.extBut _ _ d1 x)) he
  · have e2 : i = n2 := c3.resolve_left e1
    subst e2
    refine wpAny_bind (D1.item i _ _ _ (by omega) (D1.over st1 sa S.zf1) fun x hb tkb px sb1 sb => wpAny_pure (wpAny_pure ?_))
    replace sb : Heap.SameBut i1 ha hb := sb
    refine wpAny_bind (wpAny_bind (wpAny_holding ?_))
    show wpAny _ _ (Builtin.SmallTypes.nextOf (.ref i2) >>= _) _ _ ⟨hb, gn, dr, tkb, os⟩
    refine wpAny_bind (D2.done _ _ _ (D2.over (D2.over st2 sa S.zf2) sb S.sep1_2) fun hc e sc he => ?_)
    exact hE hc tkb e (fun b o d1 d2 d3 x => sc _ _ d3 (sb.extBut _ _ d2 (sa.extBut _ _ d1 x))) he
theorem zipH_item {Q : Option Value → Shared → Prop} (S : ZipSep2 z TI TO i1 i2 fp1 fp2) (D1 : Draws prog w A.in1 i1 fp1 n1 P1 St1) (D2 : Draws prog w A.in1 i2 fp2 n2 P2 St2)
    (hz : IsZipHeld s.heap z TI TO T f) (hT : s.heap.get? T = some oT) (hTI : IsTupOf2 s.heap TI (.ref i1) (.ref i2)) (st1 : St1 i s.heap) (st2 : St2 i s.heap) (c1 : i < n1) (c2 : i < n2)
    (hQ : ∀ x y h' tk, P1 i x → P2 i y → IsZipHeld h' z TI TO T true → St1 (i + 1) h' → St2 (i + 1) h' → IsTupOf2 h' s.heap.objs.size x y → (∀ b o, b ≠ z → b ≠ i1 → b ≠ i2 → s.heap.get? b = some o → h'.get? b = some o) →
      Q (some (.ref s.heap.objs.size)) { s with heap := h', toks := tk }) : wpAny (model prog w) A (pyNext (.ref z)) Q E s := by
  have ty : s.TypeIs (.ref z) "zip" := ⟨_, hz, rfl⟩
  have core := zipH_item0 (E := fun _ _ => False) (Q := fun v s' => Q (some v) s') S D1 D2 hz hT hTI st1 st2 c1 c2 hQ
  unfold pyNext
  refine wpAny_bind (wpAny_attempt (wpAny_callSpecial?_slot (name := Str.ofString "__next__") ty PySem.F.slot_zip_next (wpAny_call_entry PySem.F.slot_zip_next ty PySem.F.entry_zip_next ?_ (PySem.F.args_zip_next_1 _))))
  refine wpAny_mono core (fun fin s' h => ?_) fun _ _ e => e.elim
  obtain ⟨v, rfl, q⟩ := h
  exact ⟨v, rfl, wpAny_pure q⟩
theorem zipH_end {Q : Option Value → Shared → Prop} (S : ZipSep2 z TI TO i1 i2 fp1 fp2) (D1 : Draws prog w A.in1 i1 fp1 n1 P1 St1) (D2 : Draws prog w A.in1 i2 fp2 n2 P2 St2)
    (hz : IsZipHeld s.heap z TI TO T f) (hT : s.heap.get? T = some oT) (hTI : IsTupOf2 s.heap TI (.ref i1) (.ref i2)) (st1 : St1 i s.heap) (st2 : St2 i s.heap) (c1 : i ≤ n1) (c2 : i ≤ n2) (c3 : i = n1 ∨ i = n2)
    (hQ : ∀ h' tk, (∀ b o, b ≠ z → b ≠ i1 → b ≠ i2 → s.heap.get? b = some o → h'.get? b = some o) → Q none { s with heap := h', toks := tk }) : wpAny (model prog w) A (pyNext (.ref z)) Q E s := by
  have ty : s.TypeIs (.ref z) "zip" := ⟨_, hz, rfl⟩
  unfold pyNext
  refine wpAny_bind (wpAny_attempt (wpAny_callSpecial?_slot (name := Str.ofString "__next__") ty PySem.F.slot_zip_next (wpAny_call_entry PySem.F.slot_zip_next ty PySem.F.entry_zip_next
    (zipH_end0 S D1 D2 hz hT hTI st1 st2 c1 c2 c3 fun h' tk e k he => ?_) (PySem.F.args_zip_next_1 _))))
  obtain ⟨o, ho, hc⟩ := he
  exact wpAny_bind (wpAny_isInstance (T := "StopIteration") (b := true) ⟨o, ho, hc⟩ isSubtype_stop (wpAny_pure (hQ _ _ k)))
end
theorem zipArg {prog : Program} {w : World} {z TI TO i1 i2 l t : Addr} (S : ZipSep2 z TI TO i1 i2 [i1, l] [i2, t]) (l1 : l ≠ i1) (l2 : l ≠ TI) (t1 : t ≠ i2) (t2 : t ≠ TI) (xs ys : Array Value) :
    PairArg prog w "zip" z [z, TI, TO, i1, i2, l, t] [z, TO, i1, i2] (min xs.size ys.size) (fun i k v => xs[i]? = some k ∧ ys[i]? = some v)
      (fun h => IsZip h z TI TO .none ∧ IsTupOf2 h TI (.ref i1) (.ref i2) ∧ (∃ a b, IsTupOf2 h TO a b) ∧ (h.IsListIter i1 l 0 ∧ h.IsList l xs) ∧ h.IsTupleIter i2 t 0 ∧ h.IsTuple t ys) where
  type := fun s ok => ⟨_, ok.1, rfl⟩
  notDict := by decide
  keep := fun h h' ok k => by
    obtain ⟨a1, a2, ⟨x, y, a3⟩, ⟨a4, a5⟩, a6, a7⟩ := ok
    exact ⟨k _ _ a1, k _ _ a2, ⟨x, y, k _ _ a3⟩, ⟨a4.at fun o e => k _ o e, a5.at fun o e => k _ o e⟩, a6.at fun o e => k _ o e, a7.at fun o e => k _ o e⟩
  there := fun h ok b hb => by
    obtain ⟨a1, a2, ⟨x, y, a3⟩, ⟨⟨o1, a4, _⟩, ⟨o2, a5, _⟩⟩, ⟨o3, a6, _⟩, ⟨o4, a7, _⟩⟩ := ok
    simp only [List.mem_cons, List.not_mem_nil, or_false] at hb
    rcases hb with rfl | rfl | rfl | rfl | rfl | rfl | rfl <;> first | exact ⟨_, a1⟩ | exact ⟨_, a2⟩ | exact ⟨_, a3⟩ | exact ⟨_, a4⟩ | exact ⟨_, a6⟩ | exact ⟨_, a5⟩ | exact ⟨_, a7⟩
  sub := fun b hb => by
    simp only [List.mem_cons, List.not_mem_nil, or_false] at hb ⊢
    rcases hb with q | q | q | q <;> simp [q]
  noKeys := fun A s Q E hA ok h => getAttrOr_miss_zip ok.1 rfl rfl rfl zip_no_keys (by decide +kernel) hA h
  iter := fun A s d Q E hA ok hd hdf h => by
    obtain ⟨a1, a2, ⟨x0, y0, a3⟩, a4, a5⟩ := ok
    simp only [List.mem_cons, List.not_mem_nil, or_false, not_or] at hdf
    obtain ⟨dz, dTI, dTO, di1, di2, dl, dt⟩ := hdf
    have D1 := Draws.list (prog := prog) (w := w) (A := A.in1) hA i1 l l1 xs
    have D2 := Draws.tuple (prog := prog) (w := w) (A := A.in1) hA i2 t t1 ys
    have lz : l ≠ z := fun e => S.zf1 (by simp [e])
    have tz : t ≠ z := fun e => S.zf2 (by simp [e])
    refine wpAny_pyIter_zip a1 (h z [z, TO, i1, i2] (fun i h => IsTupOf2 h TI (.ref i1) (.ref i2) ∧ (h.IsListIter i1 l i ∧ h.IsList l xs) ∧ (h.IsTupleIter i2 t i ∧ h.IsTuple t ys) ∧
      ((IsZip h z TI TO .none ∧ ∃ a b, IsTupOf2 h TO a b) ∨ ∃ T f oT, IsZipHeld h z TI TO T f ∧ h.get? T = some oT ∧ T ≠ z ∧ T ≠ i1 ∧ T ≠ i2 ∧ T ≠ d)) s.heap s.toks ?_
      ⟨a2, a4, a5, .inl ⟨a1, x0, y0, a3⟩⟩ (fun _ _ e => e) fun b hb => .inl hb)
    refine ⟨fun hm => ?_, fun i h₁ h₂ st k => ?_, fun i s₁ Q₁ E₁ hi st hds hQ => ?_, fun s₁ Q₁ E₁ st hQ => ?_⟩
    · simp only [List.mem_cons, List.not_mem_nil, or_false] at hm
      rcases hm with e | e | e | e
      · exact dz e
      · exact dTO e
      · exact di1 e
      · exact di2 e
    · obtain ⟨b1, b2, b3, b4⟩ := st
      have fr : ∀ {b o}, b ≠ d → h₁.get? b = some o → h₂.get? b = some o := fun hb e => k _ _ hb e
      refine ⟨fr (Ne.symm dTI) b1, D1.frame _ _ _ b2 fun b hb o e => fr (fun q => ?_) e, D2.frame _ _ _ b3 fun b hb o e => fr (fun q => ?_) e, ?_⟩
      · subst q; simp at hb; rcases hb with q | q
        · exact di1 q
        · exact dl q
      · subst q; simp at hb; rcases hb with q | q
        · exact di2 q
        · exact dt q
      rcases b4 with ⟨c1, a, b, c2⟩ | ⟨T, f, oT, c1, c2, r1, r2, r3, r4⟩
      · exact .inl ⟨fr (Ne.symm dz) c1, a, b, fr (Ne.symm dTO) c2⟩
      · exact .inr ⟨T, f, oT, fr (Ne.symm dz) c1, fr r4 c2, r1, r2, r3, r4⟩
    · obtain ⟨b1, b2, b3, b4⟩ := st
      have lt : ∀ {c o}, s₁.heap.get? c = some o → s₁.heap.objs.size ≠ c := fun e => Nat.ne_of_gt (Heap.lt_size e)
      have n1 : s₁.heap.objs.size ≠ i1 := let ⟨_, e⟩ := D1.live _ _ b2; lt e
      have n2 : s₁.heap.objs.size ≠ i2 := let ⟨_, e⟩ := D2.live _ _ b3; lt e
      have hx : i < xs.size := by omega
      have hy : i < ys.size := by omega
      rcases b4 with ⟨c1, a, b, c2⟩ | ⟨T, f, oT, c1, c2, r1, r2, r3, r4⟩
      · refine wpAny_pyNext_zipD2_item S D1 D2 c1 b1 c2 b2 b3 hx hy fun x y h' tk px py e1 e2 e3 e4 e5 e6 k => ?_
        refine hQ s₁.heap.objs.size x y h' tk ⟨px, py⟩ (.inl ⟨_, e5, rfl, _, rfl⟩) ⟨k _ _ S.TIz S.TITO S.TIi1 S.TIi2 b1, e3, e4, .inr ⟨s₁.heap.objs.size, false, _, e1, e5, lt c1, n1, n2, Nat.ne_of_gt hds⟩⟩ fun b o hb e => ?_
        exact k b o (fun q => hb (by simp [q])) (fun q => hb (by simp [q])) (fun q => hb (by simp [q])) (fun q => hb (by simp [q])) e
      · refine zipH_item S D1 D2 c1 c2 b1 b2 b3 hx hy fun x y h' tk px py e1 e3 e4 e5 k => ?_
        refine hQ s₁.heap.objs.size x y h' tk ⟨px, py⟩ (.inl ⟨_, e5, rfl, _, rfl⟩) ⟨k _ _ S.TIz S.TIi1 S.TIi2 b1, e3, e4, .inr ⟨T, true, oT, e1, k _ _ r1 r2 r3 c2, r1, r2, r3, r4⟩⟩ fun b o hb e => ?_
        exact k b o (fun q => hb (by simp [q])) (fun q => hb (by simp [q])) (fun q => hb (by simp [q])) e
    · obtain ⟨b1, b2, b3, b4⟩ := st
      have c3 : min xs.size ys.size = xs.size ∨ min xs.size ys.size = ys.size := by omega
      rcases b4 with ⟨c1, a, b, c2⟩ | ⟨T, f, oT, c1, c2, r1, r2, r3, r4⟩
      · exact wpAny_pyNext_zipD2_end S D1 D2 c1 b1 c2 b2 b3 (Nat.min_le_left ..) (Nat.min_le_right ..) c3 fun h' tk k => hQ h' tk fun b o hb e => k b o (fun q => hb (by simp [q])) (fun q => hb (by simp [q])) (fun q => hb (by simp [q])) (fun q => hb (by simp [q])) e
      · exact zipH_end S D1 D2 c1 c2 b1 b2 b3 (Nat.min_le_left ..) (Nat.min_le_right ..) c3 fun h' tk k => hQ h' tk fun b o hb e => k b o (fun q => hb (by simp [q])) (fun q => hb (by simp [q])) (fun q => hb (by simp [q])) e
section
variable {X : Cx}
/-- the keys' values are those keys -/
theorem keys_at {P : Program} {w : World} : ∀ {ks : List Key} {us : List Value}, Vals (ks.map kV) us → ∀ (i : Nat) u, us[i]? = some u → ∃ k, ks[i]? = some k ∧ keyIs k u = true
  | [], _, r, i, u, e => by cases r; simp at e
  | k :: ks, _, r, i, u, e => by
    cases r with
    | cons h t =>
      cases i with
      | zero => cases Option.some.inj e; exact ⟨k, rfl, kV_is (P := P) (w := w) h⟩
      | succ i => exact keys_at (P := P) (w := w) t i u (by simpa using e)
theorem zip_kv : ∀ {ks : List Key} {ys : List V} {us : List Value}, Vals ys us → KV (ks.zip ys) (ks.zip us)
  | [], _, _, _ => .nil
  | _ :: _, _, _, .nil => .nil
  | _ :: _, _, _, .cons h t => .cons ⟨rfl, h⟩ (zip_kv t)
theorem pe_dzip {e1 e2 : Expr} {ta tb : TE} {p1 p2 p3 p4 : Pos} (hc : X.calm = true) (g1 : Gl X "dict") (m1 : X.mg "dict" = none) (g2 : Gl X "zip") (m2 : X.mg "zip" = none) (ha : PE X e1 ta) (hb : PE X e2 tb)
    (hs1 : starEach [e1, e2] X.env = (false, eval e1 X.env) :: starEach [e2] X.env) (hs2 : starEach [e2] X.env = [(false, eval e2 X.env)]) :
    PE X (.Call (.Name "dict" p1) [.Call (.Name "zip" p2) [e1, e2] [] p3] [] p4) (fun σ H Q => ta σ H fun x H1 => tb σ H1 fun y H2 => ∃ (a b : Addr) (ks : List Key) (ys : List V), x = .ref a ∧ y = .ref b ∧ SqL X.K H2 a (ks.map kV) ∧ SqT X.K H2 b ys ∧ ks.length = ys.length ∧ ys.length ≤ sizeLine ∧
      ∀ p, H2 p = none → Q (.ref p) (upd H2 p (.dK (mergeK [] (ks.zip ys))))) := by
  refine ⟨fun pins s σ H Q I h => ?_⟩
  refine wpAny_Call_Name_kw (ld_blt I g1 m1 (show bootBuiltins "dict" = some (.type "dict") from by decide +kernel) ?_)
  refine PyProof.Rows.callWith_type1 ?_ rfl rfl
  show wpAny _ _ (spliced [(false, eval (.Call (.Name "zip" p2) [e1, e2] [] p3) X.env)]) _ _ s
  refine Calls.spliced_cons ?_
  refine wpAny_Call_Name_kw (ld_blt I g2 m2 (show bootBuiltins "zip" = some (.type "zip") from by decide +kernel) ?_)
  refine PyProof.Rows.callWith_type1 ?_ hs1 (by rw [hs2]; rfl)
  rw [hs1, hs2]
  show wpAny _ _ (spliced [(false, eval e1 X.env), (false, eval e2 X.env)]) _ _ s
  refine Calls.spliced_cons (thn (ha.run pins s σ H _ I h) fun u s1 ⟨x, H1, I1, r1, q1⟩ => Calls.spliced_cons (thn (hb.run pins s1 σ H1 _ I1 q1) fun v s2 ⟨y, H2, I2, r2, a, b, ks, ys, ex, ey, qa, qb, hl, hz, q⟩ => Calls.spliced_nil ?_))
  subst ex ey
  cases r1
  cases r2
  obtain ⟨its, rv, pl, _⟩ := I2.list qa
  obtain ⟨jts, rw', pt, _⟩ := I2.tuple qb
  have la : a < s2.heap.objs.size := let ⟨_, _, e, _⟩ := pl; Heap.lt_size e
  have lb : b < s2.heap.objs.size := let ⟨_, e, _⟩ := pt; Heap.lt_size e
  refine zip_begins2 (begins_list a its.toArray) (begins_tuple b jts.toArray) pl.isList pt fun h' z1 z2 z3 z4 z5 z6 k => Calls.spliced_nil ?_
  have l1 := rv.length
  have l2 := rw'.length
  rw [List.length_map] at l1
  have S : ZipSep2 (s2.heap.objs.size + 4) (s2.heap.objs.size + 2) (s2.heap.objs.size + 3) s2.heap.objs.size (s2.heap.objs.size + 1) [s2.heap.objs.size, a] [s2.heap.objs.size + 1, b] :=
    zip_sep2 (fun c hc => by simp at hc; subst hc; exact la) fun c hc => by simp at hc; subst hc; exact lb
  have up : ∀ (c : Addr) (j : Nat), c < s2.heap.objs.size → c ≠ (s2.heap.objs.size + j : Nat) := fun c j h => Nat.ne_of_lt (Nat.lt_of_lt_of_le h (Nat.le_add_right _ _))
  obtain ⟨prs, rel, len⟩ : ∃ prs : List (Key × Value), KV (ks.zip ys) prs ∧ prs = ks.zip jts := ⟨_, zip_kv rw', rfl⟩
  have hlen : (mergeK [] (ks.zip ys)).length ≤ sizeLine := by
    refine Nat.le_trans (length_mergeK _ []) ?_
    simp only [List.length_nil, List.length_zip]
    omega
  refine PySem.call_dict_pairs (s := { s2 with heap := h' }) (knd := mixKind X.prog X.w) (kvs := prs) (zipArg S (up a 0 la) (up a 2 la) (up b 1 lb) (up b 2 lb) its.toArray jts.toArray) (I.ok.hd hc)
    ⟨z1, z2, ⟨_, _, z3⟩, ⟨⟨_, z4, rfl, rfl⟩, pl.isList.at fun o e => k _ o e⟩, ⟨_, z5, rfl, rfl⟩, Heap.IsTuple.at (show s2.heap.IsTuple b jts.toArray from pt) fun o e => k _ o e⟩ ⟨?_, ?_⟩ ?_ ?_
  · rw [len]; simp; omega
  · rintro i key v ⟨h1, h2⟩
    obtain ⟨kk, hk, hi⟩ := keys_at (P := X.prog) (w := X.w) rv i key (by simpa using h1)
    exact ⟨kk, by rw [len, List.getElem?_zip_eq_some]; exact ⟨hk, by simpa using h2⟩, hi⟩
  · simp; omega
  · intro h2 tk hm kk
    have sz : s2.heap.objs.size ≤ h'.objs.size := by rw [z6]; omega
    refine ⟨.ref h'.objs.size, upd H2 h'.objs.size (.dK (mergeK [] (ks.zip ys))), I2.laid (a := h'.objs.size) (h' := h2) (t' := tk) (fun c o e => kk c o (fun hc => ?_) (k c o e)) sz ⟨hlen, ?_, merged [] prs, KV.merge rel .nil, hm⟩, rfl, q _ (I2.hok.fresh sz)⟩
    · have lc := Heap.lt_size e
      simp only [List.mem_cons, List.not_mem_nil, or_false] at hc
      rcases hc with q | q | q | q
      · exact up c 4 lc q
      · exact up c 3 lc q
      · exact up c 0 lc q
      · exact up c 1 lc q
    · exact beq_eq_false_iff_ne.mpr (Nat.ne_of_gt (Nat.lt_of_lt_of_le I2.big sz))
end
/-! ### enumerate(tuple) -/
/-- what a new tuple is told to be: as made, or by its object -/
def tupO (pl : Bool) (o : Obj) (xs : List V) : HO := if pl = true then .frz o (.tup xs) else .tup xs
theorem tupO_ok {P : Program} {w : World} {H : Hp} {h : Heap} {p : Addr} {o : Obj} {its : List Value} {n : Nat} {xs : List V} {pl : Bool} (e : h.get? p = some o) (hc : o.cls = .type "tuple") (hdat : o.data = .seq its.toArray n) (r : Vals xs its) (hz : xs.length ≤ sizeLine) :
    ObjOk P w H h p (tupO pl o xs) := by
  have t : ObjOk P w H h p (.tup xs) := ⟨hz, its, r, o, e, hc, n, hdat⟩
  cases pl with
  | true => exact ⟨e, t⟩
  | false => exact t
/-- the tuple at a as it stands, each item in a new pair -/
def IteT (K : PySem.W.Frag) (pl : Bool) (a : Addr) : It :=
  ⟨fun i H => ∃ (xs : List V) (x : V), SqT K H a xs ∧ xs[i]? = some x, fun i H v H' => ∃ T x o, v = .ref T ∧ H T = none ∧ o.dict = none ∧ H' = upd H T (tupO pl o [.int (i : Nat), x]) ∧ ∀ xs, SqT K H a xs → xs[i]? = some x, fun i H => ∃ xs : List V, SqT K H a xs ∧ xs.length ≤ i⟩
theorem turn_enumT {P : Program} {w : World} {K : PySem.W.Frag} {elts : List Expr} {kk : Nat} {tpos : Pos} (pl : Bool) (a e it : Addr) :
    Turn P w K (.Tuple elts kk tpos) (IteT K pl a) [e, it] e (fun i h => (∃ old, IsEnum h e it ((i : Nat) : Int) old) ∧ h.IsTupleIter it a i ∧ e ≠ it) where
  mem := by simp
  obj := fun i h st b hb => by
    obtain ⟨⟨old, he⟩, ⟨o, ho, hc, hd⟩, _⟩ := st
    rcases (show b = e ∨ b = it by simpa using hb) with z | z
    · rw [z]; exact ⟨_, he, fun v q => nomatch q⟩
    · rw [z]; exact ⟨o, ho, fun v q => by rw [hd] at q; cases q⟩
  keep := fun i h h' st k => by
    obtain ⟨⟨old, he⟩, hi, hne⟩ := st
    exact ⟨⟨old, k e (by simp) _ he⟩, hi.at fun o q => k it (by simp) o q, hne⟩
  item := by
    intro X hP hw hK hc i pins s σ H E I hf st hg
    subst hP hw hK
    obtain ⟨⟨old, he⟩, hit, hei⟩ := st
    obtain ⟨xs, x, hq, hx⟩ := hg
    obtain ⟨its, rv, p, hz⟩ := I.tuple hq
    have hae : a ≠ e := by
      rintro rfl
      obtain ⟨o, z, c, _⟩ := p
      rw [he] at z; cases z; simp at c
    have hai : a ≠ it := by
      rintro rfl
      obtain ⟨o, z, c, _⟩ := p
      obtain ⟨o2, z2, c2, _⟩ := hit
      rw [z] at z2; cases z2
      rw [c] at c2; simp at c2
    obtain ⟨u, hu, ru⟩ := rv.get hx
    have D := Draws.tuple (prog := X.prog) (w := X.w) (A := X.A.in1) (I.ok.hd hc) it a hai its.toArray
    have le : e < s.heap.objs.size := Heap.lt_size he
    have li : it < s.heap.objs.size := by obtain ⟨_, q, _⟩ := hit; exact Heap.lt_size q
    have hlt : i < its.toArray.size := by rw [List.size_toArray]; exact (List.getElem?_eq_some_iff.mp hu).1
    refine wpAny_pyNext_enum_itemD D he ⟨hit, p⟩ hlt hei (by simp [hei, Ne.symm hae]) fun y h' tk py ho hti' hT hsz k => ?_
    have ey : y = u := by
      have py : its.toArray[i]? = some y := py
      rw [List.getElem?_toArray, hu] at py
      exact (Option.some.inj py).symm
    subst ey
    refine ⟨_, rfl, wpAny_letOwnedTupleGo_enum (s := { s with heap := h', toks := tk + 1 }) ho fun h2 he2 sb => ?_⟩
    replace sb : Heap.SameBut e h' h2 := sb
    have hT2 : h2.get? s.heap.objs.size = some { cls := .type "tuple", data := .seq #[.int i tk, y] } := (sb.2 _ (Nat.ne_of_gt le)).trans hT
    have new : ObjOk X.prog X.w (upd H s.heap.objs.size (tupO pl { cls := .type "tuple", data := .seq #[.int i tk, y] } [.int (i : Nat), x])) h2 s.heap.objs.size (tupO pl { cls := .type "tuple", data := .seq #[.int i tk, y] } [.int (i : Nat), x]) :=
      tupO_ok (its := [.int i tk, y]) hT2 rfl rfl (.cons ⟨_, rfl⟩ (.cons ru .nil)) (by show 2 ≤ sizeLine; decide)
    have I1 := I.turnedNew (t' := tk + 1) (ch := [e, it]) (fun b ob hb q => (sb.2 b (fun z => hb (by simp [z]))).trans (k b ob (fun z => hb (by simp [z])) (fun z => hb (by simp [z])) q)) hf (Nat.le_refl _) new
    refine ⟨.ref s.heap.objs.size, _, I1, rfl, ⟨_, x, _, rfl, I.hok.fresh (Nat.le_refl _), rfl, rfl, fun ys hy => by rw [I.tuple_inj hy hq]; exact hx⟩, ⟨⟨y, ?_⟩, hti'.1.at fun o q => (sb.2 it (Ne.symm hei)).trans q, hei⟩, fun b hb => ?_⟩
    · have e1 : ((i + 1 : Nat) : Int) = (i : Int) + 1 := by omega
      rw [e1]; exact he2
    · have lb : b < s.heap.objs.size := by
        rcases (show b = e ∨ b = it by simpa using hb) with z | z
        · rw [z]; exact le
        · rw [z]; exact li
      rw [upd_ne (Nat.ne_of_lt lb)]
      exact (hf b hb).1
  done := by
    intro X hP hw hK hc i pins s σ H E I hf st hg
    subst hP hw hK
    obtain ⟨⟨old, he⟩, hit, hei⟩ := st
    obtain ⟨xs, hq, hx⟩ := hg
    obtain ⟨its, rv, p, hz⟩ := I.tuple hq
    have hai : a ≠ it := by
      rintro rfl
      obtain ⟨o, z, c, _⟩ := p
      obtain ⟨o2, z2, c2, _⟩ := hit
      rw [z] at z2; cases z2
      rw [c] at c2; simp at c2
    obtain ⟨f0, f1, f2, f3, f4, f5⟩ := hf it (by simp)
    have hl := rv.length
    have D : Draws X.prog X.w X.A.in1 it [it, a] i (fun _ _ => True) (fun j h => j = i ∧ h.IsTupleIter it a i ∧ h.IsTuple a its.toArray) :=
      { live := fun _ _ st => let ⟨o, ho, _⟩ := st.2.1; ⟨o, ho⟩
        frame := fun _ _ _ st k => ⟨st.1, st.2.1.at fun o e => k it (by simp) o e, st.2.2.at fun o e => k a (by simp) o e⟩
        item := fun j s Q E hj st hQ => absurd st.1 (Nat.ne_of_lt hj)
        done := fun s Q E st hE => wpAny_nextOf_tuple_end (I.ok.hd hc) st.2.1 st.2.2 (Array.getElem?_eq_none (by rw [List.size_toArray]; omega)) hE }
    exact wpAny_pyNext_enum_endD D he ⟨rfl, hit, p⟩ fun h' eb => ⟨rfl, I.turned (t' := s.toks) (fun b o hb q => eb b o hb q) f0 f1 f3 f4 f5⟩
  self := fun A i s Q E st h => let ⟨⟨_, he⟩, _⟩ := st; wpAny_pyIter_enum he h
theorem meets_enumT (l : Addr) (items : Array Value) (n : Nat) (dct : Option Addr) (sl : Array (Option Value)) :
    Meets (Builtin.«enumerate.__new__» ⟨[.type "enumerate", .ref l], []⟩) (fun _ R s => s.heap.get? l = some { cls := .type "tuple", dict := dct, data := .seq items n, slots := sl } ∧
      R (.ok (.ret (.ref (s.heap.push { cls := .type "tuple_iterator", data := .fields #[.ref l, .int 0 0] }).objs.size)))
        { s with heap := (s.heap.push { cls := .type "tuple_iterator", data := .fields #[.ref l, .int 0 0] }).push { cls := .type "enumerate", data := .fields #[.none, .bool false, .ref s.heap.objs.size, rawInt 0, .none, .none] } }) :=
  .of_wp fun prog w A R s h => by
    obtain ⟨hp, g, d, tk, os⟩ := s
    obtain ⟨hl, h⟩ := h
    have hsub := sub_enumerate
    have hT : Heap.IsTuple (Shared.heap ⟨hp, g, d, tk, os⟩) l items := ⟨_, hl, rfl, n, rfl⟩
    wp_walk using AutoSeq1.wpAny_loadPart' hl
    refine wpAny_stack_any fun st => wpAny_pure ?_
    split
    · rename_i c _ _ _ _ _
      cases (c == Value.type "enumerate") <;> (wp_walk using AutoSeq1.wpAny_loadPart' hl, wpAny_pyIter_tuple hT; exact ⟨_, rfl, h⟩)
    · wp_walk using AutoSeq1.wpAny_loadPart' hl, wpAny_pyIter_tuple hT
      exact ⟨_, rfl, h⟩
theorem call_enumT {prog : Program} {w : World} {A : Around} {E : Value → Shared → Prop} {s : Shared} {l : Addr} {items : Array Value} {Q : Value → Shared → Prop} (ht : s.heap.IsTuple l items)
    (h : ∀ h', IsEnum h' (s.heap.objs.size + 1) s.heap.objs.size 0 .none → h'.IsTupleIter s.heap.objs.size l 0 → (∀ b o, s.heap.get? b = some o → h'.get? b = some o) → Q (.ref (s.heap.objs.size + 1)) { s with heap := h' }) :
    wpAny (model prog w) A (call (.type "enumerate") [.ref l]) Q E s := by
  obtain ⟨⟨c, dct, dt, sl⟩, hl, hc, n, hd⟩ := ht
  simp only at hc hd
  subst hc hd
  refine callType_new PySem.F.called_enumerate (by decide) (PySem.F.typeCall_enumerate_1 _) (PySem.F.newCall_enumerate_1 _) (fun obj => PySem.F.args_object_init_2 obj _) PySem.F.entry_enumerate_new (meets_enumT l items n dct sl) ⟨hl, ?_⟩
  have z : (s.heap.push { cls := .type "tuple_iterator", data := .fields #[.ref l, .int 0 0] }).objs.size = s.heap.objs.size + 1 := Heap.size_push ..
  show _ ∧ _
  rw [z]
  have e := Heap.get?_push_size (s.heap.push { cls := .type "tuple_iterator", data := .fields #[.ref l, .int 0 0] }) (o := { cls := .type "enumerate", data := .fields #[.none, .bool false, .ref s.heap.objs.size, rawInt 0, .none, .none] }) rfl
  rw [z] at e
  exact ⟨⟨_, e, rfl⟩, h _ e ⟨_, Heap.get?_push_of_some _ (Heap.get?_push_size _ rfl), rfl, rfl⟩ fun b o x => Heap.get?_push_of_some _ (Heap.get?_push_of_some _ x)⟩
theorem pi_enumT {X : Cx} {e : Expr} {ta : TA} {p pos tpos : Pos} {elts : List Expr} {kk : Nat} (pl : Bool) (hg : Gl X "enumerate") (hm : X.mg "enumerate" = none) (ha : PA X [e] ta) (hs : starEach [e] X.env = [(false, eval e X.env)]) :
    PI X (.Tuple elts kk tpos) (.Call (.Name "enumerate" p) [e] [] pos) (fun σ H R => ta σ H fun vs H1 => ∃ a xs, vs = [.ref a] ∧ SqT X.K H1 a xs ∧ R (IteT X.K pl a) H1) := by
  refine ⟨fun pins s σ H R I h => ?_⟩
  refine Call_ (ld_blt I hg hm boot_enumerate (PyProof.Rows.callWith_type1 (thn (ha.run pos pins s σ H _ I h) fun us s1 ⟨vs, H1, I1, r1, a, xs, ex, hq, q⟩ => ?_) hs rfl))
  subst ex
  obtain ⟨u, rfl, ru⟩ := vals1 r1
  cases ru
  obtain ⟨its, rv, p', hz⟩ := I1.tuple hq
  refine call_enumT p' fun h' he hit k => wpAny_pyIter_enum he ?_
  have I2 : Inv X pins σ H1 { s1 with heap := h' } := I1.kept (t' := s1.toks) k
  refine ⟨s1.heap.objs.size + 1, [s1.heap.objs.size + 1, s1.heap.objs.size], _, _, H1, rfl, I2, turn_enumT pl a (s1.heap.objs.size + 1) s1.heap.objs.size, ⟨⟨.none, he⟩, hit, Nat.succ_ne_self _⟩, fun b hb => ?_, q⟩
  have hle : s1.heap.objs.size ≤ b := by
    rcases (show b = s1.heap.objs.size + 1 ∨ b = s1.heap.objs.size by simpa using hb) with z | z
    · rw [z]; exact Nat.le_add_right _ _
    · rw [z]; exact Nat.le_refl _
  exact I1.fpOk hle (I1.hok.fresh hle)
end Cs

set_option Elab.async false
set_option linter.all false
set_option maxRecDepth 100000
namespace Cs
open PySem PySem.Spec PyProof.Rows L2

/-! ### displays and comprehensions of dicts whose keys are tuples -/
section
variable {X : Cx} {pins : List (Addr × Obj)} {σ : L2.St} {H : Hp} {s : Shared}
/-- what stands behind a store under a key -/
theorem put_inv {a b : Addr} {kvs : List (List Key × V)} {xs : List (List Key × Addr × Value)} {ks : List Key} {y : V} {r : Value} {h' : Heap} {tk : Nat} (I : Inv X pins σ H s) (e : H a = some (.dT kvs)) (rel : KT H kvs xs) (low : (a == sysModules) = false)
    (eb : H b = some (.tup (ks.map kV))) (ry : RelV y r) (hz : kvs.length < sizeLine) (d : h'.DictOfH (tupleKind (mixKind X.prog X.w)) a (storedH xs ks b r)) (sb : Heap.SameBut a s.heap h') :
    Inv X pins σ (upd H a (.dT (putK kvs ks y))) { s with heap := h', toks := tk } := by
  obtain ⟨q, es, ep, hq, h2, h3, h4, _, h5⟩ := d
  have hl : (putK kvs ks y).length ≤ sizeLine := by have := length_putK kvs ks y; omega
  refine d_write I (by rw [e]; exact True.intro) sb ⟨q, hq⟩ ⟨hl, low, _, (rel.put ks eb ry).keeps fun c ys ec => ?_, q, es, ep, hq, h2, h3, h4, h5⟩
  rw [upd_ne (ne_of ec e (fun z => nomatch z))]
  exact ec
/-- {k: v}, the key a tuple; the new dict stands empty meanwhile -/
theorem pe_disp1 {k v : Expr} {tk tv : TE} {pos : Pos} (hu : X.A.units + 1 < cLine) (hk : PE X k tk) (hv : PE X v tv) :
    PE X (.Dict [some k] [v] pos) (fun σ H Q => ∀ p, H p = none → tk σ (upd H p (.dT [])) fun x H1 => tv σ H1 fun y H2 => ∃ b ks, x = .ref b ∧ H2 b = some (.tup (ks.map kV)) ∧ H2 p = some (.dT []) ∧ Q (.ref p) (upd H2 p (.dT [(ks, y)]))) := by
  refine ⟨fun pins s σ H Q I h => ?_⟩
  generalize hp : s.heap.objs.size = p
  have hn : H p = none := I.hok.fresh (Nat.le_of_eq hp)
  have I1 : Inv X pins σ (upd H p (.dT [])) { s with heap := s.heap.push { cls := .type "dict", data := .dict #[] } } := by
    refine I.laid (t' := s.toks) (fun _ _ q => Heap.get?_push_of_some _ q) (Nat.le_of_eq hp) ?_
    rw [← hp]
    exact dt_empty s.heap I.big
  rw [arm_eval_Dict, zip_pairTrees [some k] [v] X.env pos rfl rfl, dictDisplay_pairs (pairTrees [some k] [v] X.env pos) (fun z => nomatch z) (by show 1 < 17; decide)]
  refine wpAny_bind (wpAny_standAt (wpAny_bind (wpAny_subDictH (knd := tupleKind (mixKind X.prog X.w)) (Q := fun d s' => wpAny (model X.prog X.w) X.A (pure (Value.ref d)) (EP X pins σ Q) X.xe s') (show X.A.units < cLine by omega) (by show 1 ≤ 15; decide) ?_)))
  refine pairTrees_cons_walk (thn (hk.run pins _ σ _ _ I1 (h p hn)) fun u s1 ⟨x, H1, J1, rx, q1⟩ => thn (hv.run pins s1 σ H1 _ J1 q1) fun u2 s2 ⟨y, H2, J2, ry, b, ks, ex, eb, ep, q⟩ => pairTrees_nil_walk ?_)
  subst ex
  cases rx
  obtain ⟨_, low, xs, rel, d0⟩ := dt_of J2.hok ep
  cases rel
  rw [hp]
  refine ⟨[(ks, b, u2)], ⟨rfl, rfl, key_of J2.hok eb, trivial⟩, d0, fun h' tk d1 sb => wpAny_pure ⟨.ref p, _, ?_, rfl, q⟩⟩
  exact put_inv (kvs := []) (ks := ks) (y := y) J2 ep .nil low eb ry (by decide) d1 sb
/-- one pair of a comprehension, stored -/
theorem set_pair {E : Value → Shared → Prop} {D b : Addr} {kvs : List (List Key × V)} {ks : List Key} {v : V} {r : Value} {Q : Unit → Shared → Prop} (hu : X.A.units + 1 < cLine) (I : Inv X pins σ H s) (hD : H D = some (.dT kvs)) (hz : kvs.length < sizeLine)
    (eb : H b = some (.tup (ks.map kV))) (rv : RelV v r) (h : ∀ s', Inv X pins σ (upd H D (.dT (putK kvs ks v))) s' → Q () s') : wpAny (model X.prog X.w) X.A (dictSet D (.ref b) r) Q E s := by
  obtain ⟨z, low, xs, rel, d⟩ := dt_of I.hok hD
  exact wpAny_dictSet_heap (hsz := by rw [← Paired.length rel]; exact z) (show X.A.units < cLine by omega) (key_of I.hok eb) d fun h' d' sb => h _ (put_inv I hD rel low eb rv hz d' sb)
end
section
variable {X : Cx}
/-- {k: v for target in iter if ..}, the keys tuples; D the new dict -/
def tDcT (wi : TI) (g : TG) (tt : TT) (tk tv : TE) (vs : List Nat) : TE := fun σ H Q => wi σ H fun J H1 => ∀ D, H1 D = none → ∃ W : Nat → Nat → Hp → Prop, (∃ m, W 0 m (upd H1 D (.dT []))) ∧ ∀ i m H, W i m H →
  (J.stop i H ∧ Q (.ref D) H) ∨ (J.go i H ∧ ∃ Nx : Hp → Prop, (∀ H', Nx H' → ∃ m', m' < m ∧ W (i + 1) m' H') ∧ ∀ x H', J.yld i H x H' → g x (wipe σ vs) H' fun σ2 H2 => wipe σ2 vs = wipe σ vs ∧ tt σ2 H2 fun b H3 =>
    if b = true then tk σ2 H3 fun y H4 => tv σ2 H4 fun z H5 => ∃ kvs ks p, y = .ref p ∧ H5 p = some (.tup (ks.map kV)) ∧ H5 D = some (.dT kvs) ∧ kvs.length < sizeLine ∧ Nx (upd H5 D (.dT (putK kvs ks z))) else Nx H3)
theorem pe_dcT {kx vx tg iter : Expr} {ifs : List Expr} {scope : Scope} {own : List (Str × Nat)} {pos : Pos} {wi : TI} {g : TG} {tt : TT} {tk tv : TE} (hu : X.A.units + 1 < cLine) (hc : X.calm = true) (hN : X.N.Nodup) (hi : PI X tg iter wi) (ok : BlkOk X.N X.env.scope scope own)
    (hg : ∀ (s : Shared) (H : Hp) (C : Addr) (cl : List (Str × Addr)) (fp : List Addr), PG (X.blk s H scope (compEnvC scope cl C X.env) fp) tg g) (ht : ∀ (s : Shared) (H : Hp) (C : Addr) (cl : List (Str × Addr)) (fp : List Addr), PTs (X.blk s H scope (compEnvC scope cl C X.env) fp) ifs tt)
    (hk : ∀ (s : Shared) (H : Hp) (C : Addr) (cl : List (Str × Addr)) (fp : List Addr), PE (X.blk s H scope (compEnvC scope cl C X.env) fp) kx tk)
    (he : ∀ (s : Shared) (H : Hp) (C : Addr) (cl : List (Str × Addr)) (fp : List Addr), PE (X.blk s H scope (compEnvC scope cl C X.env) fp) vx tv) (hs : ∀ x, foldedSetIterable iter X.env x = pure x) :
    PE X (.DictComp kx vx [⟨tg, iter, ifs, 0⟩] scope pos) (tDcT wi g tt tk tv (own.map (·.2))) := by
  refine ⟨fun pins s σ H Q I h => ?_⟩
  rw [arm_eval_DictComp]
  have fr : ∀ y ∈ scope.names, y.2 = .free → ∃ c, X.env.cells.lookup y.1 = some c := fun y hy e =>
    (ok.free y hy e).elim (fun q => I.ok.has _ (.inl q)) fun q => I.ok.has _ (.inr q)
  refine wpAny_comprehension_free rfl hs (closure_ok fr) ok.kind (fun y hy e => (ok.uniq y hy).trans (by rw [e])) (thn (hi.run pins s σ H _ I h) fun itValue sA hA => thn hA fun itRef sB hB => ?_)
  obtain ⟨it, fp, tn, J, HB, rfl, IB, T, stB, fB, q⟩ := hB
  refine wpAny_newObj_type (newEnv_comp ?_)
  -- the new dict
  obtain ⟨D, hD⟩ : ∃ D, sB.heap.objs.size = D := ⟨_, rfl⟩
  have nD : HB D = none := IB.hok.fresh (Nat.le_of_eq hD)
  obtain ⟨W, ⟨m0, w0⟩, turn⟩ := q D nD
  obtain ⟨sC, eC⟩ : ∃ sC : Shared, ({ sB with heap := sB.heap.push { cls := .type "dict", data := .dict #[] } } : Shared) = sC := ⟨_, rfl⟩
  have hC : sC.heap = sB.heap.push { cls := .type "dict", data := .dict #[] } := by rw [← eC]
  have IC : Inv X pins σ (upd HB D (.dT [])) sC := by
    rw [← eC]
    refine IB.laid (t' := sB.toks) (fun b o e => Heap.get?_push_of_some _ e) (Nat.le_of_eq hD) ?_
    rw [← hD]
    exact dt_empty sB.heap IB.big
  have below : ∀ b ∈ fp, b < sB.heap.objs.size := fun b hb => let ⟨o, e, _⟩ := T.obj _ _ stB b hb; Heap.lt_size e
  have fC : ∀ b ∈ fp, FpOk X pins (upd HB D (.dT [])) b ∧ b < sC.heap.objs.size := fun b hb =>
    ⟨⟨by rw [upd_ne (by rw [← hD]; exact Nat.ne_of_lt (below b hb))]; exact (fB b hb).1, (fB b hb).2⟩, by rw [hC, Heap.size_push]; exact Nat.lt_succ_of_lt (below b hb)⟩
  have stC : tn 0 sC.heap := T.keep _ _ _ stB fun b _ o e => by rw [hC]; exact Heap.get?_push_of_some _ e
  have ID := block_start IC ok hN fC
  obtain ⟨C, hCC⟩ : ∃ C, sC.heap.objs.size = C := ⟨_, rfl⟩
  obtain ⟨cl, hcl⟩ : ∃ cl, cellsFrom (sC.heap.objs.size + 1) scope.names (cloFrom X.env.cells scope.names []) = cl := ⟨_, rfl⟩
  obtain ⟨HC, hHC⟩ : ∃ HC, upd HB D (.dT []) = HC := ⟨_, rfl⟩
  obtain ⟨ce, hce⟩ : ∃ ce, compEnvC scope cl C X.env = ce := ⟨_, rfl⟩
  have pg := hg sC HC C cl fp
  have pt := ht sC HC C cl fp
  have pk := hk sC HC C cl fp
  have pe := he sC HC C cl fp
  rw [hcl, hCC, hHC, hce] at ID
  rw [hce] at pg pt pk pe
  rw [hHC] at IC fC w0
  have locals : ce.locals = C := by rw [← hce]; rfl
  obtain ⟨sD, eD⟩ : ∃ sD : Shared, ({ sC with heap := pushCells (sC.heap.push { cls := .type "dict", data := .dict #[] }) scope.names } : Shared) = sD := ⟨_, rfl⟩
  rw [eD] at ID
  have stD : tn 0 sD.heap := T.keep _ _ _ stC fun b _ o e => by rw [← eD]; exact pushCells_keeps _ _ _ _ (Heap.get?_push_of_some _ e)
  have still : ∀ {σ' : L2.St} {H' : Hp} {s' : Shared}, Inv (X.blk sC HC scope ce fp) [] σ' H' s' → (∀ b ∈ fp, H' b = none) → ∀ b ∈ fp, FpOk (X.blk sC HC scope ce fp) [] H' b := fun {σ' H' s'} J' hn b hb =>
    ⟨hn b hb, (J'.ok.exf b hb).1, J'.ok.exfs b hb, .inl hb, fun x c e => (J'.ok.exf b hb).2 x c e, fun p hp => absurd (show p ∈ ([] : List (Addr × Obj)) ++ [] from hp) (by simp)⟩
  have nfp : ∀ b ∈ fp, HC b = none := fun b hb => (fC b hb).1.1
  have goal : codeAny (model X.prog X.w) X.A (.compLoop (.DictComp kx vx [⟨tg, iter, ifs, 0⟩] scope pos) 0 (.ref it) (.ref D) ce) (compPost (model X.prog X.w) X.A X.xe none (EP X pins σ Q) (.ref D) C) sD := by
    refine compLoop_anyD (fun n s' => ∃ i H', Inv (X.blk sC HC scope ce fp) [] (wipe σ (own.map (·.2))) H' s' ∧ tn i s'.heap ∧ (∀ b ∈ fp, H' b = none) ∧ W i n H') ?_ m0 ⟨0, HC, ID, stD, nfp, w0⟩
    rintro n sE ⟨i, HE, IE, stE, nE, wE⟩
    rcases turn i n HE wE with ⟨stop, qq⟩ | ⟨go, Nx, hNx, step⟩
    · refine thnF (T.done (X.blk sC HC scope ce fp) rfl rfl rfl hc i [] sE _ HE (fun _ _ => False) IE (still IE nE) stE stop) fun r sF ⟨hr, IF⟩ => ?_
      subst hr
      have IG : Inv X pins σ HE sF := IC.call' (ch := fp) IF.os IF.base IF.hok IF.bare fun b hb => ⟨(fC b hb).1.2.2.2.1, (fC b hb).1.2.1, (fC b hb).1.2.2.2.2.1, (fC b hb).1.2.2.2.2.2⟩
      have nC : HE C = none := by
        have z : HE ce.locals = none := IF.free
        rwa [locals] at z
      obtain ⟨m, hns, _⟩ := IF.loc
      have hns : sF.heap.Ns ce.locals m := hns
      rw [locals] at hns
      refine ⟨m, hns, fun h2 sb => ?_⟩
      obtain ⟨g0, g1, g2, g3, g4, g5⟩ := IC.fpOk (H' := HE) (Nat.le_of_eq hCC) nC
      exact ⟨.ref D, HE, IG.turned (t' := sF.toks) (fun b o hb e => (sb.2 b hb).trans e) g0 g1 g3 g4 g5, rfl, qq⟩
    · refine thnF (T.item (X.blk sC HC scope ce fp) rfl rfl rfl hc i [] sE _ HE (fun _ _ => False) IE (still IE nE) stE go) fun r sF ⟨u, hr, hF⟩ => ?_
      subst hr
      refine thnF hF fun _ sG ⟨x, HG, IG, rG, yG, stG, nG⟩ => ?_
      have IG' := IG.pinned (still IG nG) (T.obj _ _ stG)
      refine thnF (pg.run _ sG _ HG x u _ IG' rG (step x HG yG)) fun _ sH ⟨σH, HH, IH, wH, qH⟩ => thnF (pt.run _ sH σH HH _ IH qH) fun b sK ⟨HK, IK, qK⟩ => ?_
      have next : ∀ {s' : Shared} {H' : Hp}, Inv (X.blk sC HC scope ce fp) ([] ++ pinsAt fp sG.heap) σH H' s' → Nx H' → ∃ m, m < n ∧ ∃ i H', Inv (X.blk sC HC scope ce fp) [] (wipe σ (own.map (·.2))) H' s' ∧ tn i s'.heap ∧ (∀ b ∈ fp, H' b = none) ∧ W i m H' := fun {s' H'} J' nx => by
        obtain ⟨m', lm, w'⟩ := hNx H' nx
        have pin : ∀ b ∈ fp, ∀ o, sG.heap.get? b = some o → s'.heap.get? b = some o ∧ H' b = none := fun b hb o e =>
          let z := J'.pin (b, o) (List.mem_append_right _ (List.mem_append_right _ (mem_pinsAt hb e)))
          ⟨z.1, z.2.1⟩
        have len : (wipe σ (own.map (·.2))).length = σH.length := by rw [← wH, wipe_length]
        refine ⟨m', lm, i + 1, H', (J'.unpinned (pins := [])).weak len (fun j v e => (wipe_some (by rw [wH]; exact e)).1), T.keep _ _ _ stG fun b hb o e => (pin b hb o e).1, fun b hb => ?_, w'⟩
        obtain ⟨o, e, _⟩ := T.obj _ _ stG b hb
        exact (pin b hb o e).2
      dsimp only at qK ⊢
      by_cases hb : b = true
      · rw [if_pos hb] at qK ⊢
        refine thnF (pk.run _ sK σH HK _ IK qK) fun kv sL ⟨yk, HL, IL, rL, qL⟩ => thnF (pe.run _ sL σH HL _ IL qL) fun vv sM ⟨yv, HM, IM, rM, kvs, ks, p, ek, ep, eD, hz, nx⟩ => ?_
        subst ek
        cases rL
        exact set_pair (X := X.blk sC HC scope ce fp) hu IM eD hz ep rM fun sN IN => next IN nx
      · rw [if_neg hb] at qK ⊢
        exact next IK qK
  have fin := codeAny_compStart_dict goal (T.self X.A 0 _ _ _ stD goal)
  clear goal still pg pt pk pe nfp
  subst eD hce hcl hHC hCC eC hD
  exact fin
end
end Cs

set_option Elab.async false
set_option linter.all false
set_option maxRecDepth 100000
namespace Cs
open PySem PySem.Spec PyProof.Rows L2
variable [Sct]

/-! ### the store held -/
def SqF (K : PySem.W.Frag) (H : Hp) (a : Addr) (xs : List V) : Prop :=
  (∃ o, H a = some (.frz o (.lst xs))) ∨
    ∃ (o : Obj) (its : Array Value) (n : Nat), K.lookup a = some o ∧ o.cls = .type "list" ∧ o.dict = none ∧ o.data = .seq its n ∧ its.size ≤ sizeLine ∧ Vals xs its.toList
theorem SqF.l {K : PySem.W.Frag} {H : Hp} {a : Addr} {xs : List V} (h : SqF K H a xs) : SqL K H a xs := by
  rcases h with h | h
  · exact .inl (.inr h)
  · exact .inr h
theorem SqF.mono {K : PySem.W.Frag} {H H' : Hp} {a : Addr} {xs : List V} (m : Mono H H') (h : SqF K H a xs) : SqF K H' a xs := by
  rcases h with ⟨o, h⟩ | h
  · exact .inl ⟨o, m.frz _ _ _ h⟩
  · exact .inr h
def SoR (K : PySem.W.Frag) (H : Hp) (ρ : List Addr) : SO → Addr → Prop
  | .lst ds, a => ∃ vs, H a = some (.lst vs) ∧ RpL K H ρ ds vs
  | .ro ds, a => ∃ vs, SqF K H a vs ∧ RpL K H ρ ds vs
  | .dk kvs, a => ∃ vs : List (Key × V), H a = some (.dK vs) ∧ kvs.map (·.1) = vs.map (·.1) ∧ RpL K H ρ (kvs.map (·.2)) (vs.map (·.2))
  | .dt kvs, a => Sct.md = .trk ∧ ∃ vs : List (List Key × V), H a = some (.dT vs) ∧ kvs.map (·.1) = vs.map (·.1) ∧ RpL K H ρ (kvs.map (·.2)) (vs.map (·.2))
def SO.mut : SO → Bool
  | .lst _ => true
  | .dk _ => true
  | .dt _ => true
  | .ro _ => false
/-- what may be written -/
def HMut (o : HO) : Prop := (∃ xs, o = .lst xs) ∨ (∃ kvs, o = .dK kvs) ∨ ∃ kvs, o = .dT kvs
theorem HMut.mono {H : Hp} {p : Addr} {o o' : HO} (m : HMut o) (h : H p = some o) : Mono H (upd H p o') := by
  rcases m with ⟨xs, rfl⟩ | ⟨kvs, rfl⟩ | ⟨kvs, rfl⟩
  · exact Mono.lst h
  · exact Mono.dk h
  · exact Mono.dt h
structure Sr (K : PySem.W.Frag) (H : Hp) (ρ : List Addr) (S : Sto) : Prop where
  len : ρ.length = S.length
  at_ : ∀ (n : Nat) so, S[n]? = some so → ∃ a, ρ[n]? = some a ∧ SoR K H ρ so a
  inj : ∀ (n m : Nat) so so' a, S[n]? = some so → S[m]? = some so' → so.mut = true → so'.mut = true → ρ[n]? = some a → ρ[m]? = some a → n = m

section
variable {K : PySem.W.Frag} {H H' : Hp} {ρ ρ' : List Addr} {S : Sto}
theorem SoR.mono {so : SO} {a : Addr} (m : Mono H H') (p : ρ <+: ρ') (hl : ∀ o, HMut o → H a = some o → H' a = some o) (h : SoR K H ρ so a) : SoR K H' ρ' so a := by
  cases so with
  | lst ds =>
    obtain ⟨vs, e, r⟩ := h
    exact ⟨vs, hl _ (.inl ⟨_, rfl⟩) e, RpL.mono m p ds vs r⟩
  | dk kvs =>
    obtain ⟨vs, e, k, r⟩ := h
    exact ⟨vs, hl _ (.inr (.inl ⟨_, rfl⟩)) e, k, RpL.mono m p _ _ r⟩
  | dt kvs =>
    obtain ⟨on, vs, e, k, r⟩ := h
    exact ⟨on, vs, hl _ (.inr (.inr ⟨_, rfl⟩)) e, k, RpL.mono m p _ _ r⟩
  | ro ds =>
    obtain ⟨vs, e, r⟩ := h
    exact ⟨vs, e.mono m, RpL.mono m p ds vs r⟩
/-- nothing of the store changed -/
theorem Sr.keep (h : Sr K H ρ S) (m : Mono H H') (hl : ∀ a o, HMut o → H a = some o → H' a = some o) : Sr K H' ρ S := by
  refine ⟨h.len, fun n so e => ?_, h.inj⟩
  obtain ⟨a, ea, r⟩ := h.at_ n so e
  exact ⟨a, ea, r.mono m (List.prefix_refl _) (hl a)⟩
theorem Sr.addr (h : Sr K H ρ S) {n : Nat} {so : SO} (e : S[n]? = some so) : ∃ a, ρ[n]? = some a ∧ SoR K H ρ so a := h.at_ n so e
theorem Sr.newT (h : Sr K H ρ S) {p : Addr} {o : HO} (hp : H p = none) : Sr K (upd H p o) ρ S :=
  h.keep (Mono.new hp) fun a o _ e => by rw [upd_ne (ne_of_none e hp)]; exact e
theorem SoR.some_of {so : SO} {a : Addr} (h : SoR K H ρ so a) (hm : so.mut = true) : ∃ o, HMut o ∧ H a = some o := by
  cases so with
  | lst ds => obtain ⟨vs, e, _⟩ := h; exact ⟨_, .inl ⟨_, rfl⟩, e⟩
  | dk kvs => obtain ⟨vs, e, _⟩ := h; exact ⟨_, .inr (.inl ⟨_, rfl⟩), e⟩
  | dt kvs => obtain ⟨_, vs, e, _⟩ := h; exact ⟨_, .inr (.inr ⟨_, rfl⟩), e⟩
  | ro ds => cases hm
theorem Sr.newG (h : Sr K H ρ S) {p : Addr} {so : SO} {o : HO} (hp : H p = none) (r : SoR K (upd H p o) (ρ ++ [p]) so p) : Sr K (upd H p o) (ρ ++ [p]) (S ++ [so]) := by
  have pr : ρ <+: ρ ++ [p] := ⟨[p], rfl⟩
  have m : Mono H (upd H p o) := Mono.new hp
  have last : ∀ {n : Nat} {so' : SO}, (S ++ [so])[n]? = some so' → (n < S.length ∧ S[n]? = some so') ∨ (n = S.length ∧ so' = so) := by
    intro n so' e
    rcases Nat.lt_trichotomy n S.length with q | q | q
    · rw [List.getElem?_append_left q] at e; exact .inl ⟨q, e⟩
    · subst q; simp at e; exact .inr ⟨rfl, e.symm⟩
    · rw [List.getElem?_eq_none (by simp; omega)] at e; cases e
  have pl : (ρ ++ [p])[S.length]? = some p := by rw [← h.len]; simp
  refine ⟨by simp [h.len], fun n so' e => ?_, fun n m' so1 so2 a e e' hm hm' ea ea' => ?_⟩
  · rcases last e with ⟨_, e⟩ | ⟨rfl, rfl⟩
    · obtain ⟨a, ea, r'⟩ := h.at_ n so' e
      exact ⟨a, pre_get pr ea, r'.mono m pr fun o _ q => by rw [upd_ne (ne_of_none q hp)]; exact q⟩
    · exact ⟨p, pl, r⟩
  · have old : ∀ {n : Nat} {so' : SO}, S[n]? = some so' → so'.mut = true → (ρ ++ [p])[n]? = some a → ρ[n]? = some a ∧ a ≠ p := by
      intro n so' e hm ea
      obtain ⟨b, eb, rb⟩ := h.at_ n so' e
      have q := pre_get pr eb
      rw [ea] at q
      have q' : a = b := Option.some.inj q
      subst q'
      obtain ⟨xs, _, ex⟩ := rb.some_of hm
      exact ⟨eb, ne_of_none ex hp⟩
    rcases last e with ⟨_, e⟩ | ⟨rfl, rfl⟩
    · obtain ⟨q1, q2⟩ := old e hm ea
      rcases last e' with ⟨_, e'⟩ | ⟨rfl, rfl⟩
      · obtain ⟨q1', _⟩ := old e' hm' ea'
        exact h.inj n m' so1 so2 a e e' hm hm' q1 q1'
      · rw [pl] at ea'
        exact absurd (Option.some.inj ea').symm q2
    · rcases last e' with ⟨_, e'⟩ | ⟨rfl, rfl⟩
      · obtain ⟨_, q2⟩ := old e' hm' ea'
        rw [pl] at ea
        exact absurd (Option.some.inj ea).symm q2
      · rfl
theorem Sr.newL (h : Sr K H ρ S) {p : Addr} {ds : List D} {vs : List V} (hp : H p = none) (r : RpL K H ρ ds vs) : Sr K (upd H p (.lst vs)) (ρ ++ [p]) (S ++ [.lst ds]) :=
  h.newG hp ⟨vs, upd_same, RpL.mono (Mono.new hp) ⟨[p], rfl⟩ ds vs r⟩
theorem Sr.newD (h : Sr K H ρ S) {p : Addr} {kvs : List (Key × D)} {vs : List (Key × V)} (hp : H p = none) (k : kvs.map (·.1) = vs.map (·.1)) (r : RpL K H ρ (kvs.map (·.2)) (vs.map (·.2))) : Sr K (upd H p (.dK vs)) (ρ ++ [p]) (S ++ [.dk kvs]) :=
  h.newG hp ⟨vs, upd_same, k, RpL.mono (Mono.new hp) ⟨[p], rfl⟩ _ _ r⟩
theorem Sr.newE (h : Sr K H ρ S) (on : Sct.md = .trk) {p : Addr} {kvs : List (List Key × D)} {vs : List (List Key × V)} (hp : H p = none) (k : kvs.map (·.1) = vs.map (·.1)) (r : RpL K H ρ (kvs.map (·.2)) (vs.map (·.2))) : Sr K (upd H p (.dT vs)) (ρ ++ [p]) (S ++ [.dt kvs]) :=
  h.newG hp ⟨on, vs, upd_same, k, RpL.mono (Mono.new hp) ⟨[p], rfl⟩ _ _ r⟩
theorem Sr.writeG (h : Sr K H ρ S) {n : Nat} {so0 so1 : SO} {o : HO} {a : Addr} (e : S[n]? = some so0) (m0 : so0.mut = true) (ea : ρ[n]? = some a) (r : Mono H (upd H a o) → SoR K (upd H a o) ρ so1 a) :
    Sr K (upd H a o) ρ (S.set n so1) ∧ Mono H (upd H a o) := by
  obtain ⟨b, eb, r0⟩ := h.at_ n _ e
  rw [ea] at eb; cases eb
  obtain ⟨o0, ho0, hb⟩ := r0.some_of m0
  have m : Mono H (upd H a o) := ho0.mono hb
  have hn : n < S.length := (List.getElem?_eq_some_iff.mp e).1
  have at' : ∀ {k : Nat} {so : SO}, (S.set n so1)[k]? = some so → (k = n ∧ so = so1) ∨ (k ≠ n ∧ S[k]? = some so) := by
    intro k so q
    by_cases z : k = n
    · subst z; rw [List.getElem?_set_self hn] at q; exact .inl ⟨rfl, (Option.some.inj q).symm⟩
    · rw [List.getElem?_set_ne (Ne.symm z)] at q; exact .inr ⟨z, q⟩
  refine ⟨⟨by simp [h.len], fun k so q => ?_, fun k l so so' b q q' hm hm' eb eb' => ?_⟩, m⟩
  · rcases at' q with ⟨rfl, rfl⟩ | ⟨z, q⟩
    · exact ⟨a, ea, r m⟩
    · obtain ⟨b, eb, rb⟩ := h.at_ k so q
      refine ⟨b, eb, ?_⟩
      have ne : so.mut = true → b ≠ a := fun hm z' => by
        subst z'
        exact z (h.inj k n _ _ b q e hm m0 eb ea)
      cases so with
      | lst ys =>
        obtain ⟨ws, ew, rw'⟩ := rb
        exact ⟨ws, by rw [upd_ne (ne rfl)]; exact ew, RpL.mono m (List.prefix_refl _) ys ws rw'⟩
      | dk ys =>
        obtain ⟨ws, ew, kw, rw'⟩ := rb
        exact ⟨ws, by rw [upd_ne (ne rfl)]; exact ew, kw, RpL.mono m (List.prefix_refl _) _ _ rw'⟩
      | dt ys =>
        obtain ⟨on, ws, ew, kw, rw'⟩ := rb
        exact ⟨on, ws, by rw [upd_ne (ne rfl)]; exact ew, kw, RpL.mono m (List.prefix_refl _) _ _ rw'⟩
      | ro ys =>
        obtain ⟨ws, ew, rw'⟩ := rb
        exact ⟨ws, ew.mono m, RpL.mono m (List.prefix_refl _) ys ws rw'⟩
  · have back : ∀ {k : Nat} {so : SO}, (S.set n so1)[k]? = some so → so.mut = true → ∃ so0, S[k]? = some so0 ∧ so0.mut = true := by
      intro k so q hm
      rcases at' q with ⟨rfl, rfl⟩ | ⟨z, q⟩
      · exact ⟨_, e, m0⟩
      · exact ⟨_, q, hm⟩
    obtain ⟨s0, q0, n0⟩ := back q hm
    obtain ⟨s1, q1, n1⟩ := back q' hm'
    exact h.inj k l s0 s1 b q0 q1 n0 n1 eb eb'
theorem Sr.write (h : Sr K H ρ S) {n : Nat} {xs ds : List D} {vs : List V} {a : Addr} (e : S[n]? = some (.lst xs)) (ea : ρ[n]? = some a) (r : RpL K H ρ ds vs) :
    Sr K (upd H a (.lst vs)) ρ (S.set n (.lst ds)) ∧ Mono H (upd H a (.lst vs)) :=
  h.writeG e rfl ea fun m => ⟨vs, upd_same, RpL.mono m (List.prefix_refl _) ds vs r⟩
theorem Sr.writeD (h : Sr K H ρ S) {n : Nat} {xs ds : List (Key × D)} {vs : List (Key × V)} {a : Addr} (e : S[n]? = some (.dk xs)) (ea : ρ[n]? = some a) (k : ds.map (·.1) = vs.map (·.1)) (r : RpL K H ρ (ds.map (·.2)) (vs.map (·.2))) :
    Sr K (upd H a (.dK vs)) ρ (S.set n (.dk ds)) ∧ Mono H (upd H a (.dK vs)) :=
  h.writeG e rfl ea fun m => ⟨vs, upd_same, k, RpL.mono m (List.prefix_refl _) _ _ r⟩
theorem Sr.writeE (h : Sr K H ρ S) (on : Sct.md = .trk) {n : Nat} {xs ds : List (List Key × D)} {vs : List (List Key × V)} {a : Addr} (e : S[n]? = some (.dt xs)) (ea : ρ[n]? = some a) (k : ds.map (·.1) = vs.map (·.1)) (r : RpL K H ρ (ds.map (·.2)) (vs.map (·.2))) :
    Sr K (upd H a (.dT vs)) ρ (S.set n (.dt ds)) ∧ Mono H (upd H a (.dT vs)) :=
  h.writeG e rfl ea fun m => ⟨on, vs, upd_same, k, RpL.mono m (List.prefix_refl _) _ _ r⟩
theorem RpL.length : ∀ {ds : List D} {vs : List V}, RpL K H ρ ds vs → ds.length = vs.length
  | [], _, h => by cases h; rfl
  | d :: ds, _, h => by
    obtain ⟨v, r, rfl, _, h2⟩ := h
    simp [RpL.length h2]
theorem RpL.get : ∀ {ds : List D} {vs : List V} {i : Nat} {d : D}, RpL K H ρ ds vs → ds[i]? = some d → ∃ v, vs[i]? = some v ∧ Rp K H ρ d v
  | [], _, _, _, _, e => by simp at e
  | d :: ds, _, 0, _, h, e => by
    obtain ⟨v, r, rfl, h1, _⟩ := h
    simp at e; subst e
    exact ⟨v, rfl, h1⟩
  | d :: ds, _, i + 1, _, h, e => by
    obtain ⟨v, r, rfl, _, h2⟩ := h
    simp at e
    obtain ⟨u, e1, q⟩ := RpL.get h2 e
    exact ⟨u, by simpa using e1, q⟩
theorem RpL.getV : ∀ {ds : List D} {vs : List V} {i : Nat} {v : V}, RpL K H ρ ds vs → vs[i]? = some v → ∃ d, ds[i]? = some d ∧ Rp K H ρ d v
  | [], _, _, _, h, e => by cases h; simp at e
  | d :: ds, _, 0, _, h, e => by
    obtain ⟨v, r, rfl, h1, _⟩ := h
    simp at e; subst e
    exact ⟨d, rfl, h1⟩
  | d :: ds, _, i + 1, _, h, e => by
    obtain ⟨v, r, rfl, _, h2⟩ := h
    simp at e
    obtain ⟨u, e1, q⟩ := RpL.getV h2 e
    exact ⟨u, by simpa using e1, q⟩
theorem RpL.append : ∀ {ds es : List D} {vs us : List V}, RpL K H ρ ds vs → RpL K H ρ es us → RpL K H ρ (ds ++ es) (vs ++ us)
  | [], _, _, _, h, k => by cases h; exact k
  | d :: ds, _, _, _, h, k => by
    obtain ⟨v, r, rfl, h1, h2⟩ := h
    exact ⟨v, _, rfl, h1, RpL.append h2 k⟩
theorem RpL.take : ∀ {ds : List D} {vs : List V} (n : Nat), RpL K H ρ ds vs → RpL K H ρ (ds.take n) (vs.take n)
  | [], _, n, h => by cases h; simp [RpL]
  | d :: ds, _, 0, h => by simp [RpL]
  | d :: ds, _, n + 1, h => by
    obtain ⟨v, r, rfl, h1, h2⟩ := h
    exact ⟨v, _, rfl, h1, RpL.take n h2⟩
theorem RpL.drop : ∀ {ds : List D} {vs : List V} (n : Nat), RpL K H ρ ds vs → RpL K H ρ (ds.drop n) (vs.drop n)
  | [], _, n, h => by cases h; simp [RpL]
  | d :: ds, _, 0, h => h
  | d :: ds, _, n + 1, h => by
    obtain ⟨v, r, rfl, h1, h2⟩ := h
    exact RpL.drop n h2
theorem RpL.set : ∀ {ds : List D} {vs : List V} (n : Nat) {d : D} {v : V}, RpL K H ρ ds vs → Rp K H ρ d v → RpL K H ρ (ds.set n d) (vs.set n v)
  | [], _, n, _, _, h, _ => by cases h; simp [RpL]
  | d :: ds, _, 0, _, _, h, k => by
    obtain ⟨v, r, rfl, h1, h2⟩ := h
    exact ⟨_, _, rfl, k, h2⟩
  | d :: ds, _, n + 1, _, _, h, k => by
    obtain ⟨v, r, rfl, h1, h2⟩ := h
    exact ⟨v, _, rfl, h1, RpL.set n h2 k⟩
theorem RpL.one {d : D} {v : V} (h : Rp K H ρ d v) : RpL K H ρ [d] [v] := ⟨v, [], rfl, h, rfl⟩
theorem RpL.reverse : ∀ {ds : List D} {vs : List V}, RpL K H ρ ds vs → RpL K H ρ ds.reverse vs.reverse
  | [], _, h => by cases h; exact rfl
  | d :: ds, _, h => by
    obtain ⟨v, r, rfl, h1, h2⟩ := h
    simp only [List.reverse_cons]
    exact (RpL.reverse h2).append (RpL.one h1)
theorem RpL.ints : ∀ {ns : List Int} {vs : List V}, RpL K H ρ (ns.map D.int) vs ↔ vs = ns.map V.int
  | [], vs => Iff.rfl
  | n :: ns, vs => by
    constructor
    · rintro ⟨v, r, rfl, h1, h2⟩
      rw [RpL.ints.mp h2]
      cases h1; rfl
    · rintro rfl
      exact ⟨_, _, rfl, rfl, RpL.ints.mpr rfl⟩
theorem RpL.strs : ∀ {ns : List Str} {vs : List V}, RpL K H ρ (ns.map D.str) vs ↔ vs = ns.map V.str
  | [], vs => Iff.rfl
  | n :: ns, vs => by
    constructor
    · rintro ⟨v, r, rfl, h1, h2⟩
      rw [RpL.strs.mp h2]
      cases h1; rfl
    · rintro rfl
      exact ⟨_, _, rfl, rfl, RpL.strs.mpr rfl⟩
theorem RpL.bls : ∀ {ns : List Bool} {vs : List V}, RpL K H ρ (ns.map D.bl) vs ↔ vs = ns.map V.bl
  | [], vs => Iff.rfl
  | n :: ns, vs => by
    constructor
    · rintro ⟨v, r, rfl, h1, h2⟩
      rw [RpL.bls.mp h2]
      cases h1; rfl
    · rintro rfl
      exact ⟨_, _, rfl, rfl, RpL.bls.mpr rfl⟩
end

/-! ### slots -/
structure EnvR (K : PySem.W.Frag) (H : Hp) (ρ : List Addr) (env : Ev) (σ : L2.St) : Prop where
  len : env.length = σ.length
  at_ : ∀ (i : Nat) d, env[i]? = some (some d) → ∃ v, σ[i]? = some (some v) ∧ Rp K H ρ d v
section
variable {K : PySem.W.Frag} {H H' : Hp} {ρ ρ' : List Addr} {env : Ev} {σ : L2.St}
theorem EnvR.mono (h : EnvR K H ρ env σ) (m : Mono H H') (p : ρ <+: ρ') : EnvR K H' ρ' env σ :=
  ⟨h.len, fun i d e => let ⟨v, e1, r⟩ := h.at_ i d e; ⟨v, e1, r.mono m p d v⟩⟩
theorem EnvR.set (h : EnvR K H ρ env σ) {i : Nat} {d : D} {v : V} (r : Rp K H ρ d v) : EnvR K H ρ (env.set i (some d)) (σ.set i (some v)) := by
  refine ⟨by simp [h.len], fun j d' e => ?_⟩
  by_cases z : j = i
  · subst z
    have hj : j < env.length := by
      have := (List.getElem?_eq_some_iff.mp e).1
      simpa using this
    rw [List.getElem?_set_self hj] at e
    cases e
    exact ⟨v, List.getElem?_set_self (by rw [← h.len]; exact hj), r⟩
  · rw [List.getElem?_set_ne (Ne.symm z)] at e
    obtain ⟨u, e1, r1⟩ := h.at_ j d' e
    exact ⟨u, by rw [List.getElem?_set_ne (Ne.symm z)]; exact e1, r1⟩
def wipeE (env : Ev) : List Nat → Ev
  | [] => env
  | v :: vs => (wipeE env vs).set v none
theorem EnvR.wipe (h : EnvR K H ρ env σ) : ∀ vs : List Nat, EnvR K H ρ (wipeE env vs) (wipe σ vs)
  | [] => h
  | v :: vs => by
    have ih := EnvR.wipe h vs
    unfold wipeE L2.wipe
    refine ⟨by simp [ih.len], fun j d e => ?_⟩
    by_cases z : j = v
    · subst z
      have hj : j < (wipeE env vs).length := by
        have := (List.getElem?_eq_some_iff.mp e).1
        simpa using this
      rw [List.getElem?_set_self hj] at e
      cases e
    · rw [List.getElem?_set_ne (Ne.symm z)] at e
      obtain ⟨u, e1, r1⟩ := ih.at_ j d e
      exact ⟨u, by rw [List.getElem?_set_ne (Ne.symm z)]; exact e1, r1⟩
end
end Cs

set_option Elab.async false
set_option linter.all false
set_option maxRecDepth 100000
namespace Cs
open PySem PySem.Spec PyProof.Rows L2

/-! ### the own trees -/
inductive Cn where
  | non | bl (b : Bool) | int (i : Int) | str (s : String)
deriving DecidableEq
inductive Bop where
  | add | sub | mul | fdiv | mod | pow
deriving DecidableEq
inductive Cop where
  | eq | ne | lt | le | gt | ge | isin | notin
deriving DecidableEq
/-- what a loop walks -/
inductive IK where
  | seq | rng | enum | rev | zip
deriving DecidableEq
inductive Tg where
  | v (i : Nat) | t (is : List Nat)
deriving DecidableEq
inductive E where
  | var (i : Nat)
  | cn (c : Cn)
  | glb (x : String)
  | bin (op : Bop) (a b : E)
  | neg (a : E)
  | cmp (op : Cop) (a b : E)
  | isN (a : E) | notN (a : E) | isB (a : E) (b : Bool) | isi (a : E) (T : String)
  | nt (a : E)
  | and (a b : E) | or (a b : E)
  | ife (c a b : E)
  | tup (es : List E) | lst (es : List E)
  | idx (a i : E)
  | slc (a lo hi : E)
  | call (f : String) (es : List E)
  | blt (f : String) (es : List E)
  | mth (m : String) (o : E) (es : List E)
  | lc (t : Tg) (k : IK) (es : List E) (c e : E)
  | lc2 (t : Tg) (k : IK) (es : List E) (c : E) (t1 : Tg) (k1 : IK) (es1 : List E) (c1 : E) (e : E)
  | tr (e : E)
  | dnew
  | mth0 (m : String) (o : E)
  | dict1 (k v : E)
  | dc (t : Tg) (k : IK) (es : List E) (c ke ve : E)
  | gget (g : String) (i : E)
  | gin (neg : Bool) (g : String) (a : E)
  | dzip (a b : E)
  | trev (a : E)
  | lrng (a : E)
inductive S where
  | set (i : Nat) (e : E)
  | setT (is : List Nat) (e : E)
  | par (i j : Nat) (a b : E)
  | setI (o k v : E)
  | ex (e : E)
  | ret (e : E)
  | iff (c : E) (a b : List S)
  | whl (c : E) (b : List S)
  | for_ (t : Tg) (k : IK) (es : List E) (b : List S)
  | brk | cont | pass

def Cn.d : Cn → D
  | .non => .non
  | .bl b => .bl b
  | .int i => .int i
  | .str s => .str (Str.ofString s)

/-! ### the evaluator -/
def bnd {α β : Type} (m : Option (α × Sto)) (f : α → Sto → Option (β × Sto)) : Option (β × Sto) :=
  match m with
  | some (a, S) => f a S
  | none => none
@[simp] theorem bnd_some {α β : Type} (a : α) (S : Sto) (f : α → Sto → Option (β × Sto)) : bnd (some (a, S)) f = f a S := rfl
@[simp] theorem bnd_none {α β : Type} (f : α → Sto → Option (β × Sto)) : bnd none f = none := rfl
theorem bnd_inv {α β : Type} {m : Option (α × Sto)} {f : α → Sto → Option (β × Sto)} {r : β × Sto} (h : bnd m f = some r) : ∃ a S, m = some (a, S) ∧ f a S = some r := by
  cases m with
  | none => cases h
  | some p => exact ⟨p.1, p.2, rfl, h⟩

abbrev Hn := String → List D → Sto → Option (D × Sto)
structure Cfg where
  C : Hn
  G : String → Option D

def getL (S : Sto) (n : Nat) : Option (List D) :=
  match S[n]? with
  | some (.lst xs) => some xs
  | some (.ro xs) => some xs
  | _ => none
/-- a dict -/
def getK (S : Sto) (n : Nat) : Option (List (Key × D)) :=
  match S[n]? with
  | some (.dk kvs) => some kvs
  | _ => none
/-- a dict whose keys are tuples -/
def getT (S : Sto) (n : Nat) : Option (List (List Key × D)) :=
  match S[n]? with
  | some (.dt kvs) => some kvs
  | _ => none
def getM (S : Sto) (n : Nat) : Option (List D) :=
  match S[n]? with
  | some (.lst xs) => some xs
  | _ => none

/-! data without places -/
mutual
def D.pure : D → Bool
  | .loc _ => false
  | .tup xs => D.pureL xs
  | _ => true
def D.pureL : List D → Bool
  | [] => true
  | d :: ds => d.pure && D.pureL ds
end
mutual
def D.und (n : Nat) : D → Prop
  | .loc m => m < n
  | .tup xs => D.undL n xs
  | _ => True
def D.undL (n : Nat) : List D → Prop
  | [] => True
  | d :: ds => D.und n d ∧ D.undL n ds
end
def SO.und (n : Nat) : SO → Prop
  | .lst xs => D.undL n xs
  | .ro xs => D.undL n xs
  | .dk kvs => D.undL n (kvs.map (·.2))
  | .dt kvs => D.undL n (kvs.map (·.2))
mutual
def D.py : D → PyData
  | .non => .none
  | .bl b => .bool b
  | .int i => .int i
  | .str s => .str s
  | .tup xs => .tuple (D.pyL xs)
  | .loc _ => .none
def D.pyL : List D → List PyData
  | [] => []
  | d :: ds => d.py :: D.pyL ds
end
/-- comparable: no places, proper texts, not too deep -/
def D.ok (d : D) : Prop := d.pure = true ∧ SeqAt.shaped d.py = true
def okL (ds : List D) : Prop := D.pureL ds = true ∧ SeqAt.shaped (.list (D.pyL ds)) = true

/-- a value to be compared: data, or a list of data -/
noncomputable def cmpd (S : Sto) : D → Option PyData
  | .loc n => match getL S n with
    | some xs => open Classical in if okL xs then some (.list (D.pyL xs)) else none
    | none => none
  | d => open Classical in if d.ok then some d.py else none

def truth (S : Sto) : D → Option Bool
  | .non => some false
  | .bl b => some b
  | .int i => some (i != 0)
  | .str s => if s.length ≤ sizeLine then some ((s.length : Int) != 0) else none
  | .tup xs => some (!xs.isEmpty)
  | .loc n => (getL S n).map fun xs => !xs.isEmpty
def isN : D → Bool
  | .non => true
  | _ => false

def mulOk (i j : Int) : Prop := i.natAbs.log2 + j.natAbs.log2 < 1000000
instance (i j : Int) : Decidable (mulOk i j) := by unfold mulOk; infer_instance
def divOk (j : Int) : Prop := 0 < j ∧ j.natAbs.log2 < 9000
instance (j : Int) : Decidable (divOk j) := by unfold divOk; infer_instance
def powOk (i j : Int) : Prop := 0 ≤ j ∧ j ≤ 1000000 ∧ i.natAbs < 2 ^ 64
instance (i j : Int) : Decidable (powOk i j) := by unfold powOk; infer_instance

def bop (op : Bop) (x y : D) (S : Sto) : Option (D × Sto) :=
  match op, x, y with
  | .add, .int i, .int j => some (.int (i + j), S)
  | .sub, .int i, .int j => some (.int (i - j), S)
  | .mul, .int i, .int j => if mulOk i j then some (.int (i * j), S) else none
  | .fdiv, .int i, .int j => if divOk j then some (.int (i / j), S) else none
  | .mod, .int i, .int j => if 0 < j then some (.int (i % j), S) else none
  | .pow, .int i, .int j => if powOk i j then some (.int (i ^ j.toNat), S) else none
  | .add, .str a, .str b => if a.length + b.length ≤ sizeLine then some (.str (a ++ b), S) else none
  | .add, .tup xs, .tup ys => if xs.length + ys.length ≤ sizeLine then some (.tup (xs ++ ys), S) else none
  | .add, .loc n, .loc m => match getM S n, getM S m with
    | some xs, some ys => if xs.length + ys.length ≤ sizeLine then some (.loc S.length, S ++ [.lst (xs ++ ys)]) else none
    | _, _ => none
  | _, _, _ => none

/-- two ints, two texts -/
def scD : D → D → Option Bool
  | .int i, .int j => some (decide (i = j))
  | .str a, .str b => some (decide (a = b))
  | _, _ => none
noncomputable def copEq (x y : D) (S : Sto) : Option Bool :=
  match scD x y with
  | some b => some b
  | none => match cmpd S x, cmpd S y with
    | some a, some b => some (PyData.eqv a b)
    | _, _ => none
/-! dicts: keys are ints and texts -/
def keyD : D → Option Key
  | .int i => some (.inl i)
  | .str s => some (.inr s)
  | _ => none
/-- a tuple of such -/
def keyT : D → Option (List Key)
  | .tup ds => ds.mapM keyD
  | _ => none
section
variable {κ : Type} [DecidableEq κ]
def valD (kvs : List (κ × D)) (k : κ) : Option D := (kvs.find? fun kv => decide (kv.1 = k)).map (·.2)
def putD (kvs : List (κ × D)) (k : κ) (v : D) : List (κ × D) :=
  if (kvs.any fun kv => decide (kv.1 = k)) = true then kvs.map (fun kv => if kv.1 = k then (kv.1, v) else kv) else kvs ++ [(k, v)]
def mergeD (kvs more : List (κ × D)) : List (κ × D) := more.foldl (fun acc kv => putD acc kv.1 kv.2) kvs
end
/-- x is a dict: what it holds at y -/
def dkAt (x y : D) (S : Sto) : Option (Option D) :=
  match x with
  | .loc n => match S[n]? with
    | some (.dk kvs) => (keyD y).map (valD kvs)
    | some (.dt kvs) => (keyT y).map (valD kvs)
    | _ => none
  | _ => none
noncomputable def copL (op : Cop) (x y : D) (S : Sto) : Option (D × Sto) :=
  match op with
  | .eq => (copEq x y S).map fun b => (.bl b, S)
  | .ne => (copEq x y S).map fun b => (.bl (!b), S)
  | .lt => match x, y with
    | .int i, .int j => some (.bl (decide (i < j)), S)
    | _, _ => none
  | .le => match x, y with
    | .int i, .int j => some (.bl (decide (i ≤ j)), S)
    | _, _ => none
  | .gt => match x, y with
    | .int i, .int j => some (.bl (decide (j < i)), S)
    | _, _ => none
  | .ge => match x, y with
    | .int i, .int j => some (.bl (decide (j ≤ i)), S)
    | _, _ => none
  | .isin => match cmpd S x, y with
    | some a, .tup ys => open Classical in if okL ys then some (.bl ((D.pyL ys).any fun z => PyData.eqv z a), S) else none
    | some a, .loc n => match getL S n with
      | some ys => open Classical in if okL ys then some (.bl ((D.pyL ys).any fun z => PyData.eqv z a), S) else none
      | none => none
    | _, _ => none
  | .notin => match cmpd S x, y with
    | some a, .tup ys => open Classical in if okL ys then some (.bl (!(D.pyL ys).any fun z => PyData.eqv z a), S) else none
    | some a, .loc n => match getL S n with
      | some ys => open Classical in if okL ys then some (.bl (!(D.pyL ys).any fun z => PyData.eqv z a), S) else none
      | none => none
    | _, _ => none

noncomputable def cop (op : Cop) (x y : D) (S : Sto) : Option (D × Sto) :=
  match op, dkAt y x S with
  | .isin, some o => some (.bl o.isSome, S)
  | .notin, some o => some (.bl (!o.isSome), S)
  | op, _ => copL op x y S
def iopL (x i : D) (S : Sto) : Option (D × Sto) :=
  match x, i with
  | .tup xs, .int k => (atI xs k).map fun v => (v, S)
  | .loc n, .int k => match getL S n with
    | some xs => (atI xs k).map fun v => (v, S)
    | none => none
  | .str z, .int k => if z.length ≤ sizeLine then (atI z.cps.toList k).map fun c => (.str ⟨#[c]⟩, S) else none
  | _, _ => none

def iop (x i : D) (S : Sto) : Option (D × Sto) :=
  match dkAt x i S with
  | some o => o.map fun v => (v, S)
  | none => iopL x i S

def isNonE : E → Bool
  | .cn .non => true | _ => false
/-- a slice's bound: left out, or an int -/
def bndE (e : E) (d : D) : Option (Option Int) := if isNonE e = true then some none else match d with
  | .int i => some (some i)
  | _ => none
def cutD (xs : List D) (lo hi : Option Int) : List D := (xs.drop (HT.sIx xs.length 0 lo)).take (HT.sIx xs.length xs.length hi - HT.sIx xs.length 0 lo)
def slop (x : D) (lo hi : Option Int) (S : Sto) : Option (D × Sto) :=
  match x with
  | .tup xs => some (.tup (cutD xs lo hi), S)
  | .loc n => match getL S n with
    | some xs => some (.loc S.length, S ++ [.lst (cutD xs lo hi)])
    | none => none
  | _ => none

/-! ### what a loop walks -/
def smallI (j : Int) : Prop := -(2 ^ 62) ≤ j ∧ j < 2 ^ 62
instance (j : Int) : Decidable (smallI j) := by unfold smallI; infer_instance
def rngD (lo : Int) (n : Nat) : List D := (List.range n).map fun i => D.int (lo + (i : Nat))
def enumD (lo : Nat) : List D → List D
  | [] => []
  | x :: xs => .tup [.int lo, x] :: enumD (lo + 1) xs
def zipD : List D → List D → List D
  | x :: xs, y :: ys => .tup [x, y] :: zipD xs ys
  | _, _ => []
/-- the items, and what must stand still meanwhile -/
abbrev Watch := List (Nat × List D)
def items (k : IK) (vs : List D) (S : Sto) : Option (List D × Watch) :=
  match k, vs with
  | .seq, [.tup ds] => some (ds, [])
  | .seq, [.loc n] => (getL S n).map fun ds => (ds, [(n, ds)])
  | .rng, [.int j] => if smallI j then some (rngD 0 j.toNat, []) else none
  | .rng, [.int i, .int j] => if smallI i ∧ smallI j then some (rngD i (j - i).toNat, []) else none
  | .rev, [.loc n] => (getL S n).map fun ds => (ds.reverse, [(n, ds)])
  | .enum, [.tup ds] => some (enumD 0 ds, [])
  | _, _ => none
def still (w : Watch) (S : Sto) : Prop := ∀ p ∈ w, getL S p.1 = some p.2

def asg (t : Tg) (d : D) (env : Ev) : Option Ev :=
  match t with
  | .v i => some (env.set i (some d))
  | .t is => match d with
    | .tup ds => if is.length = ds.length then some ((is.zip ds).foldl (fun e p => e.set p.1 (some p.2)) env) else none
    | _ => none
def Tg.slots : Tg → List Nat
  | .v i => [i]
  | .t is => is

section
variable (cond : Ev → Sto → Option (Bool × Sto)) (elt : Ev → Sto → Option (D × Sto))
/-- a comprehension's loop: the new list at n0 -/
noncomputable def lcL (w : Watch) (t : Tg) (n0 : Nat) (env : Ev) : List D → Sto → Option (Unit × Sto)
  | [], S => open Classical in if still w S then some ((), S) else none
  | x :: xs, S => open Classical in if still w S then
      match asg t x env with
      | none => none
      | some env1 => bnd (cond env1 S) fun k S1 =>
        if k = true then bnd (elt env1 S1) fun y S2 =>
          match getM S2 n0 with
          | some acc => if acc.length < sizeLine then lcL w t n0 env xs (S2.set n0 (.lst (acc ++ [y]))) else none
          | none => none
        else lcL w t n0 env xs S1
    else none
/-- a dict comprehension's loop: the new dict at n0 -/
noncomputable def dcL (val : Ev → Sto → Option (D × Sto)) (w : Watch) (t : Tg) (n0 : Nat) (env : Ev) : List D → Sto → Option (Unit × Sto)
  | [], S => open Classical in if still w S then some ((), S) else none
  | x :: xs, S => open Classical in if still w S then
      match asg t x env with
      | none => none
      | some env1 => bnd (cond env1 S) fun k S1 =>
        if k = true then bnd (elt env1 S1) fun y S2 => bnd (val env1 S2) fun z S3 =>
          match getT S3 n0, keyT y with
          | some kvs, some kt => if kvs.length < sizeLine then dcL val w t n0 env xs (S3.set n0 (.dt (putD kvs kt z))) else none
          | _, _ => none
        else dcL val w t n0 env xs S1
    else none
/-- two clauses: the outer loop -/
noncomputable def lc2L (inner : Ev → Sto → Option (Unit × Sto)) (w : Watch) (t : Tg) (env : Ev) : List D → Sto → Option (Unit × Sto)
  | [], S => open Classical in if still w S then some ((), S) else none
  | x :: xs, S => open Classical in if still w S then
      match asg t x env with
      | none => none
      | some env1 => bnd (cond env1 S) fun k S1 => if k = true then bnd (inner env1 S1) fun _ S2 => lc2L inner w t env xs S2 else lc2L inner w t env xs S1
    else none
end

/-! ### what a call leaves: places made in between are let go -/
def Pre (S S' : Sto) : Prop := S.length ≤ S'.length ∧ ∀ i so, i < S.length → S'[i]? = some so → S[i]? = some so ∨ so.und S.length
open Classical in
noncomputable def fin (S : Sto) (r : D × Sto) : Option (D × Sto) :=
  if Pre S r.2 then
    (if r.1.und S.length then some (r.1, r.2.take S.length)
     else match r.1 with
      | .loc m => match r.2[m]? with
        | some so => if so.mut = true ∧ so.und S.length then some (.loc S.length, r.2.take S.length ++ [so]) else none
        | none => none
      | _ => none)
  else none

/-! ### built-ins, methods -/
abbrev Bf := List D → Sto → Option (D × Sto)
def bLen : Bf
  | [.tup xs], S => some (.int xs.length, S)
  | [.loc n], S => (getL S n).map fun xs => (.int xs.length, S)
  | [.str z], S => if z.length ≤ sizeLine then some (.int z.length, S) else none
  | _, _ => none
def bAbs : Bf
  | [.int i], S => some (.int (if i < 0 then -i else i), S)
  | _, _ => none
def bInt : Bf
  | [.int i], S => some (.int i, S)
  | [.bl k], S => some (.int (if k then 1 else 0), S)
  | _, _ => none
def bMax : Bf
  | [.int i, .int j], S => some (.int (if j > i then j else i), S)
  | _, _ => none
def bMin : Bf
  | [.int i, .int j], S => some (.int (if j < i then j else i), S)
  | _, _ => none
def bGcd : Bf
  | [.int i, .int j], S => some (.int ((Nat.gcd i.natAbs j.natAbs : Nat) : Int), S)
  | _, _ => none
def kD : Key → D
  | .inl i => .int i
  | .inr s => .str s
def bList : Bf
  | [.loc n], S => match S[n]? with
    | some (.dk kvs) => some (.loc S.length, S ++ [.lst (kvs.map fun kv => kD kv.1)])
    | some (.dt kvs) => some (.loc S.length, S ++ [.lst (kvs.map fun kv => .tup (kv.1.map kD))])
    | some (.lst xs) => some (.loc S.length, S ++ [.lst xs])
    | some (.ro xs) => some (.loc S.length, S ++ [.lst xs])
    | none => none
  | [.tup xs], S => some (.loc S.length, S ++ [.lst xs])
  | _, _ => none
def bTuple : Bf
  | [.loc n], S => (getL S n).map fun xs => (.tup xs, S)
  | [.tup xs], S => some (.tup xs, S)
  | _, _ => none
def D.isB : D → Option Bool
  | .bl b => some b
  | _ => none
def bls (xs : List D) : Option (List Bool) := xs.mapM D.isB
def bAll : Bf
  | [.loc n], S => (getL S n).bind fun xs => (bls xs).map fun bs => (.bl (bs.all id), S)
  | _, _ => none
def bAny : Bf
  | [.loc n], S => (getL S n).bind fun xs => (bls xs).map fun bs => (.bl (bs.any id), S)
  | _, _ => none
def D.isI : D → Option Int
  | .int i => some i
  | _ => none
def D.isS : D → Option Str
  | .str i => some i
  | _ => none
def leS (a b : Str) : Bool := !Spec.ltCps b.cps.toList a.cps.toList
def bSorted : Bf
  | [.loc n], S => match getL S n with
    | some xs => if xs.length < 64 then match xs.mapM D.isI with
        | some ns => some (.loc S.length, S ++ [.lst ((ns.mergeSort (fun a b => decide (a ≤ b))).map D.int)])
        | none => match xs.mapM D.isS with
          | some ss => some (.loc S.length, S ++ [.lst ((ss.mergeSort leS).map D.str)])
          | none => none
      else none
    | none => none
  | _, _ => none
/-- what may be shown: proper, not too deep, not too long -/
def shOk (p : PyData) : Prop := p.showable = true ∧ p.hasDict = false ∧ p.depth ≤ 64 ∧ p.shown.length ≤ sizeLine
open Classical in
noncomputable def bRepr : Bf
  | [.tup xs], S => if D.pureL xs = true ∧ shOk (D.py (.tup xs)) then some (.str (D.py (.tup xs)).shown, S) else none
  | [.bl b], S => some (.str (if b then ("True" : String) else "False"), S)
  | [.loc n], S => match getL S n with
    | some xs => if D.pureL xs = true ∧ shOk (.list (D.pyL xs)) then some (.str (PyData.list (D.pyL xs)).shown, S) else none
    | none => none
  | _, _ => none
/-- a pair, its first one a key -/
def pairD : D → Option (Key × D)
  | .tup [k, v] => (keyD k).map fun k => (k, v)
  | _ => none
def bDict : Bf
  | [.tup ps], S => if ps.length ≤ sizeLine then (ps.mapM pairD).map fun kvs => (.loc S.length, S ++ [.dk (mergeD [] kvs)]) else none
  | _, _ => none
/-- dict(zip(x, y)) -/
def dzOp (x y : D) (S : Sto) : Option (D × Sto) := match x, y with
  | .loc n, .tup ys => match getL S n with
    | some xs => match xs.mapM keyD with
      | some ks => if xs.length = ys.length ∧ ys.length ≤ sizeLine then some (.loc S.length, S ++ [.dk (mergeD [] (ks.zip ys))]) else none
      | none => none
    | none => none
  | _, _ => none
/-- list(range(x)) -/
def lrOp (x : D) (S : Sto) : Option (D × Sto) := match x with
  | .int i => if i ≤ 16777216 ∧ -16777216 ≤ i then some (.loc S.length, S ++ [.lst (rngD 0 i.toNat)]) else none
  | _ => none
/-- tuple(reversed(x)) -/
def trOp (x : D) (S : Sto) : Option (D × Sto) := match x with
  | .loc n => (getL S n).map fun xs => (.tup xs.reverse, S)
  | .tup xs => some (.tup xs.reverse, S)
  | _ => none
/-- a table of the text's top: the value at a text -/
def tabAt (d : D) (z : Str) : Option D := match d with
  | .tup ps => ps.findSome? fun p => match p with
    | .tup [.str k, v] => if k = z then some v else none
    | _ => none
  | _ => none
noncomputable def blt (f : String) : Bf :=
  match f with
  | "dict" => bDict
  | "repr" => bRepr
  | "sorted" => bSorted
  | "len" => bLen
  | "abs" => bAbs
  | "int" => bInt
  | "max" => bMax
  | "min" => bMin
  | "gcd" => bGcd
  | "list" => bList
  | "tuple" => bTuple
  | "all" => bAll
  | "any" => bAny
  | _ => fun _ _ => none
abbrev Mf := D → List D → Sto → Option (D × Sto)
def mAppend : Mf
  | .loc n, [y], S => match getM S n with
    | some xs => if xs.length < sizeLine then some (.non, S.set n (.lst (xs ++ [y]))) else none
    | none => none
  | _, _, _ => none
/-- the first place of an equal one -/
def fstEq (d : PyData) : Nat → List PyData → Option Nat
  | _, [] => none
  | k, x :: xs => if PyData.eqv x d = true then some k else fstEq d (k + 1) xs
noncomputable def mIndex : Mf
  | .loc n, [y], S => match getL S n with
    | some xs => open Classical in if okL xs ∧ y.ok then (fstEq y.py 0 (D.pyL xs)).map fun j => (.int j, S) else none
    | none => none
  | _, _, _ => none
/-- the first place of a text in a text -/
def mSindex : Mf
  | .str a, [.str b], S => match Builtin.Str.occurrences a b 0 a.length 1 with
    | i :: _ => some (.int (i : Nat), S)
    | [] => none
  | _, _, _ => none
def mInsert : Mf
  | .loc n, [.int i, y], S => match getM S n with
    | some xs => if xs.length < sizeLine ∧ 0 ≤ i ∧ i < 2 ^ 63 then some (.non, S.set n (.lst (xs.take i.toNat ++ [y] ++ xs.drop i.toNat))) else none
    | none => none
  | _, _, _ => none
/-- methods without arguments -/
def mPop (x : D) (S : Sto) : Option (D × Sto) := match x with
  | .loc n => match getM S n with
    | some xs => match xs[xs.length - 1]? with
      | some y => some (y, S.set n (.lst xs.dropLast))
      | none => none
    | none => none
  | _ => none
def mReverse (x : D) (S : Sto) : Option (D × Sto) := match x with
  | .loc n => match getM S n with
    | some xs => some (.non, S.set n (.lst xs.reverse))
    | none => none
  | _ => none
def mth0 (m : String) : D → Sto → Option (D × Sto) :=
  match m with
  | "pop" => mPop
  | "reverse" => mReverse
  | _ => fun _ _ => none
noncomputable def mth (m : String) : Mf :=
  match m with
  | "sindex" => mSindex
  | "insert" => mInsert
  | "index" => mIndex
  | "append" => mAppend
  | _ => fun _ _ _ => none

/-- the receiver's kind, looked at ahead of the arguments -/
def mTy (m : String) (x : D) (S : Sto) : Bool :=
  match m, x with
  | "append", .loc n => (getL S n).isSome
  | "index", .loc n => (getL S n).isSome
  | "insert", .loc n => (getL S n).isSome
  | "sindex", .str _ => true
  | _, _ => false

/-! ### expressions -/
def tyN : D → String
  | .non => "NoneType" | .bl _ => "bool" | .int _ => "int" | .str _ => "str" | .tup _ => "tuple" | .loc _ => "list"
def isiN (T n : String) : Bool := n == T || (n == "bool" && T == "int")
def isiB (T : String) (d : D) : Bool := isiN T (tyN d)
/-- no dict -/
def noDk (S : Sto) : D → Bool
  | .loc n => (getL S n).isSome
  | _ => true
def evVar (i : Nat) (env : Ev) (S : Sto) : Option (D × Sto) :=
  match env[i]? with
  | some (some d) => some (d, S)
  | _ => none
def tst (m : Option (D × Sto)) : Option (Bool × Sto) := bnd m fun x S => (truth S x).map fun k => (k, S)
def ifT {α : Type} (m : Option (Bool × Sto)) (f g : Sto → Option (α × Sto)) : Option (α × Sto) := bnd m fun k S => if k = true then f S else g S
def lift {α : Type} (o : Option α) (S : Sto) : Option (α × Sto) := o.map fun a => (a, S)

mutual
noncomputable def evE (c : Cfg) : E → Ev → Sto → Option (D × Sto)
  | .var i, env, S => evVar i env S
  | .cn k, _, S => some (k.d, S)
  | .glb x, _, S => lift (c.G x) S
  | .bin op a b, env, S => bnd (evE c a env S) fun x S1 => bnd (evE c b env S1) fun y S2 => bop op x y S2
  | .neg a, env, S => bnd (evE c a env S) fun x S1 => match x with | .int i => some (.int (-i), S1) | _ => none
  | .cmp op a b, env, S => bnd (evE c a env S) fun x S1 => bnd (evE c b env S1) fun y S2 => cop op x y S2
  | .isN a, env, S => bnd (evE c a env S) fun x S1 => some (.bl (isN x), S1)
  | .notN a, env, S => bnd (evE c a env S) fun x S1 => some (.bl (!isN x), S1)
  | .isB a b, env, S => bnd (evE c a env S) fun x S1 => match x with | .bl k => some (.bl (decide (k = b)), S1) | _ => none
  | .isi a T, env, S => bnd (evE c a env S) fun x S1 => if noDk S1 x = true then some (.bl (isiB T x), S1) else none
  | .nt a, env, S => bnd (evE c a env S) fun x S1 => (truth S1 x).map fun k => (.bl (!k), S1)
  | .and a b, env, S => bnd (evE c a env S) fun x S1 => bnd (lift (truth S1 x) S1) fun k S1 => if k = true then evE c b env S1 else some (x, S1)
  | .or a b, env, S => bnd (evE c a env S) fun x S1 => bnd (lift (truth S1 x) S1) fun k S1 => if k = true then some (x, S1) else evE c b env S1
  | .ife t a b, env, S => ifT (tst (evE c t env S)) (evE c a env) (evE c b env)
  | .tup es, env, S => bnd (evEs c es env S) fun xs S1 => some (.tup xs, S1)
  | .lst es, env, S => bnd (evEs c es env S) fun xs S1 => some (.loc S1.length, S1 ++ [.lst xs])
  | .idx a i, env, S => bnd (evE c a env S) fun x S1 => bnd (evE c i env S1) fun y S2 => iop x y S2
  | .slc a lo hi, env, S => bnd (evE c a env S) fun x S1 => bnd (evE c lo env S1) fun l S2 => bnd (evE c hi env S2) fun h S3 => match bndE lo l, bndE hi h with | some l, some h => slop x l h S3 | _, _ => none
  | .call f es, env, S => bnd (evEs c es env S) fun xs S1 => c.C f xs S1
  | .blt f es, env, S => bnd (evEs c es env S) fun xs S1 => blt f xs S1
  | .mth m o es, env, S => bnd (evE c o env S) fun x S1 => if mTy m x S1 = true then bnd (evEs c es env S1) fun xs S2 => mth m x xs S2 else none
  | .lc t k es cnd e, env, S => bnd (evEs c es env S) fun xs S1 => bnd (lift (items k xs S1) S1) fun iw S1 =>
      bnd (lcL (fun env S => tst (evE c cnd env S)) (evE c e) iw.2 t S1.length (wipeE env t.slots) iw.1 (S1 ++ [.lst []])) fun _ S2 => some (.loc S1.length, S2)
  | .lc2 t k es cnd t1 k1 es1 cnd1 e, env, S => bnd (evEs c es env S) fun xs S1 => bnd (lift (items k xs S1) S1) fun iw S1 =>
      bnd (lc2L (fun env S => tst (evE c cnd env S)) (fun env1 S2 => bnd (evEs c es1 env1 S2) fun ys S3 => bnd (lift (items k1 ys S3) S3) fun iw1 S3 =>
          lcL (fun env S => tst (evE c cnd1 env S)) (evE c e) iw1.2 t1 S1.length (wipeE env1 t1.slots) iw1.1 S3) iw.2 t (wipeE env (t.slots ++ t1.slots)) iw.1 (S1 ++ [.lst []])) fun _ S2 => some (.loc S1.length, S2)
  | .tr e, env, S => bnd (evE c e env S) fun x S1 => fin S (x, S1)
  | .dnew, _, S => some (.loc S.length, S ++ [.dk []])
  | .mth0 m o, env, S => bnd (evE c o env S) fun x S1 => mth0 m x S1
  | .dict1 k v, env, S => bnd (evE c k env (S ++ [.dt []])) fun x S1 => bnd (evE c v env S1) fun y S2 =>
      match getT S2 S.length, keyT x with
      | some [], some kt => some (.loc S.length, S2.set S.length (.dt [(kt, y)]))
      | _, _ => none
  | .dc t k es cnd ke ve, env, S => bnd (evEs c es env S) fun xs S1 => bnd (lift (items k xs S1) S1) fun iw S1 =>
      bnd (dcL (fun env S => tst (evE c cnd env S)) (evE c ke) (evE c ve) iw.2 t S1.length (wipeE env t.slots) iw.1 (S1 ++ [.dt []])) fun _ S2 => some (.loc S1.length, S2)
  | .gget g i, env, S => bnd (evE c i env S) fun y S1 => match c.G g, y with
      | some tb, .str z => lift (tabAt tb z) S1
      | _, _ => none
  | .gin neg g a, env, S => bnd (evE c a env S) fun x S1 => match c.G g, x with
      | some tb, .str z => some (.bl (neg != (tabAt tb z).isSome), S1)
      | _, _ => none
  | .dzip a b, env, S => bnd (evE c a env S) fun x S1 => bnd (evE c b env S1) fun y S2 => dzOp x y S2
  | .trev a, env, S => bnd (evE c a env S) fun x S1 => trOp x S1
  | .lrng a, env, S => bnd (evE c a env S) fun x S1 => lrOp x S1
termination_by structural e _ _ => e
noncomputable def evEs (c : Cfg) : List E → Ev → Sto → Option (List D × Sto)
  | [], _, S => some ([], S)
  | e :: es, env, S => bnd (evE c e env S) fun x S1 => bnd (evEs c es env S1) fun xs S2 => some (x :: xs, S2)
termination_by structural es _ _ => es
end

/-! ### statements -/
inductive Fl where
  | nx (env : Ev) | rt (d : D) | bk (env : Ev) | ct (env : Ev)
abbrev X1 := Ev → Sto → Option (Fl × Sto)
/-- for: over the items -/
noncomputable def forL (w : Watch) (t : Tg) (body : X1) : List D → X1
  | [], env, S => open Classical in if still w S then some (.nx env, S) else none
  | x :: xs, env, S => open Classical in if still w S then
      match asg t x env with
      | none => none
      | some env1 => bnd (body env1 S) fun f S1 => match f with
        | .nx env2 => forL w t body xs env2 S1
        | .ct env2 => forL w t body xs env2 S1
        | .bk env2 => some (.nx env2, S1)
        | .rt d => some (.rt d, S1)
    else none
def whN (c : Ev → Sto → Option (Bool × Sto)) (body : X1) : Nat → X1
  | 0, _, _ => none
  | n + 1, env, S => bnd (c env S) fun k S1 => if k = true then bnd (body env S1) fun f S2 => match f with
        | .nx env2 => whN c body n env2 S2
        | .ct env2 => whN c body n env2 S2
        | .bk env2 => some (.nx env2, S2)
        | .rt d => some (.rt d, S2)
      else some (.nx env, S1)
open Classical in
noncomputable def whE (c : Ev → Sto → Option (Bool × Sto)) (body : X1) : X1 := fun env S =>
  if h : ∃ n, (whN c body n env S).isSome = true then whN c body h.choose env S else none
def setL (env : Ev) (is : List Nat) (d : D) : Option Ev := asg (.t is) d env
def sqn (m : Option (Fl × Sto)) (k : X1) : Option (Fl × Sto) := bnd m fun f S1 => match f with
  | .nx env1 => k env1 S1
  | f => some (f, S1)
/-- x[y] = z: a list, a dict -/
def setOp (z x y : D) (S : Sto) : Option (Unit × Sto) := match x with
  | .loc n => match getK S n with
    | some kvs => match keyD y with
      | some k => if kvs.length < sizeLine then some ((), S.set n (.dk (putD kvs k z))) else none
      | none => none
    | none => match getT S n with
     | some kvs => match keyT y with
      | some k => if kvs.length < sizeLine then some ((), S.set n (.dt (putD kvs k z))) else none
      | none => none
     | none => match getM S n, y with
      | some xs, .int i => match ixN xs.length i with
        | some j => some ((), S.set n (.lst (xs.set j z)))
        | none => none
      | _, _ => none
  | _ => none
mutual
noncomputable def exS (c : Cfg) : S → Ev → Sto → Option (Fl × Sto)
  | .set i e, env, S => bnd (evE c e env S) fun x S1 => some (.nx (env.set i (some x)), S1)
  | .setT is e, env, S => bnd (evE c e env S) fun x S1 => bnd (lift (asg (.t is) x env) S1) fun env1 S1 => some (.nx env1, S1)
  | .par i j a b, env, S => bnd (evE c a env S) fun x S1 => bnd (evE c b env S1) fun y S2 => some (.nx ((env.set i (some x)).set j (some y)), S2)
  | .setI o k v, env, S => bnd (evE c v env S) fun z S1 => bnd (evE c o env S1) fun x S2 => bnd (evE c k env S2) fun y S3 => bnd (setOp z x y S3) fun _ S4 => some (.nx env, S4)
  | .ex e, env, S => bnd (evE c e env S) fun _ S1 => some (.nx env, S1)
  | .ret e, env, S => bnd (evE c e env S) fun x S1 => some (.rt x, S1)
  | .iff t a b, env, S => ifT (tst (evE c t env S)) (exSs c a env) (exSs c b env)
  | .whl t b, env, S => whE (fun env S => tst (evE c t env S)) (exSs c b) env S
  | .for_ t k es b, env, S => bnd (evEs c es env S) fun xs S1 => bnd (lift (items k xs S1) S1) fun iw S1 => forL iw.2 t (exSs c b) iw.1 env S1
  | .brk, env, S => some (.bk env, S)
  | .cont, env, S => some (.ct env, S)
  | .pass, env, S => some (.nx env, S)
termination_by structural s _ _ => s
noncomputable def exSs (c : Cfg) : List S → Ev → Sto → Option (Fl × Sto)
  | [], env, S => some (.nx env, S)
  | s :: ss, env, S => sqn (exS c s env S) (exSs c ss)
termination_by structural ss _ _ => ss
end

/-! ### defs -/
structure FDef where
  np : Nat
  nl : Nat
  body : List S
  keep : Bool := false
def start' (fd : FDef) (vs : List D) : Ev := vs.map some ++ List.replicate (fd.nl - fd.np) none
noncomputable def runF (c : Cfg) (fd : FDef) (vs : List D) (S : Sto) : Option (D × Sto) :=
  if vs.length = fd.np then
    bnd (exSs c fd.body (start' fd vs) S) fun fl S1 => match fl with
      | .rt d => if fd.keep = true then some (d, S1) else fin S (d, S1)
      | .nx _ => if fd.keep = true then some (.non, S1) else fin S (.non, S1)
      | _ => none
  else none
noncomputable def callF (Γ : String → Option FDef) (G : String → Option D) : Nat → Hn
  | 0, f, vs, S => if f = "gcd" then bGcd vs S else none
  | k + 1, f, vs, S => if f = "gcd" then bGcd vs S else match Γ f with
    | none => none
    | some fd => runF ⟨callF Γ G k, G⟩ fd vs S
end Cs

set_option Elab.async false
set_option linter.all false
set_option maxRecDepth 100000
namespace Cs
open PySem PySem.Spec PyProof.Rows L2
variable [Sct]

/-! ### readings -/
/-- what is wanted behind: the store S', the value d -/
def Pst (K : PySem.W.Frag) (H : Hp) (ρ : List Addr) (d : D) (S' : Sto) (Q : VK) : Prop :=
  ∀ H' ρ' v, Mono H H' → ρ <+: ρ' → Sr K H' ρ' S' → Rp K H' ρ' d v → Q v H'
section
variable {K : PySem.W.Frag} {H : Hp} {ρ : List Addr} {S : Sto} {Q : VK}
theorem Pst.same {d : D} {v : V} (p : Pst K H ρ d S Q) (s : Sr K H ρ S) (r : Rp K H ρ d v) : Q v H := p H ρ v Mono.refl (List.prefix_refl _) s r
theorem Pst.newT {ds : List D} {vs : List V} (p : Pst K H ρ (.tup ds) S Q) (s : Sr K H ρ S) (r : RpL K H ρ ds vs) : TQ H vs Q := by
  intro a o h hc hd
  by_cases e : Sct.md = .pln
  · exact .inr (p _ ρ _ (Mono.new h) (List.prefix_refl _) (s.newT h) ⟨a, vs, rfl, SqX.newP e hd, RpL.mono (Mono.new h) (List.prefix_refl _) ds vs r⟩)
  · exact .inl (p _ ρ _ (Mono.new h) (List.prefix_refl _) (s.newT h) ⟨a, vs, rfl, SqX.new e, RpL.mono (Mono.new h) (List.prefix_refl _) ds vs r⟩)
theorem Pst.newL {ds : List D} {vs : List V} {a : Addr} (p : Pst K H ρ (.loc S.length) (S ++ [.lst ds]) Q) (s : Sr K H ρ S) (r : RpL K H ρ ds vs) (h : H a = none) : Q (.ref a) (upd H a (.lst vs)) :=
  p _ (ρ ++ [a]) _ (Mono.new h) ⟨[a], rfl⟩ (s.newL h r) ⟨a, rfl, by rw [← s.len]; simp⟩
theorem Pst.write {n : Nat} {xs ds : List D} {vs : List V} {a : Addr} {d : D} {v : V} (p : Pst K H ρ d (S.set n (.lst ds)) Q) (s : Sr K H ρ S) (e : S[n]? = some (.lst xs)) (ea : ρ[n]? = some a) (r : RpL K H ρ ds vs)
    (rd : Rp K H ρ d v) : Q v (upd H a (.lst vs)) := by
  obtain ⟨s', m⟩ := s.write e ea r
  exact p _ ρ _ m (List.prefix_refl _) s' (rd.mono m (List.prefix_refl _) _ _)
end
/-- two-place, one-place, call, method readings -/
def LB (K : PySem.W.Frag) (f : D → D → Sto → Option (D × Sto)) : R2 := fun x y H Q => ∃ ρ S d1 d2 d S', Sr K H ρ S ∧ Rp K H ρ d1 x ∧ Rp K H ρ d2 y ∧ f d1 d2 S = some (d, S') ∧ Pst K H ρ d S' Q
def LC (K : PySem.W.Frag) (f : List D → Sto → Option (D × Sto)) : List V → Hp → VK → Prop := fun xs H Q => ∃ ρ S ds d S', Sr K H ρ S ∧ RpL K H ρ ds xs ∧ f ds S = some (d, S') ∧ Pst K H ρ d S' Q
def LM (K : PySem.W.Frag) (f : D → List D → Sto → Option (D × Sto)) : V → List V → Hp → VK → Prop := fun x xs H Q => ∃ ρ S d0 ds d S', Sr K H ρ S ∧ Rp K H ρ d0 x ∧ RpL K H ρ ds xs ∧ f d0 ds S = some (d, S') ∧ Pst K H ρ d S' Q

section
variable {K : PySem.W.Frag} {H : Hp} {ρ : List Addr} {S : Sto}
theorem getL_so {n : Nat} {xs : List D} (h : getL S n = some xs) : S[n]? = some (.lst xs) ∨ S[n]? = some (.ro xs) := by
  unfold getL at h
  split at h
  · cases h; exact .inl (by assumption)
  · cases h; exact .inr (by assumption)
  · cases h
theorem getM_so {n : Nat} {xs : List D} (h : getM S n = some xs) : S[n]? = some (.lst xs) := by
  unfold getM at h
  split at h
  · cases h; assumption
  · cases h
/-- a list at a place, read -/
theorem Sr.list (s : Sr K H ρ S) {n : Nat} {xs : List D} {x : V} (h : getL S n = some xs) (r : Rp K H ρ (.loc n) x) : ∃ a vs, x = .ref a ∧ ρ[n]? = some a ∧ SqL K H a vs ∧ RpL K H ρ xs vs := by
  obtain ⟨a, rfl, ea⟩ := r
  rcases getL_so h with e | e
  · obtain ⟨b, eb, vs, hv, rv⟩ := s.at_ n _ e
    rw [ea] at eb; cases eb
    exact ⟨a, vs, rfl, ea, SqL.of hv, rv⟩
  · obtain ⟨b, eb, vs, hv, rv⟩ := s.at_ n _ e
    rw [ea] at eb; cases eb
    exact ⟨a, vs, rfl, ea, hv.l, rv⟩
theorem Sr.lstM (s : Sr K H ρ S) {n : Nat} {xs : List D} {x : V} (h : getM S n = some xs) (r : Rp K H ρ (.loc n) x) : ∃ a vs, x = .ref a ∧ ρ[n]? = some a ∧ H a = some (.lst vs) ∧ RpL K H ρ xs vs := by
  obtain ⟨a, rfl, ea⟩ := r
  obtain ⟨b, eb, vs, hv, rv⟩ := s.at_ n _ (getM_so h)
  rw [ea] at eb; cases eb
  exact ⟨a, vs, rfl, ea, hv, rv⟩
end
/-! ### values as PyData -/
mutual
theorem dp_of {K : PySem.W.Frag} {H : Hp} {ρ : List Addr} : ∀ (d : D) (v : V), d.pure = true → Rp K H ρ d v → Dp K H v d.py
  | .non, v, _, h => by cases h; exact .non
  | .bl b, v, _, h => by cases h; exact .bl b
  | .int i, v, _, h => by cases h; exact .int i
  | .str s, v, _, h => by cases h; exact .str s
  | .tup ds, v, p, h => by
    obtain ⟨a, vs, rfl, hs, hr⟩ := h
    exact .tup hs.1 (dp_ofL ds vs (by simpa [D.pure] using p) hr)
  | .loc n, v, p, _ => by simp [D.pure] at p
theorem dp_ofL {K : PySem.W.Frag} {H : Hp} {ρ : List Addr} : ∀ (ds : List D) (vs : List V), D.pureL ds = true → RpL K H ρ ds vs → DpAll K H vs (D.pyL ds)
  | [], vs, _, h => by cases h; exact .nil
  | d :: ds, vs, p, h => by
    obtain ⟨v, r, rfl, h1, h2⟩ := h
    simp [D.pureL] at p
    exact .cons (dp_of d v p.1 h1) (dp_ofL ds r p.2 h2)
end
theorem cmpd_dp {K : PySem.W.Frag} {H : Hp} {ρ : List Addr} {S : Sto} {d : D} {x : V} {p : PyData} (s : Sr K H ρ S) (r : Rp K H ρ d x) (h : cmpd S d = some p) : Dp K H x p ∧ SeqAt.shaped p = true := by
  have other : ∀ d : D, d.ok → Rp K H ρ d x → Dp K H x d.py ∧ SeqAt.shaped d.py = true := fun d o r => ⟨dp_of d x o.1 r, o.2⟩
  cases d with
  | loc n =>
    simp only [cmpd] at h
    cases e : getL S n with
    | none => rw [e] at h; cases h
    | some xs =>
      rw [e] at h
      simp only at h
      split at h
      · rename_i o
        cases h
        obtain ⟨a, vs, rfl, _, hs, hr⟩ := s.list e r
        exact ⟨.lst hs (dp_ofL xs vs o.1 hr), o.2⟩
      · cases h
  | _ =>
    simp only [cmpd] at h
    split at h
    · rename_i o
      cases h
      exact other _ o r
    · cases h

section
variable {X : Cx}
def bop_of : Bop → Operator
  | .add => .Add | .sub => .Sub | .mul => .Mult | .fdiv => .FloorDiv | .mod => .Mod | .pow => .Pow
theorem op_bop (op : Bop) : OpR X (binaryOp (bop_of op)) (LB X.K (bop op)) := by
  intro pins s σ H x y v u Q I rx ry h
  obtain ⟨ρ, S, d1, d2, d, S', hs, r1, r2, hf, hq⟩ := h
  unfold bop at hf
  split at hf
  · cases hf; cases r1; cases r2
    exact op_add pins s σ H _ _ v u Q I rx ry ⟨_, _, rfl, rfl, hq.same hs rfl⟩
  · cases hf; cases r1; cases r2
    exact op_sub pins s σ H _ _ v u Q I rx ry ⟨_, _, rfl, rfl, hq.same hs rfl⟩
  · cases r1; cases r2
    split at hf
    · rename_i hm; cases hf
      exact op_mulW pins s σ H _ _ v u Q I rx ry ⟨_, _, rfl, rfl, hm, hq.same hs rfl⟩
    · cases hf
  · cases r1; cases r2
    split at hf
    · rename_i hm; cases hf
      exact op_fdivW pins s σ H _ _ v u Q I rx ry ⟨_, _, rfl, rfl, hm, hq.same hs rfl⟩
    · cases hf
  · cases r1; cases r2
    split at hf
    · rename_i hm; cases hf
      exact op_mod pins s σ H _ _ v u Q I rx ry ⟨_, _, rfl, rfl, hm, hq.same hs rfl⟩
    · cases hf
  · cases r1; cases r2
    split at hf
    · rename_i hm; cases hf
      exact op_pow pins s σ H _ _ v u Q I rx ry ⟨_, _, rfl, rfl, hm, hq.same hs rfl⟩
    · cases hf
  · cases r1; cases r2
    split at hf
    · rename_i hm; cases hf
      exact op_add_str pins s σ H _ _ v u Q I rx ry ⟨_, _, rfl, rfl, hm, hq.same hs rfl⟩
    · cases hf
  · skip
    split at hf
    · rename_i hm; cases hf
      obtain ⟨a, vs, rfl, sa, ra⟩ := r1
      obtain ⟨b, us, rfl, sb, rb⟩ := r2
      refine op_catV pins s σ H _ _ v u Q I rx ry ⟨a, b, vs, us, rfl, rfl, sa.1, sb.1, by rw [← ra.length, ← rb.length]; exact hm, fun z => ?_, fun z z2 => ?_, fun _ _ => hq.newT hs (ra.append rb)⟩
      · subst z
        have : _ = [] := List.eq_nil_of_length_eq_zero ra.length
        subst this
        exact hq.same hs ⟨b, us, rfl, sb, rb⟩
      · subst z2
        have : _ = [] := List.eq_nil_of_length_eq_zero rb.length
        subst this
        rw [List.append_nil] at hq
        exact hq.same hs ⟨a, vs, rfl, sa, ra⟩
    · cases hf
  · skip
    split at hf
    · rename_i xs ys e1 e2
      split at hf
      · rename_i hm; cases hf
        obtain ⟨a, vs, rfl, _, ha, ra⟩ := hs.lstM e1 r1
        obtain ⟨b, us, rfl, _, hb, rb⟩ := hs.lstM e2 r2
        exact op_cat pins s σ H _ _ v u Q I rx ry ⟨a, b, vs, us, rfl, rfl, ha, hb, by rw [← ra.length, ← rb.length]; exact hm, fun p hp => hq.newL hs (ra.append rb) hp⟩
      · cases hf
    · cases hf
  · cases hf

def cop_of : Cop → CmpOp
  | .eq => .Eq | .ne => .NotEq | .lt => .Lt | .le => .LtE | .gt => .Gt | .ge => .GtE | .isin => .In | .notin => .NotIn
theorem dpAll_of {K : PySem.W.Frag} {H : Hp} {a : Addr} {vs : List V} {ds : List PyData} (h : SqT K H a vs) (r : DpAll K H vs ds) : Dp K H (.ref a) (.tuple ds) := .tup h r
theorem op_inA (hu : X.A.units + 65 < cLine) {neg : Bool} {x y : V} {d : PyData} {ds : List PyData} {pins s σ H v u Q} (I : Inv X pins σ H s) (rx : RelV x v) (ry : RelV y u) (hd : Dp X.K H x d) (he : Dp X.K H y (.list ds) ∨ Dp X.K H y (.tuple ds))
    (sd : SeqAt.shaped d = true) (se : SeqAt.shaped (.list ds) = true) (q : Q (.bl (if neg then !(ds.any fun z => PyData.eqv z d) else ds.any fun z => PyData.eqv z d)) H) :
    wpAny (model X.prog X.w) X.A (compareOp (if neg then .NotIn else .In) v u) (EP X pins σ Q) X.xe s := by
  obtain ⟨as, r1⟩ := Dp.reads I d x v hd rx
  have hl : PyData.canLayAll0 ds = true := SeqAt.canLay_of_shaped se
  rcases he with he | he
  · obtain ⟨bs, r2⟩ := Dp.reads I (.list ds) y u he ry
    cases neg with
    | false => exact SeqAt.in_list_reads r2 r1 hl (SeqAt.canLay_of_shaped sd) (room_in_shaped sd hu) ⟨.bl _, H, I, rfl, q⟩
    | true => exact SeqAt.notIn_list_reads r2 r1 hl (SeqAt.canLay_of_shaped sd) (room_in_shaped sd hu) ⟨.bl _, H, I, rfl, q⟩
  · obtain ⟨bs, r2⟩ := Dp.reads I (.tuple ds) y u he ry
    cases neg with
    | false => exact SeqAt.in_tuple_reads r2 r1 hl (SeqAt.canLay_of_shaped sd) (room_in_shaped sd hu) ⟨.bl _, H, I, rfl, q⟩
    | true => exact SeqAt.notIn_tuple_reads r2 r1 hl (SeqAt.canLay_of_shaped sd) (room_in_shaped sd hu) ⟨.bl _, H, I, rfl, q⟩
theorem scD_scal {K : PySem.W.Frag} {H : Hp} {ρ : List Addr} {d e : D} {x y : V} {b : Bool} (h : scD d e = some b) (r1 : Rp K H ρ d x) (r2 : Rp K H ρ e y) : scal x y = true ∧ decide (x = y) = b := by
  unfold scD at h
  split at h
  · cases h; cases r1; cases r2
    exact ⟨rfl, by simp⟩
  · cases h; cases r1; cases r2
    exact ⟨rfl, by simp⟩
  · cases h
theorem op_copL (hu : X.A.units + 65 < cLine) (op : Cop) : OpR X (compareOp (cop_of op)) (LB X.K (copL op)) := by
  intro pins s σ H x y v u Q I rx ry h
  obtain ⟨ρ, S, d1, d2, d, S', hs, r1, r2, hf, hq⟩ := h
  cases op with
  | eq =>
    simp only [copL, copEq] at hf
    split at hf
    · rename_i b eb
      cases hf
      obtain ⟨sc, de⟩ := scD_scal eb r1 r2
      exact op_eq pins s σ H x y v u Q I rx ry ⟨sc, by rw [de]; exact hq.same hs rfl⟩
    · split at hf
      · rename_i a b ea eb
        cases hf
        obtain ⟨p1, s1⟩ := cmpd_dp hs r1 ea
        obtain ⟨p2, s2⟩ := cmpd_dp hs r2 eb
        exact op_eqD (by omega) pins s σ H x y v u Q I rx ry ⟨a, b, p1, p2, s1, s2, hq.same hs rfl⟩
      · cases hf
  | ne =>
    simp only [copL, copEq] at hf
    split at hf
    · rename_i b eb
      cases hf
      obtain ⟨sc, de⟩ := scD_scal eb r1 r2
      exact op_ne pins s σ H x y v u Q I rx ry ⟨sc, by rw [de]; exact hq.same hs rfl⟩
    · split at hf
      · rename_i a b ea eb
        cases hf
        obtain ⟨p1, s1⟩ := cmpd_dp hs r1 ea
        obtain ⟨p2, s2⟩ := cmpd_dp hs r2 eb
        exact op_neD (by omega) pins s σ H x y v u Q I rx ry ⟨a, b, p1, p2, s1, s2, hq.same hs rfl⟩
      · cases hf
  | lt =>
    simp only [copL] at hf
    split at hf
    · cases hf; cases r1; cases r2
      exact op_lt pins s σ H _ _ v u Q I rx ry ⟨_, _, rfl, rfl, hq.same hs rfl⟩
    · cases hf
  | le =>
    simp only [copL] at hf
    split at hf
    · cases hf; cases r1; cases r2
      exact op_le pins s σ H _ _ v u Q I rx ry ⟨_, _, rfl, rfl, hq.same hs rfl⟩
    · cases hf
  | gt =>
    simp only [copL] at hf
    split at hf
    · cases hf; cases r1; cases r2
      exact op_gt pins s σ H _ _ v u Q I rx ry ⟨_, _, rfl, rfl, hq.same hs rfl⟩
    · cases hf
  | ge =>
    simp only [copL] at hf
    split at hf
    · cases hf; cases r1; cases r2
      exact op_ge pins s σ H _ _ v u Q I rx ry ⟨_, _, rfl, rfl, hq.same hs rfl⟩
    · cases hf
  | isin =>
    simp only [copL] at hf
    split at hf
    · rename_i a ys ea
      split at hf
      · rename_i o; cases hf
        obtain ⟨p1, s1⟩ := cmpd_dp hs r1 ea
        obtain ⟨b, vs, rfl, sb, rb⟩ := r2
        exact op_inA (neg := false) hu I rx ry p1 (.inr (.tup sb.1 (dp_ofL ys vs o.1 rb))) s1 o.2 (hq.same hs rfl)
      · cases hf
    · rename_i a n ea
      split at hf
      · rename_i ys e
        split at hf
        · rename_i o; cases hf
          obtain ⟨p1, s1⟩ := cmpd_dp hs r1 ea
          obtain ⟨b, vs, rfl, _, sb, rb⟩ := hs.list e r2
          exact op_inA (neg := false) hu I rx ry p1 (.inl (.lst sb (dp_ofL ys vs o.1 rb))) s1 o.2 (hq.same hs rfl)
        · cases hf
      · cases hf
    · cases hf
  | notin =>
    simp only [copL] at hf
    split at hf
    · rename_i a ys ea
      split at hf
      · rename_i o; cases hf
        obtain ⟨p1, s1⟩ := cmpd_dp hs r1 ea
        obtain ⟨b, vs, rfl, sb, rb⟩ := r2
        exact op_inA (neg := true) hu I rx ry p1 (.inr (.tup sb.1 (dp_ofL ys vs o.1 rb))) s1 o.2 (hq.same hs rfl)
      · cases hf
    · rename_i a n ea
      split at hf
      · rename_i ys e
        split at hf
        · rename_i o; cases hf
          obtain ⟨p1, s1⟩ := cmpd_dp hs r1 ea
          obtain ⟨b, vs, rfl, _, sb, rb⟩ := hs.list e r2
          exact op_inA (neg := true) hu I rx ry p1 (.inl (.lst sb (dp_ofL ys vs o.1 rb))) s1 o.2 (hq.same hs rfl)
        · cases hf
      · cases hf
    · cases hf

theorem atI_rp {K : PySem.W.Frag} {H : Hp} {ρ : List Addr} {ds : List D} {vs : List V} {k : Int} {d : D} (r : RpL K H ρ ds vs) (h : atI ds k = some d) : ∃ v, atI vs k = some v ∧ Rp K H ρ d v := by
  unfold atI at h ⊢
  rw [← r.length]
  cases e : ixN ds.length k with
  | none => rw [e] at h; cases h
  | some j =>
    rw [e] at h
    have h' : ds[j]? = some d := h
    obtain ⟨v, e1, rv⟩ := r.get h'
    exact ⟨v, e1, rv⟩
theorem valD_rp {κ : Type} [DecidableEq κ] {K : PySem.W.Frag} {H : Hp} {ρ : List Addr} (k : κ) : ∀ {kvs : List (κ × D)} {vs : List (κ × V)}, kvs.map (·.1) = vs.map (·.1) → RpL K H ρ (kvs.map (·.2)) (vs.map (·.2)) →
    (valD kvs k).isSome = (valV vs k).isSome ∧ ∀ d, valD kvs k = some d → ∃ v, valV vs k = some v ∧ Rp K H ρ d v
  | [], [], _, _ => ⟨rfl, fun d h => by cases h⟩
  | [], _ :: _, e, _ => by cases e
  | _ :: _, [], e, _ => by cases e
  | (k1, d1) :: kvs, (k2, v2) :: vs, e, r => by
    have e1 : k1 = k2 := (List.cons.inj e).1
    have e2 : kvs.map (·.1) = vs.map (·.1) := (List.cons.inj e).2
    obtain ⟨v, rr, ev, r1, r2⟩ := r
    obtain ⟨rfl, rfl⟩ := List.cons.inj ev
    subst e1
    by_cases q : k1 = k
    · have h1 : valD ((k1, d1) :: kvs) k = some d1 := by simp [valD, List.find?_cons, q]
      have h2 : valV ((k1, v2) :: vs) k = some v2 := by simp [valV, List.find?_cons, q]
      rw [h1, h2]
      exact ⟨rfl, fun d h => by cases h; exact ⟨v2, rfl, r1⟩⟩
    · have h1 : valD ((k1, d1) :: kvs) k = valD kvs k := by simp [valD, List.find?_cons, q]
      have h2 : valV ((k1, v2) :: vs) k = valV vs k := by simp [valV, List.find?_cons, q]
      rw [h1, h2]
      exact valD_rp k e2 r2
theorem keyD_rp {K : PySem.W.Frag} {H : Hp} {ρ : List Addr} {y : D} {k : Key} {u : V} (h : keyD y = some k) (r : Rp K H ρ y u) : u = kV k := by
  cases y with
  | int i => cases h; cases r; rfl
  | str i => cases h; cases r; rfl
  | _ => cases h
theorem getK_so {S : Sto} {n : Nat} {kvs : List (Key × D)} (h : getK S n = some kvs) : S[n]? = some (.dk kvs) := by
  unfold getK at h
  split at h
  · cases h; assumption
  · cases h
theorem Sr.dict {K : PySem.W.Frag} {H : Hp} {ρ : List Addr} {S : Sto} (s : Sr K H ρ S) {n : Nat} {kvs : List (Key × D)} {x : V} (h : getK S n = some kvs) (r : Rp K H ρ (.loc n) x) :
    ∃ a vs, x = .ref a ∧ ρ[n]? = some a ∧ H a = some (.dK vs) ∧ kvs.map (·.1) = vs.map (·.1) ∧ RpL K H ρ (kvs.map (·.2)) (vs.map (·.2)) := by
  obtain ⟨a, rfl, ea⟩ := r
  obtain ⟨b, eb, vs, hv, kv, rv⟩ := s.at_ n _ (getK_so h)
  rw [ea] at eb; cases eb
  exact ⟨a, vs, rfl, ea, hv, kv, rv⟩
theorem keyD_rpL {K : PySem.W.Frag} {H : Hp} {ρ : List Addr} : ∀ {ds : List D} {ks : List Key} {vs : List V}, ds.mapM keyD = some ks → RpL K H ρ ds vs → vs = ks.map kV
  | [], ks, vs, h, r => by cases h; cases r; rfl
  | d :: ds, ks, vs, h, r => by
    obtain ⟨v, rr, rfl, r1, r2⟩ := r
    rw [List.mapM_cons] at h
    cases e : keyD d with
    | none => rw [e] at h; cases h
    | some k =>
      rw [e] at h
      cases e2 : ds.mapM keyD with
      | none => rw [e2] at h; cases h
      | some ks' =>
        rw [e2] at h
        cases h
        rw [keyD_rp e r1, keyD_rpL e2 r2]; rfl
theorem keyT_rp {K : PySem.W.Frag} {H : Hp} {ρ : List Addr} {y : D} {k : List Key} {u : V} (on : Sct.md = .trk) (h : keyT y = some k) (r : Rp K H ρ y u) : ∃ b, u = .ref b ∧ H b = some (.tup (k.map kV)) := by
  cases y with
  | tup ds =>
    obtain ⟨b, vs, rfl, sa, ra⟩ := r
    have e := keyD_rpL h ra
    subst e
    exact ⟨b, rfl, sa.2.1 on⟩
  | _ => cases h
theorem getT_so {S : Sto} {n : Nat} {kvs : List (List Key × D)} (h : getT S n = some kvs) : S[n]? = some (.dt kvs) := by
  unfold getT at h
  split at h
  · cases h; assumption
  · cases h
theorem Sr.dictT {K : PySem.W.Frag} {H : Hp} {ρ : List Addr} {S : Sto} (s : Sr K H ρ S) {n : Nat} {kvs : List (List Key × D)} {x : V} (h : S[n]? = some (.dt kvs)) (r : Rp K H ρ (.loc n) x) :
    ∃ a vs, x = .ref a ∧ ρ[n]? = some a ∧ H a = some (.dT vs) ∧ kvs.map (·.1) = vs.map (·.1) ∧ RpL K H ρ (kvs.map (·.2)) (vs.map (·.2)) ∧ Sct.md = .trk := by
  obtain ⟨a, rfl, ea⟩ := r
  obtain ⟨b, eb, on, vs, hv, kv, rv⟩ := s.at_ n _ h
  rw [ea] at eb; cases eb
  exact ⟨a, vs, rfl, ea, hv, kv, rv, on⟩
theorem dk_get {K : PySem.W.Frag} {H : Hp} {ρ : List Addr} {S : Sto} {x y : D} {v u : V} {o : Option D} (s : Sr K H ρ S) (r1 : Rp K H ρ x v) (r2 : Rp K H ρ y u) (h : dkAt x y S = some o) :
    ∃ a o', v = .ref a ∧ DGet H a u o' ∧ o.isSome = o'.isSome ∧ ∀ d, o = some d → ∃ w, o' = some w ∧ Rp K H ρ d w := by
  cases x with
  | loc n =>
    simp only [dkAt] at h
    split at h
    · rename_i kvs e
      cases ek : keyD y with
      | none => rw [ek] at h; cases h
      | some k =>
        rw [ek] at h; cases h
        obtain ⟨a, vs, rfl, ea, hv, kv, rv⟩ := s.dict (by unfold getK; rw [e]) r1
        have := keyD_rp ek r2
        subst this
        obtain ⟨h1, h2⟩ := valD_rp k kv rv
        exact ⟨a, _, rfl, DGet.k hv, h1, h2⟩
    · rename_i kvs e
      cases ek : keyT y with
      | none => rw [ek] at h; cases h
      | some k =>
        rw [ek] at h; cases h
        obtain ⟨a, vs, rfl, ea, hv, kv, rv, on⟩ := s.dictT e r1
        obtain ⟨b, rfl, hb⟩ := keyT_rp on ek r2
        obtain ⟨h1, h2⟩ := valD_rp k kv rv
        exact ⟨a, _, rfl, DGet.t hv hb, h1, h2⟩
    · cases h
  | _ => cases h
theorem op_cop (hu : X.A.units + 65 < cLine) (op : Cop) : OpR X (compareOp (cop_of op)) (LB X.K (cop op)) := by
  intro pins s σ H x y v u Q I rx ry h
  have h' := h
  obtain ⟨ρ, S, d1, d2, d, S', hs, r1, r2, hf, hq⟩ := h
  unfold cop at hf
  split at hf
  · rename_i o e
    cases hf
    obtain ⟨a, o', rfl, g, e1, _⟩ := dk_get hs r2 r1 e
    cases ry
    exact d_in (by omega) I g rx fun s' I' => ⟨.bl _, H, I', by rw [← e1]; rfl, hq.same hs rfl⟩
  · rename_i o e
    cases hf
    obtain ⟨a, o', rfl, g, e1, _⟩ := dk_get hs r2 r1 e
    cases ry
    exact d_notIn (by omega) I g rx fun s' I' => ⟨.bl _, H, I', by rw [← e1]; rfl, hq.same hs rfl⟩
  · exact op_copL hu _ pins s σ H x y v u Q I rx ry ⟨ρ, S, d1, d2, d, S', hs, r1, r2, hf, hq⟩
theorem ix_iopL : IxR X (LB X.K iopL) := by
  intro value slice pins s σ H x y v u Q I rx ry h hsub
  obtain ⟨ρ, S, d1, d2, d, S', hs, r1, r2, hf, hq⟩ := h
  unfold iopL at hf
  split at hf
  · rename_i xs k
    cases e : atI xs k with
    | none => rw [e] at hf; cases hf
    | some z =>
      rw [e] at hf; cases hf
      obtain ⟨a, vs, rfl, sa, ra⟩ := r1
      cases r2
      obtain ⟨w, ew, rw'⟩ := atI_rp ra e
      exact ix_tup value slice pins s σ H _ _ v u Q I rx ry ⟨a, vs, k, w, rfl, rfl, sa.1, ew, hq.same hs rw'⟩ hsub
  · rename_i n k
    split at hf
    · rename_i xs eg
      cases e : atI xs k with
      | none => rw [e] at hf; cases hf
      | some z =>
        rw [e] at hf; cases hf
        obtain ⟨a, vs, rfl, _, sa, ra⟩ := hs.list eg r1
        cases r2
        obtain ⟨w, ew, rw'⟩ := atI_rp ra e
        exact ix_list value slice pins s σ H _ _ v u Q I rx ry ⟨a, vs, k, w, rfl, rfl, sa, ew, hq.same hs rw'⟩ hsub
    · cases hf
  · rename_i z k
    split at hf
    · rename_i hz
      cases e : atI z.cps.toList k with
      | none => rw [e] at hf; cases hf
      | some c =>
        rw [e] at hf; cases hf
        cases r1; cases r2
        exact ix_str value slice pins s σ H _ _ v u Q I rx ry ⟨z, k, c, rfl, rfl, hz, e, hq.same hs rfl⟩ hsub
    · cases hf
  · cases hf
theorem ix_iop (hu : X.A.units + 65 < cLine) : IxR X (LB X.K iop) := by
  intro value slice pins s σ H x y v u Q I rx ry h hsub
  obtain ⟨ρ, S, d1, d2, d, S', hs, r1, r2, hf, hq⟩ := h
  unfold iop at hf
  split at hf
  · rename_i o e
    cases o with
    | none => cases hf
    | some d0 =>
      cases hf
      obtain ⟨a, o', rfl, g, e1, e2⟩ := dk_get hs r1 r2 e
      obtain ⟨w, rfl, rw'⟩ := e2 _ rfl
      have ty := dict_typeIs I g
      cases rx
      exact tail_any ty PySem.F.slot_dict_getitem.lookup (d_getItem (by omega) I g ry fun w' s' I' r' => ⟨w, H, I', r', hq.same hs rw'⟩) hsub
  exact ix_iopL value slice pins s σ H x y v u Q I rx ry ⟨ρ, S, d1, d2, d, S', hs, r1, r2, hf, hq⟩ hsub

theorem cut_rp {K : PySem.W.Frag} {H : Hp} {ρ : List Addr} {ds : List D} {vs : List V} {lo hi : Option Int} (r : RpL K H ρ ds vs) : RpL K H ρ (cutD ds lo hi) (cutV vs lo hi) := by
  unfold cutD cutV
  rw [← r.length]
  exact (r.drop _).take _
def LSl (K : PySem.W.Frag) (f : D → Option Int → Option Int → Sto → Option (D × Sto)) : V → Option Int → Option Int → Hp → VK → Prop := fun x lo hi H Q => ∃ ρ S d1 d S', Sr K H ρ S ∧ Rp K H ρ d1 x ∧ f d1 lo hi S = some (d, S') ∧ Pst K H ρ d S' Q
theorem sl_slop : SlR X (LSl X.K slop) := by
  intro pins s σ H x v vl vu lo hi sl Q I rx hsl pl pu h
  obtain ⟨ρ, S, d1, d, S', hs, r1, hf, hq⟩ := h
  unfold slop at hf
  split at hf
  · rename_i xs
    cases hf
    obtain ⟨a, vs, rfl, sa, ra⟩ := r1
    refine sl_tupV pins s σ H _ v vl vu lo hi sl Q I rx hsl pl pu ⟨a, vs, rfl, sa.1, fun z => ?_, fun _ => hq.newT hs (cut_rp ra)⟩
    have e : cutD xs lo hi = xs := by
      unfold cutD
      rw [ra.length, z.1, z.2]
      simp [← ra.length]
    rw [e] at hq
    exact hq.same hs ⟨a, vs, rfl, sa, ra⟩
  · rename_i n
    split at hf
    · rename_i xs eg
      cases hf
      obtain ⟨a, vs, rfl, _, sa, ra⟩ := hs.list eg r1
      exact sl_list pins s σ H _ v vl vu lo hi sl Q I rx hsl pl pu ⟨a, vs, rfl, sa, fun p hp => hq.newL hs (cut_rp ra) hp⟩
    · cases hf
  · cases hf

theorem tru_of {K : PySem.W.Frag} {H : Hp} {ρ : List Addr} {S : Sto} {d : D} {x : V} {k : Bool} (s : Sr K H ρ S) (r : Rp K H ρ d x) (h : truth S d = some k) : TruV K x H k := by
  have emp : ∀ {ds : List D} {vs : List V}, RpL K H ρ ds vs → (!ds.isEmpty) = !vs.isEmpty := by
    intro ds vs r
    have := r.length
    cases ds <;> cases vs <;> simp_all
  cases d with
  | non => cases r; cases h; rfl
  | bl b => cases r; cases h; rfl
  | int i => cases r; cases h; rfl
  | str z =>
    cases r
    simp only [truth] at h
    split at h
    · rename_i hz; cases h; exact ⟨hz, rfl⟩
    · cases h
  | tup ds =>
    obtain ⟨a, vs, rfl, sa, ra⟩ := r
    cases h
    exact .inr (.inl ⟨vs, sa.1, emp ra⟩)
  | loc n =>
    simp only [truth] at h
    cases e : getL S n with
    | none => rw [e] at h; cases h
    | some xs =>
      rw [e] at h; cases h
      obtain ⟨a, vs, rfl, _, sa, ra⟩ := s.list e r
      exact .inl ⟨vs, sa, emp ra⟩
end
end Cs

set_option Elab.async false
set_option linter.all false
set_option maxRecDepth 100000
namespace Cs
open PySem PySem.Spec PyProof.Rows L2
variable [Sct]
section
variable {X : Cx}
theorem CallR.weak {f : Value} {r r' : List V → Hp → VK → Prop} (h : CallR X f r) (w : ∀ xs H Q, r' xs H Q → r xs H Q) : CallR X f r' :=
  fun pins s σ H xs us Q I rx q => h pins s σ H xs us Q I rx (w _ _ _ q)
theorem cr_len : CallR X (.builtin "len") (LC X.K bLen) := by
  intro pins s σ H xs us Q I rx h
  obtain ⟨ρ, S, ds, d, S', hs, r, hf, hq⟩ := h
  unfold bLen at hf
  split at hf
  · cases hf
    obtain ⟨v, r2, rfl, ⟨a, vs, rfl, sa, ra⟩, rfl⟩ := r
    exact call_len_seq pins s σ H _ us Q I rx ⟨a, vs, rfl, .inr sa.1, by rw [← ra.length]; exact hq.same hs rfl⟩
  · rename_i n
    obtain ⟨v, r2, rfl, r1, rfl⟩ := r
    cases e : getL S n with
    | none => rw [e] at hf; cases hf
    | some xs =>
      rw [e] at hf; cases hf
      obtain ⟨a, vs, rfl, _, sa, ra⟩ := hs.list e r1
      exact call_len_seq pins s σ H _ us Q I rx ⟨a, vs, rfl, .inl sa, by rw [← ra.length]; exact hq.same hs rfl⟩
  · obtain ⟨v, r2, rfl, r1, rfl⟩ := r
    cases r1
    split at hf
    · rename_i hz; cases hf
      exact call_len_str pins s σ H _ us Q I rx ⟨_, rfl, hz, hq.same hs rfl⟩
    · cases hf
  · cases hf
theorem cr_abs : CallR X (.builtin "abs") (LC X.K bAbs) := by
  intro pins s σ H xs us Q I rx h
  obtain ⟨ρ, S, ds, d, S', hs, r, hf, hq⟩ := h
  unfold bAbs at hf
  split at hf
  · cases hf
    obtain ⟨v, r2, rfl, r1, rfl⟩ := r
    cases r1
    exact call_abs pins s σ H _ us Q I rx ⟨_, rfl, hq.same hs rfl⟩
  · cases hf
theorem cr_int : CallR X (.type "int") (LC X.K bInt) := by
  intro pins s σ H xs us Q I rx h
  obtain ⟨ρ, S, ds, d, S', hs, r, hf, hq⟩ := h
  unfold bInt at hf
  split at hf
  · cases hf
    obtain ⟨v, r2, rfl, r1, rfl⟩ := r
    cases r1
    exact call_int1 pins s σ H _ us Q I rx (.inl ⟨_, rfl, hq.same hs rfl⟩)
  · cases hf
    obtain ⟨v, r2, rfl, r1, rfl⟩ := r
    cases r1
    exact call_int1 pins s σ H _ us Q I rx (.inr ⟨_, rfl, hq.same hs rfl⟩)
  · cases hf
theorem cr_max (hc : X.calm = true) : CallR X (.builtin "max") (LC X.K bMax) := by
  intro pins s σ H xs us Q I rx h
  obtain ⟨ρ, S, ds, d, S', hs, r, hf, hq⟩ := h
  unfold bMax at hf
  split at hf
  · cases hf
    obtain ⟨v, r2, rfl, r1, w, r3, rfl, r4, rfl⟩ := r
    cases r1; cases r4
    exact call_max2 hc pins s σ H _ us Q I rx ⟨_, _, rfl, hq.same hs rfl⟩
  · cases hf
theorem cr_min (hc : X.calm = true) : CallR X (.builtin "min") (LC X.K bMin) := by
  intro pins s σ H xs us Q I rx h
  obtain ⟨ρ, S, ds, d, S', hs, r, hf, hq⟩ := h
  unfold bMin at hf
  split at hf
  · cases hf
    obtain ⟨v, r2, rfl, r1, w, r3, rfl, r4, rfl⟩ := r
    cases r1; cases r4
    exact call_min2 hc pins s σ H _ us Q I rx ⟨_, _, rfl, hq.same hs rfl⟩
  · cases hf
theorem cr_gcd' : CallR X (.builtin "math.gcd") (LC X.K bGcd) := by
  intro pins s σ H xs us Q I rx h
  obtain ⟨ρ, S, ds, d, S', hs, r, hf, hq⟩ := h
  unfold bGcd at hf
  split at hf
  · cases hf
    obtain ⟨v, r2, rfl, r1, w, r3, rfl, r4, rfl⟩ := r
    cases r1; cases r4
    exact cr_gcd pins s σ H _ us Q I rx ⟨_, _, rfl, hq.same hs rfl⟩
  · cases hf
theorem keys_rp {K : PySem.W.Frag} {H : Hp} {ρ : List Addr} : ∀ {kvs : List (Key × D)} {vs : List (Key × V)}, kvs.map (·.1) = vs.map (·.1) → RpL K H ρ (kvs.map fun kv => kD kv.1) (vs.map fun kv => kV kv.1)
  | [], [], _ => rfl
  | [], _ :: _, e => by cases e
  | _ :: _, [], e => by cases e
  | (k1, d1) :: kvs, (k2, v2) :: vs, e => by
    have e1 : k1 = k2 := (List.cons.inj e).1
    subst e1
    refine ⟨_, _, rfl, ?_, keys_rp (List.cons.inj e).2⟩
    cases k1 <;> rfl
theorem tups_rp {K : PySem.W.Frag} {H : Hp} {ρ : List Addr} (on : Sct.md = .trk) : ∀ {kvs : List (List Key × D)} {vs : List (List Key × V)} {as : List Addr}, kvs.map (·.1) = vs.map (·.1) →
    Paired (fun (kv : List Key × V) (a : Addr) => H a = some (.tup (kv.1.map kV))) vs as → RpL K H ρ (kvs.map fun kv => .tup (kv.1.map kD)) (as.map V.ref)
  | [], [], _, _, .nil => rfl
  | [], _ :: _, _, e, _ => by cases e
  | _ :: _, [], _, e, _ => by cases e
  | (k1, d1) :: kvs, (k2, v2) :: vs, _, e, .cons (b := a) h t => by
    have e1 : k1 = k2 := (List.cons.inj e).1
    subst e1
    have kk : ∀ ks : List Key, RpL K H ρ (ks.map kD) (ks.map kV) := by
      intro ks
      induction ks with
      | nil => exact rfl
      | cons k ks ih => exact ⟨_, _, rfl, by cases k <;> rfl, ih⟩
    exact ⟨.ref a, _, rfl, ⟨a, _, rfl, ⟨SqT.of h, fun _ => h, fun z => (by rw [on] at z; cases z)⟩, kk k1⟩, tups_rp on (List.cons.inj e).2 t⟩
theorem cr_list (hc : X.calm = true) : CallR X (.type "list") (LC X.K bList) := by
  intro pins s σ H xs us Q I rx h
  obtain ⟨ρ, S, ds, d, S', hs, r, hf, hq⟩ := h
  unfold bList at hf
  split at hf
  · rename_i n
    obtain ⟨v, r2, rfl, r1, rfl⟩ := r
    split at hf
    · rename_i kvs e
      cases hf
      obtain ⟨a, vs, rfl, _, hv, kv, _⟩ := hs.dict (by unfold getK; rw [e]) r1
      exact call_list_dK hc pins s σ H _ us Q I rx ⟨a, vs, rfl, hv, fun q hq' => hq.newL hs (keys_rp kv) hq'⟩
    · rename_i kvs e
      cases hf
      obtain ⟨a, vs, rfl, _, hv, kv, _, on⟩ := hs.dictT e r1
      exact call_list_dT hc pins s σ H _ us Q I rx ⟨a, vs, rfl, hv, fun q as hq' pa => hq.newL hs (tups_rp on kv pa) hq'⟩
    · rename_i ys e
      cases hf
      obtain ⟨a, vs, rfl, _, sa, ra⟩ := hs.list (show getL S n = some ys by unfold getL; rw [e]) r1
      exact call_list_of pins s σ H _ us Q I rx ⟨a, vs, rfl, .inl sa, fun l hl => hq.newL hs ra hl⟩
    · rename_i ys e
      cases hf
      obtain ⟨a, vs, rfl, _, sa, ra⟩ := hs.list (show getL S n = some ys by unfold getL; rw [e]) r1
      exact call_list_of pins s σ H _ us Q I rx ⟨a, vs, rfl, .inl sa, fun l hl => hq.newL hs ra hl⟩
    · cases hf
  · cases hf
    obtain ⟨v, r2, rfl, ⟨a, vs, rfl, sa, ra⟩, rfl⟩ := r
    exact call_list_of pins s σ H _ us Q I rx ⟨a, vs, rfl, .inr sa.1, fun l hl => hq.newL hs ra hl⟩
  · cases hf
theorem cr_tuple : CallR X (.type "tuple") (LC X.K bTuple) := by
  intro pins s σ H xs us Q I rx h
  obtain ⟨ρ, S, ds, d, S', hs, r, hf, hq⟩ := h
  unfold bTuple at hf
  split at hf
  · rename_i n
    obtain ⟨v, r2, rfl, r1, rfl⟩ := r
    cases e : getL S n with
    | none => rw [e] at hf; cases hf
    | some xs =>
      rw [e] at hf; cases hf
      obtain ⟨a, vs, rfl, _, sa, ra⟩ := hs.list e r1
      exact call_tupV pins s σ H _ us Q I rx ⟨a, vs, rfl, .inl ⟨sa, hq.newT hs ra⟩⟩
  · cases hf
    obtain ⟨v, r2, rfl, ⟨a, vs, rfl, sa, ra⟩, rfl⟩ := r
    exact call_tupV pins s σ H _ us Q I rx ⟨a, vs, rfl, .inr ⟨sa.1, hq.same hs ⟨a, vs, rfl, sa, ra⟩⟩⟩
  · cases hf
theorem bls_map : ∀ {xs : List D} {bs : List Bool}, bls xs = some bs → xs = bs.map D.bl
  | [], bs, h => by cases h; rfl
  | x :: xs, bs, h => by
    unfold bls at h
    rw [List.mapM_cons] at h
    cases x with
    | bl b =>
      simp only [D.isB, Option.bind_eq_bind, Option.bind_some] at h
      cases e : xs.mapM D.isB with
      | none => rw [e] at h; cases h
      | some cs =>
        rw [e] at h; cases h
        rw [bls_map (bs := cs) e]; rfl
    | _ => cases h
theorem cr_all' (hc : X.calm = true) : CallR X (.builtin "all") (LC X.K bAll) := by
  intro pins s σ H xs us Q I rx h
  obtain ⟨ρ, S, ds, d, S', hs, r, hf, hq⟩ := h
  unfold bAll at hf
  split at hf
  · rename_i n
    obtain ⟨v, r2, rfl, r1, rfl⟩ := r
    cases e : getL S n with
    | none => rw [e] at hf; cases hf
    | some xs =>
      rw [e] at hf
      simp only [Option.bind_some] at hf
      cases e2 : bls xs with
      | none => rw [e2] at hf; cases hf
      | some bs =>
        rw [e2] at hf; cases hf
        obtain ⟨a, vs, rfl, _, sa, ra⟩ := hs.list e r1
        rw [bls_map e2] at ra
        have ev := RpL.bls.mp ra
        subst ev
        exact cr_all hc pins s σ H _ us Q I rx ⟨a, bs, rfl, sa, hq.same hs rfl⟩
  · cases hf
theorem cr_any' (hc : X.calm = true) : CallR X (.builtin "any") (LC X.K bAny) := by
  intro pins s σ H xs us Q I rx h
  obtain ⟨ρ, S, ds, d, S', hs, r, hf, hq⟩ := h
  unfold bAny at hf
  split at hf
  · rename_i n
    obtain ⟨v, r2, rfl, r1, rfl⟩ := r
    cases e : getL S n with
    | none => rw [e] at hf; cases hf
    | some xs =>
      rw [e] at hf
      simp only [Option.bind_some] at hf
      cases e2 : bls xs with
      | none => rw [e2] at hf; cases hf
      | some bs =>
        rw [e2] at hf; cases hf
        obtain ⟨a, vs, rfl, _, sa, ra⟩ := hs.list e r1
        rw [bls_map e2] at ra
        have ev := RpL.bls.mp ra
        subst ev
        exact cr_any hc pins s σ H _ us Q I rx ⟨a, bs, rfl, sa, hq.same hs rfl⟩
  · cases hf

theorem cr_repr (hg : X.A.guards = some []) (hu : X.A.units + 70 < cLine) : CallR X (.builtin "repr") (LC X.K bRepr) := by
  intro pins s σ H xs us Q I rx h
  obtain ⟨ρ, S, ds, d, S', hs, r, hf, hq⟩ := h
  unfold bRepr at hf
  split at hf
  · rename_i ys
    split at hf
    · rename_i o
      cases hf
      obtain ⟨v, r2, rfl, r1, rfl⟩ := r
      have dp := dp_of (.tup ys) v (by rw [D.pure]; exact o.1) r1
      obtain ⟨a, vs, rfl, _⟩ := r1
      rw [Vals.ref1 rx]
      obtain ⟨as, rd⟩ := Dp.reads I _ (.ref a) (.ref a) dp rfl
      refine repr_of_reads' rd o.2.1 (fun z => by rw [o.2.2.1] at z; cases z) hg (by have := o.2.2.2.1; omega) (fun _ _ z => z) (fun h' u tk hk => ?_) o.2.2.2.2
      exact ⟨.str _, H, I.kept (t' := tk) hk, ⟨u, rfl⟩, hq.same hs rfl⟩
    · cases hf
  · rename_i b
    cases hf
    obtain ⟨v, r2, rfl, r1, rfl⟩ := r
    cases r1
    obtain ⟨u, rfl, ru⟩ := vals1 rx
    cases ru
    exact PySem.P.repr_of_bool ⟨.str _, H, I.tok _, ⟨_, rfl⟩, hq.same hs rfl⟩
  · rename_i n
    obtain ⟨v, r2, rfl, r1, rfl⟩ := r
    cases e : getL S n with
    | none => rw [e] at hf; cases hf
    | some xs =>
      rw [e] at hf
      simp only at hf
      split at hf
      · rename_i o
        cases hf
        obtain ⟨a, vs, rfl, _, sa, ra⟩ := hs.list e r1
        have dp : Dp X.K H (.ref a) (.list (D.pyL xs)) := .lst sa (dp_ofL xs vs o.1 ra)
        rw [Vals.ref1 rx]
        obtain ⟨as, rd⟩ := Dp.reads I _ (.ref a) (.ref a) dp rfl
        refine repr_of_reads' rd o.2.1 (fun z => by rw [o.2.2.1] at z; cases z) hg (by have := o.2.2.2.1; omega) (fun _ _ z => z) (fun h' u tk hk => ?_) o.2.2.2.2
        exact ⟨.str _, H, I.kept (t' := tk) hk, ⟨u, rfl⟩, hq.same hs rfl⟩
      · cases hf
  · cases hf
theorem ints_map : ∀ {xs : List D} {ns : List Int}, xs.mapM D.isI = some ns → xs = ns.map D.int
  | [], ns, h => by cases h; rfl
  | x :: xs, ns, h => by
    rw [List.mapM_cons] at h
    cases x with
    | int b =>
      simp only [D.isI, Option.bind_eq_bind, Option.bind_some] at h
      cases e : xs.mapM D.isI with
      | none => rw [e] at h; cases h
      | some cs =>
        rw [e] at h; cases h
        rw [ints_map (ns := cs) e]; rfl
    | _ => cases h
theorem strs_map : ∀ {xs : List D} {ns : List Str}, xs.mapM D.isS = some ns → xs = ns.map D.str
  | [], ns, h => by cases h; rfl
  | x :: xs, ns, h => by
    rw [List.mapM_cons] at h
    cases x with
    | str b =>
      simp only [D.isS, Option.bind_eq_bind, Option.bind_some] at h
      cases e : xs.mapM D.isS with
      | none => rw [e] at h; cases h
      | some cs =>
        rw [e] at h; cases h
        rw [strs_map (ns := cs) e]; rfl
    | _ => cases h
theorem leS_iff (a b : Str) : leS a b = true ↔ a.cps.toList ≤ b.cps.toList := by
  unfold leS
  rw [PyProof.Rows.ltCps_eq]
  simp [List.not_lt]
theorem leS_pair : ∀ {l : List Str}, PyProof.Rows.sortedS l = true → l.Pairwise (fun a b => leS a b = true) := by
  have tr : ∀ a b c : Str, leS a b = true → leS b c = true → leS a c = true := fun a b c h k => (leS_iff a c).mpr (List.le_trans ((leS_iff a b).mp h) ((leS_iff b c).mp k))
  have step : ∀ (r : List Str) (p : Str), PyProof.Rows.risingS p r = true → (p :: r).Pairwise (fun a b => leS a b = true) := by
    intro r
    induction r with
    | nil => intro p _; simp
    | cons x r ih =>
      intro p h
      unfold PyProof.Rows.risingS at h
      rw [Bool.and_eq_true] at h
      have i2 := ih x h.2
      refine List.Pairwise.cons (fun y hy => ?_) i2
      rcases List.mem_cons.mp hy with rfl | hy
      · exact h.1
      · exact tr _ _ _ h.1 ((List.pairwise_cons.mp i2).1 y hy)
  intro l h
  cases l with
  | nil => exact .nil
  | cons x r => exact step r x h
theorem leS_anti {a b : Str} (h : leS a b = true) (k : leS b a = true) : a = b := by
  have e := List.le_antisymm ((leS_iff a b).mp h) ((leS_iff b a).mp k)
  cases a; cases b
  simpa [Array.toList_inj] using e
theorem cr_sorted' : CallR X (.builtin "sorted") (LC X.K bSorted) := by
  intro pins s σ H xs us Q I rx h
  obtain ⟨ρ, S, ds, d, S', hs, r, hf, hq⟩ := h
  unfold bSorted at hf
  split at hf
  · rename_i n
    obtain ⟨v, r2, rfl, r1, rfl⟩ := r
    split at hf
    · rename_i ys e
      obtain ⟨a, vs, rfl, _, sa, ra⟩ := hs.list e r1
      split at hf
      · rename_i h64
        split at hf
        · rename_i ns en
          cases hf
          rw [ints_map en] at ra h64
          have ev := RpL.ints.mp ra
          subst ev
          refine cr_sorted pins s σ H _ us Q I rx ⟨a, ns, rfl, sa, by simpa using h64, fun ns' p pm pw hp => ?_⟩
          have eq : ns' = ns.mergeSort (fun a b => decide (a ≤ b)) := by
            refine List.Perm.eq_of_pairwise (le := fun a b => a ≤ b) (fun a b _ _ h k => by omega) pw ?_ (pm.trans (List.mergeSort_perm ns _).symm)
            have := List.pairwise_mergeSort (le := fun a b : Int => decide (a ≤ b)) (fun a b c h k => by simp at *; omega) (fun a b => by simp; omega) ns
            exact this.imp fun h => of_decide_eq_true h
          subst eq
          exact hq.newL hs (RpL.ints.mpr rfl) hp
        · split at hf
          · rename_i ss en
            cases hf
            rw [strs_map en] at ra h64
            have ev := RpL.strs.mp ra
            subst ev
            refine cr_sortedS pins s σ H _ us Q I rx ⟨a, ss, rfl, sa, by simpa using h64, fun ss' p pm pw hp => ?_⟩
            have eq : ss' = ss.mergeSort leS := by
              refine List.Perm.eq_of_pairwise (le := fun a b => leS a b = true) (fun a b _ _ h k => leS_anti h k) (leS_pair pw) ?_ (pm.trans (List.mergeSort_perm ss _).symm)
              refine List.pairwise_mergeSort (fun a b c h k => (leS_iff a c).mpr (List.le_trans ((leS_iff a b).mp h) ((leS_iff b c).mp k))) (fun a b => ?_) ss
              have := List.le_total a.cps.toList b.cps.toList
              rw [Bool.or_eq_true, leS_iff, leS_iff]
              exact this
            subst eq
            exact hq.newL hs (RpL.strs.mpr rfl) hp
          · cases hf
      · cases hf
    · cases hf
  · cases hf
theorem fstEq_ok {d : PyData} : ∀ {xs : List PyData} {k j : Nat}, fstEq d k xs = some j → ∃ i z, j = k + i ∧ xs[i]? = some z ∧ PyData.eqv z d = true ∧ ∀ m z', m < i → xs[m]? = some z' → PyData.eqv z' d = false
  | [], k, j, h => by cases h
  | x :: xs, k, j, h => by
    unfold fstEq at h
    split at h
    · rename_i e
      cases h
      exact ⟨0, x, rfl, rfl, e, fun m _ hm => absurd hm (Nat.not_lt_zero m)⟩
    · rename_i e
      obtain ⟨i, z, rfl, h1, h2, h3⟩ := fstEq_ok h
      refine ⟨i + 1, z, by omega, h1, h2, fun m z' hm hz => ?_⟩
      cases m with
      | zero =>
        cases hz
        simpa using e
      | succ m => exact h3 m z' (by omega) hz
theorem mt_index' (hu : X.A.units + 65 < cLine) : MtR X "list.index" (LM X.K mIndex) := by
  intro pins s σ H x xs v us Q I rx rxs h
  obtain ⟨ρ, S, d0, ds, d, S', hs, r0, r, hf, hq⟩ := h
  unfold mIndex at hf
  split at hf
  · rename_i n y
    split at hf
    · rename_i ys e
      split at hf
      · rename_i o
        cases ef : fstEq y.py 0 (D.pyL ys) with
        | none => rw [ef] at hf; cases hf
        | some j =>
          rw [ef] at hf; cases hf
          obtain ⟨i, z, ej, h1, h2, h3⟩ := fstEq_ok ef
          rw [Nat.zero_add] at ej
          subst ej
          obtain ⟨a, vs, rfl, ea, sa, ra⟩ := hs.list e r0
          obtain ⟨w, r2, rfl, r1, rfl⟩ := r
          exact mt_indexD hu pins s σ H _ _ v us Q I rx rxs ⟨a, w, y.py, D.pyL ys, j, z, rfl, rfl, .lst sa (dp_ofL ys vs o.1.1 ra), dp_of y w o.2.1 r1, o.1.2, o.2.2, h1, h2, h3, hq.same hs rfl⟩
      · cases hf
    · cases hf
  · cases hf
/-- isinstance(x, T), T a built-in class -/
theorem ty_of {K : PySem.W.Frag} {H : Hp} {ρ : List Addr} {S : Sto} {d : D} {v : V} (hs : Sr K H ρ S) (hk : noDk S d = true) (r : Rp K H ρ d v) : TyX K H v (.type (tyN d)) := by
  cases d with
  | non => cases r; exact (.base .non)
  | bl b => cases r; exact (.base (.bl b))
  | int i => cases r; exact (.base (.int i))
  | str x => cases r; exact (.base (.str x))
  | tup ds =>
    obtain ⟨a, vs, rfl, ⟨(h | ⟨o, h⟩) | ⟨o, its, n, h, c, _⟩, _⟩, _⟩ := r
    · exact (.base (.tup h))
    · exact (.fTuple h)
    · exact (.kTuple h c)
  | loc n =>
    obtain ⟨a, rfl, ea⟩ := r
    have hn : n < S.length := by rw [← hs.len]; exact (List.getElem?_eq_some_iff.mp ea).1
    obtain ⟨b, eb, r⟩ := hs.at_ n _ (List.getElem?_eq_getElem hn)
    rw [ea] at eb; cases eb
    cases q : S[n] with
    | dk kvs =>
      have : getL S n = none := by unfold getL; rw [List.getElem?_eq_getElem hn, q]
      simp only [noDk, this] at hk
      cases hk
    | dt kvs =>
      have : getL S n = none := by unfold getL; rw [List.getElem?_eq_getElem hn, q]
      simp only [noDk, this] at hk
      cases hk
    | lst ds =>
      rw [q] at r
      obtain ⟨vs, h, _⟩ := r
      exact (.base (.lst h))
    | ro ds =>
      rw [q] at r
      obtain ⟨vs, ⟨o, h⟩ | ⟨o, its, n, h, c, _⟩, _⟩ := r
      · exact (.base (.frz h))
      · exact (.kList h c)
def isiTys : List String := ["bool", "str", "tuple", "int", "list"]
theorem kitN : ∀ n ∈ ["NoneType", "bool", "int", "str", "tuple", "list"], ∀ T ∈ isiTys, kitB n T = some (isiN T n) := by decide +kernel
theorem kit_isi {K : PySem.W.Frag} {d : D} {T : String} (hT : T ∈ isiTys) : PySem.W.kitOne K (.type (tyN d)) (.type T) = some (isiB T d) := by
  refine kit_ty (kitN _ ?_ T hT)
  cases d <;> simp [tyN]
theorem mt_append' : MtM X "list.append" (LM X.K mAppend) := by
  intro pins s σ H x xs v us Q I rx rxs h
  obtain ⟨ρ, S, d0, ds, d, S', hs, r0, r, hf, hq⟩ := h
  unfold mAppend at hf
  split at hf
  · rename_i n y
    split at hf
    · rename_i ys e
      split at hf
      · rename_i hl; cases hf
        obtain ⟨a, vs, rfl, ea, ha, ra⟩ := hs.lstM e r0
        obtain ⟨w, r2, rfl, r1, rfl⟩ := r
        exact mt_append pins s σ H _ _ v us Q I rx rxs ⟨a, vs, w, rfl, rfl, ha, by rw [← ra.length]; exact hl, hq.write hs (getM_so e) ea (ra.append (RpL.one r1)) rfl⟩
      · cases hf
    · cases hf
  · cases hf
theorem pair_rp {K : PySem.W.Frag} {H : Hp} {ρ : List Addr} : ∀ {ps : List D} {kvs : List (Key × D)} {vs : List V}, ps.mapM pairD = some kvs → RpL K H ρ ps vs →
    ∃ (as : List Addr) (ws : List (Key × V)), vs = as.map V.ref ∧ Paired (fun (p : Addr) (kv : Key × V) => SqT K H p [kV kv.1, kv.2]) as ws ∧ kvs.map (·.1) = ws.map (·.1) ∧ RpL K H ρ (kvs.map (·.2)) (ws.map (·.2))
  | [], kvs, vs, h, r => by cases h; cases r; exact ⟨[], [], rfl, .nil, rfl, rfl⟩
  | p :: ps, kvs, vs, h, r => by
    obtain ⟨v, rr, rfl, r1, r2⟩ := r
    rw [List.mapM_cons] at h
    cases e : pairD p with
    | none => rw [e] at h; cases h
    | some kv =>
      rw [e] at h
      cases e2 : ps.mapM pairD with
      | none => rw [e2] at h; cases h
      | some kvs' =>
        rw [e2] at h; cases h
        obtain ⟨as, ws, rfl, pa, ek, rw'⟩ := pair_rp e2 r2
        unfold pairD at e
        split at e
        · rename_i k w
          cases ek2 : keyD k with
          | none => rw [ek2] at e; cases e
          | some kk =>
            rw [ek2] at e; cases e
            obtain ⟨a, us, rfl, sa, ra⟩ := r1
            obtain ⟨u1, t1, rfl, q1, u2, t2, rfl, q2, rfl⟩ := ra
            rw [keyD_rp ek2 q1] at sa
            exact ⟨a :: as, (kk, u2) :: ws, rfl, .cons sa.1 pa, by simp [ek], ⟨u2, _, rfl, q2, rw'⟩⟩
        · cases e
theorem putD_rp {κ : Type} [DecidableEq κ] {K : PySem.W.Frag} {H : Hp} {ρ : List Addr} {k : κ} {d : D} {v : V} {kvs : List (κ × D)} {vs : List (κ × V)} (e : kvs.map (·.1) = vs.map (·.1)) (r : RpL K H ρ (kvs.map (·.2)) (vs.map (·.2))) (rv : Rp K H ρ d v) :
    (putD kvs k d).map (·.1) = (putK vs k v).map (·.1) ∧ RpL K H ρ ((putD kvs k d).map (·.2)) ((putK vs k v).map (·.2)) := by
  have any : ∀ {kvs : List (κ × D)} {vs : List (κ × V)}, kvs.map (·.1) = vs.map (·.1) → (kvs.any fun kv => decide (kv.1 = k)) = vs.any fun kv => decide (kv.1 = k) := by
    intro kvs vs e
    have h1 : (kvs.any fun kv => decide (kv.1 = k)) = (kvs.map (·.1)).any fun z => decide (z = k) := by rw [List.any_map]; rfl
    have h2 : (vs.any fun kv => decide (kv.1 = k)) = (vs.map (·.1)).any fun z => decide (z = k) := by rw [List.any_map]; rfl
    rw [h1, h2, e]
  have repl : ∀ {kvs : List (κ × D)} {vs : List (κ × V)}, kvs.map (·.1) = vs.map (·.1) → RpL K H ρ (kvs.map (·.2)) (vs.map (·.2)) →
      (kvs.map fun kv => if kv.1 = k then (kv.1, d) else kv).map (·.1) = (vs.map fun kv => if kv.1 = k then (kv.1, v) else kv).map (·.1) ∧
      RpL K H ρ ((kvs.map fun kv => if kv.1 = k then (kv.1, d) else kv).map (·.2)) ((vs.map fun kv => if kv.1 = k then (kv.1, v) else kv).map (·.2)) := by
    intro kvs
    induction kvs with
    | nil =>
      intro vs e r
      cases vs with
      | nil => exact ⟨rfl, rfl⟩
      | cons _ _ => cases e
    | cons x kvs ih =>
      intro vs e r
      cases vs with
      | nil => cases e
      | cons y vs =>
        obtain ⟨k1, d1⟩ := x
        obtain ⟨k2, v2⟩ := y
        have e1 : k1 = k2 := (List.cons.inj e).1
        have e2 : kvs.map (·.1) = vs.map (·.1) := (List.cons.inj e).2
        obtain ⟨w, rr, ev, r1, r2⟩ := r
        obtain ⟨rfl, rfl⟩ := List.cons.inj ev
        subst e1
        obtain ⟨i1, i2⟩ := ih e2 r2
        by_cases q : k1 = k
        · simp only [List.map_cons, if_pos q]
          exact ⟨by rw [i1], _, _, rfl, rv, i2⟩
        · simp only [List.map_cons, if_neg q]
          exact ⟨by rw [i1], _, _, rfl, r1, i2⟩
  unfold putD putK
  rw [any e]
  split
  · exact repl e r
  · simp only [List.map_append, List.map_cons, List.map_nil]
    exact ⟨by rw [e], r.append (RpL.one rv)⟩
theorem mergeD_rp {K : PySem.W.Frag} {H : Hp} {ρ : List Addr} : ∀ {more : List (Key × D)} {ms : List (Key × V)} {kvs : List (Key × D)} {vs : List (Key × V)}, more.map (·.1) = ms.map (·.1) → RpL K H ρ (more.map (·.2)) (ms.map (·.2)) → kvs.map (·.1) = vs.map (·.1) → RpL K H ρ (kvs.map (·.2)) (vs.map (·.2)) →
    (mergeD kvs more).map (·.1) = (mergeK vs ms).map (·.1) ∧ RpL K H ρ ((mergeD kvs more).map (·.2)) ((mergeK vs ms).map (·.2))
  | [], [], _, _, _, _, e, r => ⟨e, r⟩
  | [], _ :: _, _, _, h, _, _, _ => by cases h
  | _ :: _, [], _, _, h, _, _, _ => by cases h
  | (k1, d1) :: more, (k2, v2) :: ms, kvs, vs, h, q, e, r => by
    have e1 : k1 = k2 := (List.cons.inj h).1
    subst e1
    obtain ⟨v, rr, ev, q1, q2⟩ := q
    obtain ⟨rfl, rfl⟩ := List.cons.inj ev
    obtain ⟨e', r'⟩ := putD_rp (k := k1) e r q1
    have z := mergeD_rp (more := more) (ms := ms) (List.cons.inj h).2 q2 e' r'
    exact z
theorem cr_dict (hc : X.calm = true) (md : Sct.md = .pln) : CallR X (.type "dict") (LC X.K bDict) := by
  intro pins s σ H xs us Q I rx h
  obtain ⟨ρ, S, ds, d, S', hs, r, hf, hq⟩ := h
  unfold bDict at hf
  split at hf
  · rename_i ps
    split at hf
    · cases e : ps.mapM pairD with
      | none => rw [e] at hf; cases hf
      | some kvs =>
        rw [e] at hf; cases hf
        obtain ⟨v, r2, rfl, ⟨a, vs, rfl, sa, ra⟩, rfl⟩ := r
        obtain ⟨as, ws, rfl, pa, ek, rw'⟩ := pair_rp e ra
        obtain ⟨o, ho, hd⟩ := sa.2.2 md
        refine call_dict_tup hc pins s σ H _ us Q I rx ⟨a, as, ws, o, rfl, sa.1, ho, hd, pa, fun p hp => ?_⟩
        obtain ⟨e', r'⟩ := mergeD_rp (kvs := []) (vs := []) ek rw' rfl rfl
        exact hq _ (ρ ++ [p]) _ (Mono.new hp) ⟨[p], rfl⟩ (hs.newD hp e' r') ⟨p, rfl, by rw [← hs.len]; simp⟩
    · cases hf
  · cases hf
theorem mt_sindex' : MtR X "str.index" (LM X.K mSindex) := by
  intro pins s σ H x xs v us Q I rx rxs h
  obtain ⟨ρ, S, d0, ds, d, S', hs, r0, r, hf, hq⟩ := h
  unfold mSindex at hf
  split at hf
  · rename_i a b
    split at hf
    · rename_i i rest e
      cases hf
      cases r0
      obtain ⟨w, r2, rfl, r1, rfl⟩ := r
      cases r1
      exact mt_sindex pins s σ H _ _ v us Q I rx rxs ⟨a, b, i, rest, rfl, rfl, e, hq.same hs rfl⟩
    · cases hf
  · cases hf
theorem mt_insert' : MtR X "list.insert" (LM X.K mInsert) := by
  intro pins s σ H x xs v us Q I rx rxs h
  obtain ⟨ρ, S, d0, ds, d, S', hs, r0, r, hf, hq⟩ := h
  unfold mInsert at hf
  split at hf
  · rename_i n i y
    split at hf
    · rename_i ys e
      split at hf
      · rename_i hl
        cases hf
        obtain ⟨a, vs, rfl, ea, ha, ra⟩ := hs.lstM e r0
        obtain ⟨w1, t1, rfl, q1, w2, t2, rfl, q2, rfl⟩ := r
        cases q1
        exact mt_insert pins s σ H _ _ v us Q I rx rxs ⟨a, vs, i, w2, rfl, rfl, ha, by rw [← ra.length]; exact hl.1, hl.2.1, hl.2.2, hq.write hs (getM_so e) ea (((ra.take _).append (RpL.one q2)).append (ra.drop _)) rfl⟩
      · cases hf
    · cases hf
  · cases hf
/-- a method without arguments -/
def LM0 (K : PySem.W.Frag) (f : D → Sto → Option (D × Sto)) : V → List V → Hp → VK → Prop := fun x xs H Q => xs = [] ∧ ∃ ρ S d0 d S', Sr K H ρ S ∧ Rp K H ρ d0 x ∧ f d0 S = some (d, S') ∧ Pst K H ρ d S' Q
theorem mt_pop' : MtM X "list.pop" (LM0 X.K mPop) := by
  intro pins s σ H x xs v us Q I rx rxs h
  obtain ⟨rfl, ρ, S, d0, d, S', hs, r0, hf, hq⟩ := h
  unfold mPop at hf
  split at hf
  · rename_i n
    split at hf
    · rename_i ys e
      split at hf
      · rename_i y ey
        cases hf
        obtain ⟨a, vs, rfl, ea, ha, ra⟩ := hs.lstM e r0
        obtain ⟨w, ew, rw'⟩ := ra.get ey
        rw [ra.length] at ew
        refine mt_pop pins s σ H _ _ v us Q I rx rxs ⟨a, vs, w, rfl, rfl, ha, ew, hq.write hs (getM_so e) ea ?_ rw'⟩
        rw [List.dropLast_eq_take, List.dropLast_eq_take, ra.length]
        exact ra.take _
      · cases hf
    · cases hf
  · cases hf
theorem mt_reverse' : MtM X "list.reverse" (LM0 X.K mReverse) := by
  intro pins s σ H x xs v us Q I rx rxs h
  obtain ⟨rfl, ρ, S, d0, d, S', hs, r0, hf, hq⟩ := h
  unfold mReverse at hf
  split at hf
  · rename_i n
    split at hf
    · rename_i ys e
      cases hf
      obtain ⟨a, vs, rfl, ea, ha, ra⟩ := hs.lstM e r0
      exact mt_reverse pins s σ H _ _ v us Q I rx rxs ⟨a, vs, rfl, rfl, ha, hq.write hs (getM_so e) ea ra.reverse rfl⟩
    · cases hf
  · cases hf
end
end Cs

set_option Elab.async false
set_option linter.all false
set_option maxRecDepth 100000
namespace Cs
open PySem PySem.Spec PyProof.Rows L2
variable [Sct]

/-! ### the given text against the own one -/
def isVis (sc : Scope) (x : Str) : Bool := match sc.names.lookup x with
  | some .local => true | some .cell => true | some .free => true | _ => false
def isLoc (sc : Scope) (x : Str) : Bool := match sc.names.lookup x with
  | some .local => true | some .cell => true | _ => false
def isGl (sc : Scope) (x : Str) : Bool := match sc.names.lookup x with
  | some .globalImplicit => true | _ => false
def nd (x : Str) : Bool := !(x == ("__debug__" : Str)) && !(x == ("__classdict__" : Str))
theorem isVis_ok {sc : Scope} {x : Str} (h : isVis sc x = true) : Vis sc x := by
  unfold isVis at h
  unfold Vis
  split at h <;> simp_all
theorem isLoc_ok {sc : Scope} {x : Str} (h : isLoc sc x = true) : L2.Loc sc x := by
  unfold isLoc at h
  unfold L2.Loc
  split at h <;> simp_all
theorem isGl_ok {sc : Scope} {x : Str} (h : isGl sc x = true) : sc.names.lookup x = some .globalImplicit := by
  unfold isGl at h
  split at h <;> simp_all
theorem nd_ok {x : Str} (h : nd x = true) : (x == ("__debug__" : Str)) = false ∧ (x == ("__classdict__" : Str)) = false := by
  unfold nd at h
  simpa using h
/-- what the text may name: functions, constants -/
structure MC where
  N : List Str
  fs : List String
  gs : List String
  ds : List String
def cnOk : Cn → Const → Bool
  | .non, .none => true
  | .bl b, .bool b' => b == b'
  | .int i, .int j => i == j
  | .str s, .str x => decide (x = Str.ofString s)
  | _, _ => false
def bopOk : Bop → Operator → Bool
  | .add, .Add => true | .sub, .Sub => true | .mul, .Mult => true | .fdiv, .FloorDiv => true | .mod, .Mod => true | .pow, .Pow => true
  | _, _ => false
def copOk : Cop → CmpOp → Bool
  | .eq, .Eq => true | .ne, .NotEq => true | .lt, .Lt => true | .le, .LtE => true | .gt, .Gt => true | .ge, .GtE => true | .isin, .In => true | .notin, .NotIn => true
  | _, _ => false
def bltFns : List String := ["len", "abs", "max", "min", "all", "any", "repr", "sorted"]
def bltTys : List String := ["int", "list", "tuple", "dict"]
def mthFns : List String := ["append", "index", "insert", "sindex"]
def mth0Fns : List String := ["pop", "reverse"]
/-- a method's name in the text -/
def mNm (f : String) : String := if f = "sindex" then "index" else f
/-- built-ins that must not be hidden by the text -/
def bltAll : List String := bltFns ++ bltTys ++ ["range", "reversed", "isinstance", "zip", "enumerate"] ++ isiTys
def mName (N : List Str) (i : Nat) (x : Str) : Bool := decide (N[i]? = some x)
def mTgs (N : List Str) (sc : Scope) : List Nat → List Expr → Bool
  | [], [] => true
  | i :: is, .Name x _ :: es => mName N i x && isLoc sc x && mTgs N sc is es
  | _, _ => false
def mTg (N : List Str) (sc : Scope) : Tg → Expr → Bool
  | .v i, .Name x _ => mName N i x && isLoc sc x
  | .t is, .Tuple es _ _ => mTgs N sc is es && decide (0 < is.length)
  | _, _ => false
def simpleO : E → Bool
  | .var _ => true | .cn _ => true | _ => false
def isTrueE : E → Bool
  | .cn (.bl true) => true | _ => false
def lineOk (a c : Pos) : Bool := a.endLine == c.line
def isTupE : Expr → Bool
  | .Tuple _ _ _ => true | _ => false
/-- a walked thing's arguments -/
def itX (tg : Expr) (sc : Scope) : IK → Expr → Option (List Expr)
  | .enum, .Call (.Name x _) [e] [] _ => if decide (x = Str.ofString "enumerate") && isGl sc x && isTupE tg then some [e] else none
  | .seq, e => some [e]
  | .rng, .Call (.Name x _) es [] _ => if decide (x = Str.ofString "range") && isGl sc x && (es.length == 1 || es.length == 2) then some es else none
  | .rev, .Call (.Name x _) [e] [] _ => if decide (x = Str.ofString "reversed") && isGl sc x then some [e] else none
  | _, _ => none
mutual
def mE (m : MC) : Scope → E → Expr → Bool
  | sc, .var i, .Name x _ => mName m.N i x && isVis sc x && nd x
  | _, .cn c, .Constant k _ _ => cnOk c k
  | sc, .glb g, .Name x _ => decide (x = Str.ofString g) && m.gs.contains g && isGl sc x && nd x
  | sc, .bin op a b, .BinOp a' o b' _ => bopOk op o && mE m sc a a' && mE m sc b b'
  | sc, .neg a, .UnaryOp .USub a' _ => mE m sc a a'
  | sc, .cmp op a b, .Compare a' [o] [b'] _ => copOk op o && mE m sc a a' && mE m sc b b' && !behindInMarks o b'
  | sc, .isN a, .Compare a' [.Is] [.Constant .none _ _] _ => mE m sc a a'
  | sc, .notN a, .Compare a' [.IsNot] [.Constant .none _ _] _ => mE m sc a a'
  | sc, .isB a b, .Compare a' [.Is] [.Constant (.bool b') _ _] _ => mE m sc a a' && (b == b')
  | sc, .isi a T, .Call (.Name x _) [a', .Name y _] [] _ => decide (x = Str.ofString "isinstance") && decide (y = Str.ofString T) && isiTys.contains T && isGl sc x && isGl sc y && nd y && mE m sc a a'
  | sc, .nt a, .UnaryOp .Not a' _ => mE m sc a a'
  | sc, .and a b, .BoolOp .And vs pos => match vs with
    | [a', b'] => mE m sc a a' && mE m sc b b'
    | a' :: b' :: c' :: r => mE m sc a a' && mE m sc b (.BoolOp .And (b' :: c' :: r) pos)
    | _ => false
  | sc, .or a b, .BoolOp .Or vs pos => match vs with
    | [a', b'] => mE m sc a a' && mE m sc b b'
    | a' :: b' :: c' :: r => mE m sc a a' && mE m sc b (.BoolOp .Or (b' :: c' :: r) pos)
    | _ => false
  | sc, .ife t a b, .IfExp t' a' b' _ => mE m sc t t' && mE m sc a a' && mE m sc b b'
  | sc, .tup es, .Tuple es' _ _ => mEs m sc es es' && decide (es.length ≤ 1000)
  | sc, .lst es, .List es' _ => mEs m sc es es' && decide (es.length ≤ 1000)
  | sc, .idx a i, .Subscript a' i' _ => mE m sc a a' && mE m sc i i'
  | sc, .slc a lo hi, .Subscript a' (.Slice lo' hi' none _) _ => mE m sc a a' &&
      (match lo' with | none => isNonE lo | some l => mE m sc lo l && !isNonE lo) && (match hi' with | none => isNonE hi | some h => mE m sc hi h && !isNonE hi)
  | sc, .call f es, .Call (.Name x _) es' [] _ => decide (x = Str.ofString f) && m.fs.contains f && isGl sc x && nd x && mEs m sc es es' && decide (0 < es.length)
  | sc, .blt f es, .Call (.Name x _) es' [] _ => decide (x = Str.ofString f) && (bltFns.contains f || bltTys.contains f) && isGl sc x && nd x && mEs m sc es es' && decide (0 < es.length) && (f != "dict" || decide (Sct.md = .pln))
  | sc, .mth f o es, .Call (.Attribute o' x ap) es' [] cp => decide (x = Str.ofString (mNm f)) && mthFns.contains f && mE m sc o o' && simpleO o && mEs m sc es es' && decide (0 < es.length) && decide (es.length < 29) && lineOk ap cp
  | sc, .lc t k es c e, .ListComp e' [⟨tg, it, ifs, as⟩] scope _ => mTg m.N scope t tg && (match itX tg sc k it with | some es' => mEs m sc es es' | none => false) && (match ifs with | [] => isTrueE c | [i] => mE m (relS scope sc) c i | _ => false) &&
      mE m (relS scope sc) e e' && (as == 0) && blkC m.N sc scope (t.slots.map fun i => (m.N.getD i default, i))
  | sc, .lc2 t k es c t1 k1 es1 c1 e, .ListComp e' [⟨tg, it, ifs, as⟩, ⟨tg1, it1, ifs1, as1⟩] scope _ => mTg m.N scope t tg && mTg m.N scope t1 tg1 && (match itX tg sc k it with | some es' => mEs m sc es es' | none => false) &&
      (match itX tg1 (relS scope sc) k1 it1 with | some es' => mEs m (relS scope sc) es1 es' | none => false) && (match ifs with | [] => isTrueE c | [i] => mE m (relS scope sc) c i | _ => false) && (match ifs1 with | [] => isTrueE c1 | [i] => mE m (relS scope sc) c1 i | _ => false) &&
      mE m (relS scope sc) e e' && (as == 0) && (as1 == 0) && blkC m.N sc scope ((t.slots ++ t1.slots).map fun i => (m.N.getD i default, i))
  | sc, .tr e, e' => mE m sc e e'
  | _, .dnew, .Dict [] [] _ => true
  | sc, .mth0 f o, .Call (.Attribute o' x ap) [] [] cp => decide (x = Str.ofString f) && mth0Fns.contains f && mE m sc o o' && simpleO o && lineOk ap cp
  | sc, .dict1 k v, .Dict [some k'] [v'] _ => decide (Sct.md = .trk) && mE m sc k k' && mE m sc v v'
  | sc, .dc t k es c ke ve, .DictComp kx vx [⟨tg, it, ifs, as⟩] scope _ => mTg m.N scope t tg && (match itX tg sc k it with | some es' => mEs m sc es es' | none => false) && (match ifs with | [] => isTrueE c | [i] => mE m (relS scope sc) c i | _ => false) &&
      mE m (relS scope sc) ke kx && mE m (relS scope sc) ve vx && (as == 0) && blkC m.N sc scope (t.slots.map fun i => (m.N.getD i default, i)) && decide (Sct.md = .trk)
  | sc, .gget g i, .Subscript (.Name x _) i' _ => decide (x = Str.ofString g) && m.ds.contains g && isGl sc x && nd x && mE m sc i i'
  | sc, .gin neg g a, .Compare a' [o] [.Name x _] _ => (match neg, o with | false, .In => true | true, .NotIn => true | _, _ => false) && decide (x = Str.ofString g) && m.ds.contains g && isGl sc x && nd x && mE m sc a a'
  | sc, .dzip a b, .Call (.Name x _) [.Call (.Name y _) [a', b'] [] _] [] _ => decide (x = Str.ofString "dict") && decide (y = Str.ofString "zip") && isGl sc x && isGl sc y && mE m sc a a' && mE m sc b b'
  | sc, .lrng a, .Call (.Name x _) [.Call (.Name y _) [a'] [] _] [] _ => decide (x = Str.ofString "list") && decide (y = Str.ofString "range") && isGl sc x && isGl sc y && mE m sc a a'
  | sc, .trev a, .Call (.Name x _) [.Call (.Name y _) [a'] [] _] [] _ => decide (x = Str.ofString "tuple") && decide (y = Str.ofString "reversed") && isGl sc x && isGl sc y && mE m sc a a'
  | _, _, _ => false
termination_by structural _ e _ => e
def mEs (m : MC) : Scope → List E → List Expr → Bool
  | _, [], [] => true
  | sc, e :: es, e' :: es' => mE m sc e e' && mEs m sc es es'
  | _, _, _ => false
termination_by structural _ es _ => es
end
end Cs

set_option Elab.async false
set_option linter.all false
set_option maxRecDepth 100000
namespace Cs
open PySem PySem.Spec PyProof.Rows L2

/-! ### defs called where no repr runs around -/
/-- what a def promises to callers around whom nothing is being shown -/
structure FnG (P : Program) (w : World) (K : PySem.W.Frag) (mg : Str → Option Value) (base : Heap) (k : Nat) (f : Addr) (fd : FuncData) (ps : List Str) (sp : List V → Hp → VK → Prop) : Prop where
  cnt : ∀ vs H Q, sp vs H Q → vs.length = ps.length
  go : ∀ (A : Around) (outer : List Env) (s : Shared) (H : Hp) (args : Args) (us : List Value) (vs : List V) (Q : VK), A.guards = some [] → Room k A → Env0 P w K mg base A outer s H → BindsTo s fd args (ps.zip us) → Vals vs us → sp vs H Q →
    codeAny (model P w) A (.call (.ref f) args) (fun r s' => ∃ u, r = .ok (.ret u) ∧ CE outer P w H s Q u s') s

section
variable {X : Cx} {k : Nat} {f : Addr} {fd : FuncData} {ps : List Str} {sp : List V → Hp → VK → Prop} {x : Str} {p pos : Pos} {e : Expr} {es : List Expr} {t : TA}
/-- f(..) by such a promise -/
theorem pe_callG (F : FnG X.prog X.w X.K X.mg X.base k f fd ps sp) (hgd : X.A.guards = some []) (room : Room k X.A) (glo : Gl X x) (at_ : X.mg x = some (.ref f)) (kept : PySem.W.keepIn X.K (.ref f) = true) (bind : Binds X.K fd ps [])
    (args : PA X (e :: es) t) (ndb : (x == ("__debug__" : Str)) = false) (st : starEach (e :: es) X.env = (false, eval e X.env) :: starEach es X.env) (npl : (backTo pos (starEach es X.env)).any (·.1) = false) :
    PE X (.Call (.Name x p) (e :: es) [] pos) (fun σ H Q => t σ H fun vs H1 => sp vs H1 Q) where
  run pins s σ H Q I h := by
    apply wpAny_Call_Name_kw
    apply ld_glob I glo at_ (hd := ndb)
    refine PySem.W.callWith_K (h₀ := X.base) I.ok.mod.kin kept (thn (args.run pos pins s σ H _ I h) ?_) st npl
    rintro us s1 ⟨vs, H1, I1, rv, q⟩
    refine ⟨I1.kIn, wpAny_call ?_⟩
    have hn : (us ++ ([] : List Value)).length = ps.length := by rw [List.append_nil, ← rv.length]; exact F.cnt _ _ _ q
    have hb := bind s1 us I1.kIn hn
    rw [List.append_nil] at hb
    refine codeAny_mono (F.go X.A X.stack s1 H1 ⟨us, []⟩ us vs Q hgd room I1.env0 hb rv q) ?_
    rintro r s2 ⟨u, rfl, ce⟩
    exact I1.after ce
end
/-- a def of the text keeps its promise: by its body's reading -/
theorem fnG_of {P : Program} {w : World} {K : PySem.W.Frag} {mg : Str → Option Value} {base : Heap} {k : Nat} {x qual : Str} {st : Stmt} {f : Addr} {fd : FuncData} {N ps : List Str} {sp : List V → Hp → VK → Prop} (F : Fun K x qual st f fd) (sc : FnScope N ps (defScope st))
    (cnt : ∀ vs H Q, sp vs H Q → vs.length = ps.length)
    (body : ∀ (cdv : Value) (A : Around) (outer : List Env) (s : Shared) (H : Hp) (vs : List V) (Q : VK), A.guards = some [] → Room k (A.deeper (envOfC qual (defScope st) s.heap.objs.size f cdv)) → sp vs H Q →
      ∃ t, PSs (cxOf CX0 P w K mg base N qual (defScope st) f cdv A outer s H E0).nox (defBody st) t ∧ t { nx := fun _ H' => Q .non H', rt := Q } (L2.start N vs) H) : FnG P w K mg base (k + 1) f fd ps sp where
  cnt := cnt
  go A outer s H args us vs Q hgd room e0 hb rv q := by
    obtain ⟨oc, od, kV, doc, pm, an, cdv, ct, osl, rfl, lk, code⟩ := F.ex
    have kin : K.In s.heap := e0.mod.kin.keeps fun b o z => (e0.bs b o z).1
    have nl : s.heap.NoLimit := e0.mod.nolimit.keeps fun b o z => (e0.bs b o z).1
    have kinds : ∀ y ∈ ps.zip us, (defScope st).names.lookup y.1 = some .local ∨ ((defScope st).names.lookup y.1 = some .cell ∧ ((cellsFrom (s.heap.objs.size + 1) (defScope st).names []).lookup y.1).isSome = true) := by
      rintro ⟨n, v⟩ hy
      rcases sc.par n (List.of_mem_zip hy).1 with z | z
      · exact .inl z
      · exact .inr ⟨z, PySem.W.cellsFrom_some _ _ _ (.inl z)⟩
    apply codeAny_call_function room.depth (kin _ _ lk) rfl sc.co sc.gen rfl (PySem.W.codeRec_of kin code)
    apply hb
    apply wpAny_newFunctionEnv_cells sc.kind kinds
    rintro env he s1 y
    subst he
    refine ⟨nl.keeps y.toInCall.keep, codeAny_func ?_⟩
    obtain ⟨t, ht, hq⟩ := body cdv A outer s H vs Q hgd (room.deeper _) q
    have I := inv_start (CX := CX0) (E := E0) sc room.hd e0 (cnt _ _ _ q) rv y
    refine wpAny_mono (ht.nox.run [] s1 (L2.start N vs) H _ I hq) (fun fl s' hs => ?_) fun e s' hs => ?_
    · cases fl with
      | ret u =>
        obtain ⟨v, σ', H', J, r, z⟩ := hs
        exact ⟨u, rfl, v, H', J.os, J.bare, J.base, J.hok, r, z⟩
      | next =>
        obtain ⟨σ', H', J, z⟩ := hs
        exact ⟨.none, rfl, .non, H', J.os, J.bare, J.base, J.hok, rfl, z⟩
      | brk => exact hs.elim fun _ z => z.elim fun _ z => z.2.elim
      | cont => exact hs.elim fun _ z => z.elim fun _ z => z.2.elim
    · exact wpAny_mono hs (fun _ _ z => z.elim) fun _ _ z => z.elim
end Cs

set_option Elab.async false
set_option linter.all false
set_option maxRecDepth 100000
namespace Cs
open PySem PySem.Spec PyProof.Rows L2
variable [Sct]

/-! ### readings of expressions -/
def LE (K : PySem.W.Frag) (f : Ev → Sto → Option (D × Sto)) : TE := fun σ H Q => ∃ ρ env S d S', Sr K H ρ S ∧ EnvR K H ρ env σ ∧ f env S = some (d, S') ∧ Pst K H ρ d S' Q
def LT (K : PySem.W.Frag) (f : Ev → Sto → Option (Bool × Sto)) : TT := fun σ H Q => ∃ ρ env S k S', Sr K H ρ S ∧ EnvR K H ρ env σ ∧ f env S = some (k, S') ∧ ∀ H' ρ', Mono H H' → ρ <+: ρ' → Sr K H' ρ' S' → Q k H'
def LA (K : PySem.W.Frag) (f : Ev → Sto → Option (List D × Sto)) : TA := fun σ H Q => ∃ ρ env S ds S', Sr K H ρ S ∧ EnvR K H ρ env σ ∧ f env S = some (ds, S') ∧ ∀ H' ρ' vs, Mono H H' → ρ <+: ρ' → Sr K H' ρ' S' → RpL K H' ρ' ds vs → Q vs H'
section
variable {K : PySem.W.Frag} {H H1 : Hp} {ρ ρ1 : List Addr} {S S1 : Sto} {env : Ev} {σ : L2.St}
theorem LE.mk {f : Ev → Sto → Option (D × Sto)} {R : VK} {x : D} (hs : Sr K H ρ S) (he : EnvR K H ρ env σ) (hf : f env S = some (x, S1))
    (k : ∀ H1 ρ1 v, Mono H H1 → ρ <+: ρ1 → Sr K H1 ρ1 S1 → EnvR K H1 ρ1 env σ → Rp K H1 ρ1 x v → R v H1) : LE K f σ H R :=
  ⟨ρ, env, S, x, S1, hs, he, hf, fun H' ρ' v m p s r => k H' ρ' v m p s (he.mono m p) r⟩
theorem LT.mk {f : Ev → Sto → Option (Bool × Sto)} {R : Bool → Hp → Prop} {x : Bool} (hs : Sr K H ρ S) (he : EnvR K H ρ env σ) (hf : f env S = some (x, S1))
    (k : ∀ H1 ρ1, Mono H H1 → ρ <+: ρ1 → Sr K H1 ρ1 S1 → EnvR K H1 ρ1 env σ → R x H1) : LT K f σ H R :=
  ⟨ρ, env, S, x, S1, hs, he, hf, fun H' ρ' m p s => k H' ρ' m p s (he.mono m p)⟩
theorem LA.mk {f : Ev → Sto → Option (List D × Sto)} {R : List V → Hp → Prop} {x : List D} (hs : Sr K H ρ S) (he : EnvR K H ρ env σ) (hf : f env S = some (x, S1))
    (k : ∀ H1 ρ1 vs, Mono H H1 → ρ <+: ρ1 → Sr K H1 ρ1 S1 → EnvR K H1 ρ1 env σ → RpL K H1 ρ1 x vs → R vs H1) : LA K f σ H R :=
  ⟨ρ, env, S, x, S1, hs, he, hf, fun H' ρ' v m p s r => k H' ρ' v m p s (he.mono m p) r⟩
theorem Pst.mono {d : D} {Q : VK} (p : Pst K H ρ d S Q) (m : Mono H H1) (q : ρ <+: ρ1) : Pst K H1 ρ1 d S Q := fun H' ρ' v m' q' s r => p H' ρ' v (m.trans m') (q.trans q') s r
end
section
variable {X : Cx} {e : Expr}
theorem _root_.L2.PE.weakC {t t' : TE} (h : PE X e t) (w : ∀ σ H Q, t' σ H Q → t σ H Q) : PE X e t' := ⟨fun pins s σ H Q I q => h.run pins s σ H Q I (w _ _ _ q)⟩
theorem _root_.L2.PT.weakC {t t' : TT} (h : PT X e t) (w : ∀ σ H Q, t' σ H Q → t σ H Q) : PT X e t' := ⟨fun pins s σ H Q I q => h.run pins s σ H Q I (w _ _ _ q)⟩
theorem _root_.L2.PA.weakC {es : List Expr} {t t' : TA} (h : PA X es t) (w : ∀ σ H Q, t' σ H Q → t σ H Q) : PA X es t' := ⟨fun pos pins s σ H Q I q => h.run pos pins s σ H Q I (w _ _ _ q)⟩
theorem _root_.L2.PW.weakC {t t' : TT} (h : PW X e t) (w : ∀ σ H Q, t' σ H Q → t σ H Q) : PW X e t' := ⟨fun wh pins s σ H Q I q => h.run wh pins s σ H Q I (w _ _ _ q)⟩
theorem pw_of_pt {op : BoolOp} {vs : List Expr} {pos : Pos} {t : TT} (h : PT X (.BoolOp op vs pos) t) : PW X (.BoolOp op vs pos) t := ⟨fun wh pins s σ H Q I q => h.run pins s σ H Q I q⟩
abbrev LTe (K : PySem.W.Frag) (f : Ev → Sto → Option (D × Sto)) : TT := LT K fun env S => tst (f env S)
theorem tst_inv {m : Option (D × Sto)} {k : Bool} {S : Sto} (h : tst m = some (k, S)) : ∃ d, m = some (d, S) ∧ truth S d = some k := by
  obtain ⟨d, S1, e, h⟩ := bnd_inv h
  cases q : truth S1 d with
  | none => rw [q] at h; cases h
  | some k' => rw [q] at h; cases h; exact ⟨d, e, q⟩
theorem LTe.tru {K : PySem.W.Frag} {f : Ev → Sto → Option (D × Sto)} {σ H Q} (h : LTe K f σ H Q) : LE K f σ H fun x H' => ∃ k, TruV K x H' k ∧ Q k H' := by
  obtain ⟨ρ, env, S, k, S', hs, he, hf, hq⟩ := h
  obtain ⟨d, e, q⟩ := tst_inv hf
  exact LE.mk hs he e fun H1 ρ1 v m p s1 _ r => ⟨k, tru_of s1 r q, hq H1 ρ1 m p s1⟩
theorem LTe.bl {K : PySem.W.Frag} {f : Ev → Sto → Option (D × Sto)} {σ H Q} (hb : ∀ env S d S', f env S = some (d, S') → ∃ k, d = .bl k) (h : LTe K f σ H Q) : LE K f σ H fun x H' => ∃ k, x = .bl k ∧ Q k H' := by
  obtain ⟨ρ, env, S, k, S', hs, he, hf, hq⟩ := h
  obtain ⟨d, e, q⟩ := tst_inv hf
  obtain ⟨k', rfl⟩ := hb _ _ _ _ e
  cases q
  exact LE.mk hs he e fun H1 ρ1 v m p s1 _ r => ⟨k, r, hq H1 ρ1 m p s1⟩
theorem pt_of {f : Ev → Sto → Option (D × Sto)} (h : PE X e (LE X.K f)) (he : ∀ whole, isTrue e X.env whole = (do let v ← whole; standAt e.pos; holding [v] (truthy v))) : PT X e (LTe X.K f) :=
  (pt_truth h he).weakC fun _ _ _ q => q.tru

/-- what the text's names stand for -/
structure Mo (P : Program) (w : World) (K : PySem.W.Frag) (mg : Str → Option Value) (base : Heap) (c : Cfg) (k : Nat) (m : MC) : Prop where
  fn : ∀ f ∈ m.fs, (∃ (a : Addr) (fd : FuncData) (ps : List Str) (sp : List V → Hp → VK → Prop), mg (Str.ofString f) = some (.ref a) ∧ PySem.W.keepIn K (.ref a) = true ∧ Binds K fd ps [] ∧ FnG P w K mg base k a fd ps sp ∧
      ∀ vs H Q, LC K (c.C f) vs H Q → sp vs H Q) ∨ (f = "gcd" ∧ mg (Str.ofString f) = some (.builtin "math.gcd") ∧ c.C f = bGcd)
  gl : ∀ g ∈ m.gs, ∃ u v d, mg (Str.ofString g) = some u ∧ RelV v u ∧ c.G g = some d ∧ ∀ H ρ, Rp K H ρ d v
  bt : ∀ f ∈ bltAll, mg (Str.ofString f) = none
  gd : ∀ g ∈ m.ds, ∃ d es n tb, mg (Str.ofString g) = some (.ref d) ∧ KDict K w d es n ∧ c.G g = some tb ∧ ∀ z : Str, ∃ r, PySem.W.nsIn K d z = some r ∧ (tabAt tb z).isSome = r.isSome ∧ ∀ v, tabAt tb z = some v → ∃ u vv, r = some u ∧ RelV vv u ∧ ∀ H ρ, Rp K H ρ v vv
structure Good (m : MC) (c : Cfg) (k : Nat) (X : Cx) : Prop where
  N : X.N = m.N
  nd : m.N.Nodup
  calm : X.calm = true
  room : Room k X.A
  gd : X.A.guards = some []
  mo : Mo X.prog X.w X.K X.mg X.base c k m
theorem gl_of {x : Str} (h : isGl X.env.scope x = true) : Gl X x := isGl_ok h

theorem mE_star {m : MC} {sc : Scope} {x : Expr} {p : Pos} : ∀ e : E, mE m sc e (.Starred x p) = false
  | .tr e => by rw [mE]; exact mE_star e
  | .var _ | .cn _ | .glb _ | .bin .. | .neg _ | .cmp .. | .isN _ | .notN _ | .isB .. | .isi .. | .nt _ | .and .. | .or .. | .ife .. | .tup _ | .lst _ | .idx .. | .slc .. | .call .. | .blt .. | .mth .. | .lc .. | .lc2 .. | .dnew | .mth0 .. | .dict1 .. | .dc .. | .gget .. | .gin .. | .dzip .. | .trev _ | .lrng _ => by simp [mE]
theorem mE_slice {m : MC} {sc : Scope} {a b c : Option Expr} {p : Pos} : ∀ e : E, mE m sc e (.Slice a b c p) = false
  | .tr e => by rw [mE]; exact mE_slice e
  | .var _ | .cn _ | .glb _ | .bin .. | .neg _ | .cmp .. | .isN _ | .notN _ | .isB .. | .isi .. | .nt _ | .and .. | .or .. | .ife .. | .tup _ | .lst _ | .idx .. | .slc .. | .call .. | .blt .. | .mth .. | .lc .. | .lc2 .. | .dnew | .mth0 .. | .dict1 .. | .dc .. | .gget .. | .gin .. | .dzip .. | .trev _ | .lrng _ => by simp [mE]
theorem plainIx_of {m : MC} {sc : Scope} {e : E} {e' : Expr} (h : mE m sc e e' = true) : PlainIx e' := by
  intro o i
  cases e' with
  | Slice a b c p => rw [mE_slice] at h; cases h
  | _ => rfl
theorem star_of {m : MC} {sc : Scope} {e : E} {e' : Expr} {es : List Expr} {env : Env} (h : mE m sc e e' = true) : starEach (e' :: es) env = (false, eval e' env) :: starEach es env := by
  cases e' with
  | Starred x p => rw [mE_star] at h; cases h
  | _ => rfl
theorem stars_of {m : MC} {sc : Scope} {env : Env} : ∀ {es : List E} {es' : List Expr}, mEs m sc es es' = true → starEach es' env = es'.map (fun e => (false, eval e env))
  | [], [], _ => rfl
  | [], _ :: _, h => by simp [mEs] at h
  | _ :: _, [], h => by simp [mEs] at h
  | e :: es, e' :: es', h => by
    rw [mEs, Bool.and_eq_true] at h
    rw [star_of h.1, stars_of h.2]; rfl
theorem plain_of {es : List Expr} {env : Env} {pos : Pos} (h : starEach es env = es.map (fun e => (false, eval e env))) : (backTo pos (starEach es env)).any (·.1) = false := by
  rw [h]
  unfold backTo
  simp
end
end Cs

set_option Elab.async false
set_option linter.all false
set_option maxRecDepth 100000
namespace Cs
open PySem PySem.Spec PyProof.Rows L2
variable [Sct]

/-! ### targets -/
def LG (K : PySem.W.Frag) (t : Tg) : TG := fun v σ H Q => ∃ ρ env d env', EnvR K H ρ env σ ∧ Rp K H ρ d v ∧ asg t d env = some env' ∧
  ∀ σ', σ'.length = σ.length → EnvR K H ρ env' σ' → (∀ vs, (∀ i ∈ t.slots, i ∈ vs) → wipe σ' vs = wipe σ vs) → Q σ' H
theorem wipe_set {i : Nat} {x : Option V} : ∀ {vs : List Nat} {σ : L2.St}, i ∈ vs → wipe (σ.set i x) vs = wipe σ vs
  | [], _, h => by simp at h
  | v :: vs, σ, h => by
    unfold wipe
    by_cases z : i ∈ vs
    · rw [wipe_set z]
    · have e : i = v := by simpa [z] using h
      subst e
      have sw : ∀ {vs : List Nat} {σ : L2.St}, i ∉ vs → wipe (σ.set i x) vs = (wipe σ vs).set i x := by
        intro vs
        induction vs with
        | nil => intro σ _; rfl
        | cons u us ih =>
          intro σ hn
          simp only [List.mem_cons, not_or] at hn
          unfold wipe
          rw [ih hn.2, List.set_comm _ _ hn.1]
      rw [sw z, List.set_set]
theorem wipe_wipe {vs us : List Nat} {σ : L2.St} (h : ∀ i ∈ us, i ∈ vs) : wipe (wipe σ us) vs = wipe σ vs := by
  induction us with
  | nil => rfl
  | cons u us ih =>
    show wipe ((wipe σ us).set u none) vs = _
    rw [wipe_set (h u (by simp)), ih fun i hi => h i (by simp [hi])]
section
variable {X : Cx}
theorem _root_.L2.PG.weakC {e : Expr} {t t' : TG} (h : PG X e t) (w : ∀ v σ H Q, t' v σ H Q → t v σ H Q) : PG X e t' := ⟨fun pins s σ H v u Q I r q => h.run pins s σ H v u Q I r (w _ _ _ _ q)⟩
/-- which names may be stored here: those that the raw scope knows -/
def FnC (X : Cx) (sc : Scope) : Prop := ∀ x, isLoc sc x = true → L2.Loc X.env.scope x ∧ (X.fn x = true ∨ X.env.scope.names.lookup x = some .local)
theorem mName_ok {N : List Str} {i : Nat} {x : Str} (h : mName N i x = true) : N[i]? = some x := of_decide_eq_true h
theorem pg_one {N : List Str} {sc : Scope} {i : Nat} {x : Str} {p : Pos} (hN : X.N = N) (nd : N.Nodup) (fc : FnC X sc) (h : (mName N i x && isLoc sc x) = true) : PG X (.Name x p) (gName i) := by
  rw [Bool.and_eq_true] at h
  obtain ⟨h1, h2⟩ := fc x h.2
  exact pg_name (by rw [hN]; exact nd) (by rw [hN]; exact mName_ok h.1) h1 h2
/-- stores one after another -/
def gEach : List Nat → TGs
  | [] => gNil
  | i :: is => gCons (gName i) (gEach is)
theorem pg_each {N : List Str} {sc : Scope} (hN : X.N = N) (nd : N.Nodup) (fc : FnC X sc) : ∀ {is : List Nat} {es : List Expr}, mTgs N sc is es = true → PGs X es (gEach is)
  | [], [], _ => pgs_nil
  | i :: is, .Name x p :: es, h => by
    rw [mTgs, Bool.and_eq_true] at h
    exact pgs_cons (pg_one hN nd fc h.1) (pg_each hN nd fc h.2)
theorem each_len {N : List Str} {sc : Scope} {env : Env} : ∀ {is : List Nat} {es : List Expr}, mTgs N sc is es = true → (assignEach es env).length = is.length ∧ (assignEach es env).findIdx? (·.1) = none
  | [], [], _ => ⟨rfl, rfl⟩
  | i :: is, .Name x p :: es, h => by
    rw [mTgs, Bool.and_eq_true] at h
    obtain ⟨h1, h2⟩ := each_len (env := env) h.2
    refine ⟨?_, ?_⟩
    · show (assignEach es env).length + 1 = is.length + 1
      rw [h1]
    · show List.findIdx? (·.1) ((false, assign (.Name x p) env) :: assignEach es env) = none
      rw [List.findIdx?_cons]
      simp [h2]
theorem gEach_ok {K : PySem.W.Frag} {H : Hp} {ρ : List Addr} {Q : L2.St → Hp → Prop} : ∀ {is : List Nat} {ds : List D} {vs : List V} {env : Ev} {σ : L2.St}, RpL K H ρ ds vs → is.length = ds.length → EnvR K H ρ env σ →
    (∀ σ', σ'.length = σ.length → EnvR K H ρ ((is.zip ds).foldl (fun e p => e.set p.1 (some p.2)) env) σ' → (∀ sl, (∀ i ∈ is, i ∈ sl) → wipe σ' sl = wipe σ sl) → Q σ' H) → gEach is vs σ H Q
  | [], [], vs, env, σ, r, _, he, h => by
    cases r
    exact ⟨rfl, h σ rfl he fun _ _ => rfl⟩
  | [], _ :: _, _, _, _, _, hl, _, _ => by simp at hl
  | _ :: _, [], _, _, _, _, hl, _, _ => by simp at hl
  | i :: is, d :: ds, vs, env, σ, r, hl, he, h => by
    obtain ⟨v, r', rfl, r1, r2⟩ := r
    refine ⟨v, r', rfl, ?_⟩
    refine gEach_ok (env := env.set i (some d)) r2 (by simpa using hl) (he.set r1) fun σ' l e' w => h σ' (by simpa using l) e' fun sl hs => ?_
    rw [w sl fun j hj => hs j (by simp [hj]), wipe_set (hs i (by simp))]
theorem pg_tg {N : List Str} {sc : Scope} {t : Tg} {e : Expr} (hN : X.N = N) (nd : N.Nodup) (hc : X.calm = true) (fc : FnC X sc) (h : mTg N sc t e = true) : PG X e (LG X.K t) := by
  cases t with
  | v i =>
    cases e with
    | Name x p =>
      refine (pg_one hN nd fc h).weakC fun v σ H Q q => ?_
      obtain ⟨ρ, env, d, env', he, r, ha, hq⟩ := q
      cases ha
      exact hq _ (by simp) (he.set r) fun vs h => wipe_set (h i (by simp [Tg.slots]))
    | _ => simp [mTg] at h
  | t is =>
    cases e with
    | Tuple es k p =>
      simp only [mTg, Bool.and_eq_true] at h
      obtain ⟨h1, h2⟩ := each_len (env := X.env) h.1
      refine (pg_tup hc (pg_each hN nd fc h.1) h1 h2).weakC fun v σ H Q q => ?_
      obtain ⟨ρ, env, d, env', he, r, ha, hq⟩ := q
      unfold asg at ha
      simp only at ha
      split at ha
      · rename_i ds
        obtain ⟨a, vs, rfl, sa, ra⟩ := r
        split at ha
        · rename_i hl
          cases ha
          exact ⟨a, vs, rfl, sa.1, by rw [← ra.length, hl], gEach_ok ra hl he hq⟩
        · cases ha
      · cases ha
    | _ => simp [mTg] at h
end

/-! ### what is walked -/
def JOk (K : PySem.W.Frag) (H' : Hp) (ρ' : List Addr) (iw : List D × Watch) (J : It) : Prop := ∀ i H2 ρ2 S2, Mono H' H2 → ρ' <+: ρ2 → Sr K H2 ρ2 S2 → still iw.2 S2 →
  (i = iw.1.length → J.stop i H2) ∧ (∀ d, iw.1[i]? = some d → J.go i H2 ∧ ∀ x H3, J.yld i H2 x H3 → Sr K H3 ρ2 S2 ∧ Mono H2 H3 ∧ Rp K H3 ρ2 d x)
def LI (K : PySem.W.Frag) (k : IK) (f : Ev → Sto → Option (List D × Sto)) : TI := fun σ H R => ∃ ρ env S xs S1 iw, Sr K H ρ S ∧ EnvR K H ρ env σ ∧ f env S = some (xs, S1) ∧ items k xs S1 = some iw ∧
  ∀ H' ρ' J, Mono H H' → ρ <+: ρ' → Sr K H' ρ' S1 → EnvR K H' ρ' env σ → JOk K H' ρ' iw J → R J H'
theorem rp_rng {K : PySem.W.Frag} {H : Hp} {ρ : List Addr} {lo : Int} {n i : Nat} {d : D} (h : (rngD lo n)[i]? = some d) : i < n ∧ d = .int (lo + (i : Nat)) := by
  unfold rngD at h
  rw [List.getElem?_map] at h
  cases e : (List.range n)[i]? with
  | none => rw [e] at h; cases h
  | some j =>
    rw [e] at h; cases h
    obtain ⟨hi, hj⟩ := List.getElem?_eq_some_iff.mp e
    simp at hi hj
    subst hj
    exact ⟨hi, rfl⟩
theorem rngD_len {lo : Int} {n : Nat} : (rngD lo n).length = n := by simp [rngD]
section
variable {X : Cx} {tg : Expr}
theorem _root_.L2.PI.weakC {e : Expr} {t t' : TI} (h : PI X tg e t) (w : ∀ σ H R, t' σ H R → t σ H R) : PI X tg e t' := ⟨fun pins s σ H R I q => h.run pins s σ H R I (w _ _ _ q)⟩
/-- a list or a tuple -/
def iAny (K : PySem.W.Frag) (tl : TE) : TI := fun σ H R => tl σ H fun x H1 => ∃ a, x = .ref a ∧ (((∃ xs, SqL K H1 a xs) ∧ R (Itl K a) H1) ∨ ((∃ xs, SqT K H1 a xs) ∧ R (Itt K a) H1))
theorem pi_any {l : Expr} {tl : TE} (hl : PE X l tl) : PI X tg l (iAny X.K tl) := by
  refine ⟨fun pins s σ H R I h => ?_⟩
  refine thn (hl.run pins s σ H _ I h) fun v s1 ⟨x, H1, I1, r1, q1⟩ => ?_
  obtain ⟨a, e, q1⟩ := q1
  subst e
  cases r1
  rcases q1 with ⟨⟨xs, hq⟩, q⟩ | ⟨⟨xs, hq⟩, q⟩
  · obtain ⟨its, rv, p, hz⟩ := I1.list hq
    refine wpAny_pyIter_list p.isList ?_
    refine ⟨s1.heap.objs.size, [s1.heap.objs.size], _, _, H1, rfl, I1.kept (t' := s1.toks) fun b o e => Heap.get?_push_of_some _ e, turn_list a _, ⟨_, Heap.get?_push_size _ rfl, rfl, rfl⟩, fun b hb => ?_, q⟩
    have e : b = s1.heap.objs.size := by simpa using hb
    subst e
    exact I1.fpOk (Nat.le_refl _) (I1.hok.fresh (Nat.le_refl _))
  · obtain ⟨its, rv, p, hz⟩ := I1.tuple hq
    refine wpAny_pyIter_tuple (show s1.heap.IsTuple a its.toArray from p) ?_
    refine ⟨s1.heap.objs.size, [s1.heap.objs.size], _, _, H1, rfl, I1.kept (t' := s1.toks) fun b o e => Heap.get?_push_of_some _ e, turn_tuple a _, ⟨_, Heap.get?_push_size _ rfl, rfl, rfl⟩, fun b hb => ?_, q⟩
    have e : b = s1.heap.objs.size := by simpa using hb
    subst e
    exact I1.fpOk (Nat.le_refl _) (I1.hok.fresh (Nat.le_refl _))
theorem jok_tup {K : PySem.W.Frag} {H' : Hp} {ρ' : List Addr} {a : Addr} {ds : List D} {vs : List V} (sa : SqT K H' a vs) (ra : RpL K H' ρ' ds vs) : JOk K H' ρ' (ds, []) (Itt K a) := by
  intro i H2 ρ2 S2 m p s _
  refine ⟨fun e => ⟨vs, m.sqT sa, ?_⟩, fun d hd => ?_⟩
  · show vs.length ≤ i
    rw [e, ← ra.length]; exact Nat.le_refl _
  · obtain ⟨v, ev, rv⟩ := ra.get hd
    refine ⟨⟨vs, v, m.sqT sa, ev⟩, fun x H3 y => ?_⟩
    obtain ⟨rfl, y⟩ := y
    have := y vs (m.sqT sa)
    rw [ev] at this; cases this
    exact ⟨s, Mono.refl, rv.mono m p _ _⟩
theorem enumD_get : ∀ {ds : List D} {lo i : Nat} {d : D}, (enumD lo ds)[i]? = some d → ∃ y, ds[i]? = some y ∧ d = .tup [.int ((lo + i : Nat) : Int), y]
  | [], _, _, _, h => by simp [enumD] at h
  | x :: xs, lo, 0, d, h => by
    simp only [enumD, List.getElem?_cons_zero, Option.some.injEq] at h
    exact ⟨x, rfl, h.symm⟩
  | x :: xs, lo, i + 1, d, h => by
    simp only [enumD, List.getElem?_cons_succ] at h
    obtain ⟨y, e, rfl⟩ := enumD_get h
    exact ⟨y, e, by rw [show lo + 1 + i = lo + (i + 1) by omega]⟩
theorem enumD_len : ∀ {ds : List D} {lo : Nat}, (enumD lo ds).length = ds.length
  | [], _ => rfl
  | x :: xs, lo => by simp [enumD, enumD_len (ds := xs)]
theorem sr_tupO {K : PySem.W.Frag} {H : Hp} {ρ : List Addr} {S : Sto} {ds : List D} {vs : List V} {T : Addr} {o : Obj} (s : Sr K H ρ S) (h : H T = none) (hd : o.dict = none) (r : RpL K H ρ ds vs) :
    Sr K (upd H T (tupO (decide (Sct.md = .pln)) o vs)) ρ S ∧ Mono H (upd H T (tupO (decide (Sct.md = .pln)) o vs)) ∧ Rp K (upd H T (tupO (decide (Sct.md = .pln)) o vs)) ρ (.tup ds) (.ref T) := by
  refine ⟨s.newT h, Mono.new h, T, vs, rfl, ?_, RpL.mono (Mono.new h) (List.prefix_refl _) ds vs r⟩
  by_cases e : Sct.md = .pln
  · rw [decide_eq_true e]; exact SqX.newP e hd
  · rw [decide_eq_false e]; exact SqX.new e
theorem jok_enum {K : PySem.W.Frag} {H' : Hp} {ρ' : List Addr} {a : Addr} {ds : List D} {vs : List V} (sa : SqT K H' a vs) (ra : RpL K H' ρ' ds vs) : JOk K H' ρ' (enumD 0 ds, []) (IteT K (decide (Sct.md = .pln)) a) := by
  intro i H2 ρ2 S2 m p s _
  refine ⟨fun e => ⟨vs, m.sqT sa, ?_⟩, fun d hd => ?_⟩
  · have e : i = (enumD 0 ds).length := e
    rw [e, enumD_len, ← ra.length]; exact Nat.le_refl _
  · obtain ⟨y, ey, rfl⟩ := enumD_get hd
    obtain ⟨v, ev, rv⟩ := ra.get ey
    refine ⟨⟨vs, v, m.sqT sa, ev⟩, fun x H3 z => ?_⟩
    obtain ⟨T, w, o, rfl, hT, ho, rfl, hw⟩ := z
    have := hw vs (m.sqT sa)
    rw [ev] at this; cases this
    obtain ⟨q1, q2, q3⟩ := sr_tupO (ds := [.int ((0 + i : Nat) : Int), y]) s hT ho ⟨_, _, rfl, (by rw [Nat.zero_add]; rfl), RpL.one (rv.mono m p _ _)⟩
    exact ⟨q1, q2, q3⟩
theorem jok_lst {K : PySem.W.Frag} {H' : Hp} {ρ' : List Addr} {n : Nat} {a : Addr} {ds : List D} (ea : ρ'[n]? = some a) : JOk K H' ρ' (ds, [(n, ds)]) (Itl K a) := by
  intro i H2 ρ2 S2 m p s st
  have g : getL S2 n = some ds := st (n, ds) (by simp)
  obtain ⟨b, vs, eb, eb2, sb, rb⟩ := s.list g ⟨a, rfl, pre_get p ea⟩
  cases eb
  refine ⟨fun e => ⟨vs, sb, ?_⟩, fun d hd => ?_⟩
  · show vs.length ≤ i
    rw [e, ← rb.length]; exact Nat.le_refl _
  · obtain ⟨v, ev, rv⟩ := rb.get hd
    refine ⟨⟨vs, v, sb, ev⟩, fun x H3 y => ?_⟩
    obtain ⟨rfl, y⟩ := y
    have := y vs sb
    rw [ev] at this; cases this
    exact ⟨s, Mono.refl, rv⟩
theorem jok_rng {K : PySem.W.Frag} {H' : Hp} {ρ' : List Addr} {lo : Int} {n : Nat} : JOk K H' ρ' (rngD lo n, []) (Itr lo n) := by
  intro i H2 ρ2 S2 m p s st
  refine ⟨fun e => ?_, fun d hd => ?_⟩
  · show n ≤ i
    rw [e, rngD_len]; exact Nat.le_refl _
  · obtain ⟨hi, rfl⟩ := rp_rng (K := K) (H := H2) (ρ := ρ2) hd
    refine ⟨hi, fun x H3 y => ?_⟩
    obtain ⟨rfl, rfl⟩ := y
    exact ⟨s, Mono.refl, rfl⟩
theorem jok_rev {K : PySem.W.Frag} {H' : Hp} {ρ' : List Addr} {n : Nat} {a : Addr} {ds : List D} (ea : ρ'[n]? = some a) : JOk K H' ρ' (ds.reverse, [(n, ds)]) (Itv K a ds.length) := by
  intro i H2 ρ2 S2 m p s st
  have g : getL S2 n = some ds := st (n, ds) (by simp)
  obtain ⟨b, vs, eb, eb2, sb, rb⟩ := s.list g ⟨a, rfl, pre_get p ea⟩
  cases eb
  refine ⟨fun e => ?_, fun d hd => ?_⟩
  · show ds.length ≤ i
    rw [e, List.length_reverse]; exact Nat.le_refl _
  · have hi : i < ds.length := by
      have := (List.getElem?_eq_some_iff.mp hd).1
      simpa using this
    have hd' : ds[ds.length - 1 - i]? = some d := by rw [← List.getElem?_reverse hi]; exact hd
    obtain ⟨v, ev, rv⟩ := rb.get hd'
    refine ⟨⟨hi, vs, v, sb, ev⟩, fun x H3 y => ?_⟩
    obtain ⟨rfl, y⟩ := y
    have := y vs sb
    rw [ev] at this; cases this
    exact ⟨s, Mono.refl, rv⟩

theorem pi_seq {it : Expr} {f : Ev → Sto → Option (List D × Sto)} {g : Ev → Sto → Option (D × Sto)} (hg : PE X it (LE X.K g)) (e : ∀ env S, f env S = bnd (g env S) fun x S1 => some ([x], S1)) : PI X tg it (LI X.K .seq f) := by
  refine (pi_any hg).weakC fun σ H R q => ?_
  obtain ⟨ρ, env, S, xs, S1, iw, hs, he, hf, hi, hq⟩ := q
  rw [e] at hf
  obtain ⟨x, S2, e, hf⟩ := bnd_inv hf
  cases hf
  refine LE.mk hs he e fun H1 ρ1 v mm p s1 he1 r => ?_
  cases x with
  | tup ds =>
    cases hi
    obtain ⟨a, vs, rfl, sa, ra⟩ := r
    exact ⟨a, rfl, .inr ⟨⟨vs, sa.1⟩, hq H1 ρ1 _ mm p s1 he1 (jok_tup sa.1 ra)⟩⟩
  | loc n =>
    have hi : (getL S1 n).map (fun ds => ((ds, [(n, ds)]) : List D × Watch)) = some iw := hi
    cases eg : getL S1 n with
    | none => rw [eg] at hi; cases hi
    | some ds =>
      rw [eg] at hi; cases hi
      obtain ⟨a, vs, rfl, ea, sa, ra⟩ := s1.list eg r
      exact ⟨a, rfl, .inl ⟨⟨vs, sa⟩, hq H1 ρ1 _ mm p s1 he1 (jok_lst ea)⟩⟩
  | _ => cases hi
theorem pi_rng1 {a : Expr} {p pos : Pos} {f : Ev → Sto → Option (List D × Sto)} (hg : Gl X "range") (hm : X.mg "range" = none) (ha : PA X [a] (LA X.K f)) (hst : starEach [a] X.env = [(false, eval a X.env)]) (hlen : ∀ env S xs S', f env S = some (xs, S') → xs.length = 1) :
    PI X tg (.Call (.Name "range" p) [a] [] pos) (LI X.K .rng f) := by
  refine (pi_range1 hg hm ha hst).weakC fun σ H R q => ?_
  obtain ⟨ρ, env, S, xs, S1, iw, hs, he, hf, hi, hq⟩ := q
  have hl := hlen _ _ _ _ hf
  match xs, hl with
  | [x], _ =>
    refine LA.mk hs he hf fun H1 ρ1 vs mm p s1 he1 r => ?_
    obtain ⟨v, r2, rfl, r1, rfl⟩ := r
    cases x with
    | int j =>
      cases r1
      have hi : (if smallI j then some ((rngD 0 j.toNat, []) : List D × Watch) else none) = some iw := hi
      split at hi
      · rename_i sm; cases hi
        exact ⟨_, rfl, sm.1, sm.2, hq H1 ρ1 _ mm p s1 he1 jok_rng⟩
      · cases hi
    | _ => cases hi
theorem pi_rng2 {a b : Expr} {p pos : Pos} {f : Ev → Sto → Option (List D × Sto)} (hg : Gl X "range") (hm : X.mg "range" = none) (ha : PA X [a, b] (LA X.K f)) (hst : starEach [a, b] X.env = [(false, eval a X.env), (false, eval b X.env)])
    (hst2 : starEach [b] X.env = [(false, eval b X.env)]) (hlen : ∀ env S xs S', f env S = some (xs, S') → xs.length = 2) :
    PI X tg (.Call (.Name "range" p) [a, b] [] pos) (LI X.K .rng f) := by
  refine (pi_range2 hg hm ha hst hst2).weakC fun σ H R q => ?_
  obtain ⟨ρ, env, S, xs, S1, iw, hs, he, hf, hi, hq⟩ := q
  have hl := hlen _ _ _ _ hf
  match xs, hl with
  | [x, y], _ =>
    refine LA.mk hs he hf fun H1 ρ1 vs mm p s1 he1 r => ?_
    obtain ⟨v, r2, rfl, r1, w, r3, rfl, r4, rfl⟩ := r
    cases x with
    | int i =>
      cases y with
      | int j =>
        cases r1; cases r4
        have hi : (if smallI i ∧ smallI j then some ((rngD i (j - i).toNat, []) : List D × Watch) else none) = some iw := hi
        split at hi
        · rename_i sm; cases hi
          exact ⟨_, _, rfl, ⟨sm.1.1, sm.1.2, sm.2.1, sm.2.2⟩, hq H1 ρ1 _ mm p s1 he1 jok_rng⟩
        · cases hi
      | _ => cases hi
    | _ => cases hi
theorem pi_rev {a : Expr} {p pos : Pos} {f : Ev → Sto → Option (List D × Sto)} (hg : Gl X "reversed") (hm : X.mg "reversed" = none) (ha : PA X [a] (LA X.K f)) (hst : starEach [a] X.env = [(false, eval a X.env)]) (hlen : ∀ env S xs S', f env S = some (xs, S') → xs.length = 1) :
    PI X tg (.Call (.Name "reversed" p) [a] [] pos) (LI X.K .rev f) := by
  refine (pi_reversed hg hm ha hst).weakC fun σ H R q => ?_
  obtain ⟨ρ, env, S, xs, S1, iw, hs, he, hf, hi, hq⟩ := q
  have hl := hlen _ _ _ _ hf
  match xs, hl with
  | [x], _ =>
    refine LA.mk hs he hf fun H1 ρ1 vs mm p s1 he1 r => ?_
    obtain ⟨v, r2, rfl, r1, rfl⟩ := r
    cases x with
    | loc n =>
      have hi : (getL S1 n).map (fun ds => ((ds.reverse, [(n, ds)]) : List D × Watch)) = some iw := hi
      cases eg : getL S1 n with
      | none => rw [eg] at hi; cases hi
      | some ds =>
        rw [eg] at hi; cases hi
        obtain ⟨a, vs, rfl, ea, sa, ra⟩ := s1.list eg r1
        exact ⟨a, vs, rfl, sa, by rw [← ra.length]; exact hq H1 ρ1 _ mm p s1 he1 (jok_rev ea)⟩
    | _ => cases hi
theorem isTupE_ok {e : Expr} (h : isTupE e = true) : ∃ es n p, e = .Tuple es n p := by
  cases e <;> first | exact ⟨_, _, _, rfl⟩ | cases h
theorem pi_enum' {a : Expr} {p pos : Pos} {f : Ev → Sto → Option (List D × Sto)} (ht : isTupE tg = true) (hg : Gl X "enumerate") (hm : X.mg "enumerate" = none) (ha : PA X [a] (LA X.K f)) (hst : starEach [a] X.env = [(false, eval a X.env)]) (hlen : ∀ env S xs S', f env S = some (xs, S') → xs.length = 1) :
    PI X tg (.Call (.Name "enumerate" p) [a] [] pos) (LI X.K .enum f) := by
  obtain ⟨es, n, tp, rfl⟩ := isTupE_ok ht
  refine (pi_enumT (decide (Sct.md = .pln)) hg hm ha hst).weakC fun σ H R q => ?_
  obtain ⟨ρ, env, S, xs, S1, iw, hs, he, hf, hi, hq⟩ := q
  have hl := hlen _ _ _ _ hf
  match xs, hl with
  | [x], _ =>
    refine LA.mk hs he hf fun H1 ρ1 vs mm p s1 he1 r => ?_
    obtain ⟨v, r2, rfl, r1, rfl⟩ := r
    cases x with
    | tup ds =>
      cases hi
      obtain ⟨a, vs, rfl, sa, ra⟩ := r1
      exact ⟨a, vs, rfl, sa.1, hq H1 ρ1 _ mm p s1 he1 (jok_enum sa.1 ra)⟩
    | _ => cases hi
theorem stars1 {a : Expr} {env : Env} (h : starEach [a] env = [a].map fun e => (false, eval e env)) : starEach [a] env = [(false, eval a env)] := h
/-- by the arguments' readings -/
theorem pi_of {m : MC} {c : Cfg} {kk : Nat} {k : IK} {it : Expr} {es' : List Expr} {f : Ev → Sto → Option (List D × Sto)} (G : Good m c kk X) (hx : itX tg X.env.scope k it = some es') (ha : PA X es' (LA X.K f)) (h1 : ∀ e', es' = [e'] → ∃ g, PE X e' (LE X.K g) ∧ ∀ env S, f env S = bnd (g env S) fun x S1 => some ([x], S1))
    (hst : starEach es' X.env = es'.map (fun e => (false, eval e X.env))) (hst2 : ∀ a b, es' = [a, b] → starEach [b] X.env = [(false, eval b X.env)]) (hlen : ∀ env S xs S', f env S = some (xs, S') → xs.length = es'.length) : PI X tg it (LI X.K k f) := by
  cases k with
  | seq =>
    obtain rfl := (Option.some.inj hx)
    obtain ⟨g, hg, e⟩ := h1 it rfl
    exact pi_seq hg e
  | rng =>
    unfold itX at hx
    split at hx
    · cases ‹IK.rng = IK.enum›
    · cases ‹IK.rng = IK.seq›
    · rename_i x p es pos _
      split at hx
      · rename_i hc
        obtain rfl := (Option.some.inj hx)
        simp only [Bool.and_eq_true, decide_eq_true_eq, Bool.or_eq_true, beq_iff_eq] at hc
        obtain ⟨⟨rfl, hg⟩, hl⟩ := hc
        have hgl : Gl X (Str.ofString "range") := gl_of hg
        have hm : X.mg (Str.ofString "range") = none := G.mo.bt "range" (by decide)
        rcases hl with hl | hl
        · match es, hl with
          | [a], _ => exact pi_rng1 hgl hm ha hst hlen
        · match es, hl with
          | [a, b], _ => exact pi_rng2 hgl hm ha hst (hst2 a b rfl) hlen
      · cases hx
    · cases ‹IK.rng = IK.rev›
    · cases hx
  | rev =>
    unfold itX at hx
    split at hx
    · cases ‹IK.rev = IK.enum›
    · cases ‹IK.rev = IK.seq›
    · cases ‹IK.rev = IK.rng›
    · rename_i x p e pos _
      split at hx
      · rename_i hc
        obtain rfl := (Option.some.inj hx)
        simp only [Bool.and_eq_true, decide_eq_true_eq] at hc
        obtain ⟨rfl, hg⟩ := hc
        have hgl : Gl X (Str.ofString "reversed") := gl_of hg
        have hm : X.mg (Str.ofString "reversed") = none := G.mo.bt "reversed" (by decide)
        exact pi_rev hgl hm ha hst hlen
      · cases hx
    · cases hx
  | enum =>
    unfold itX at hx
    split at hx
    · rename_i x p e pos _
      split at hx
      · rename_i hc
        obtain rfl := (Option.some.inj hx)
        simp only [Bool.and_eq_true, decide_eq_true_eq] at hc
        obtain ⟨⟨rfl, hg⟩, hl⟩ := hc
        have hgl : Gl X (Str.ofString "enumerate") := gl_of hg
        have hm : X.mg (Str.ofString "enumerate") = none := G.mo.bt "enumerate" (by decide)
        exact pi_enum' hl hgl hm ha hst hlen
      · cases hx
    · cases ‹IK.enum = IK.seq›
    · cases ‹IK.enum = IK.rng›
    · cases ‹IK.enum = IK.rev›
    · cases hx
  | zip => cases hx
end
end Cs

set_option Elab.async false
set_option linter.all false
set_option maxRecDepth 100000
namespace Cs
open PySem PySem.Spec PyProof.Rows L2
variable [Sct]

section
variable {X : Cx} {m : MC} {c : Cfg} {kk : Nat}
/-- both readings -/
def Both (X : Cx) (e' : Expr) (f : Ev → Sto → Option (D × Sto)) : Prop := PE X e' (LE X.K f) ∧ PT X e' (LTe X.K f)

theorem b_var {i : Nat} {x : Str} {p : Pos} (G : Good m c kk X) (h : mE m X.env.scope (.var i) (.Name x p) = true) : Both X (.Name x p) (evE c (.var i)) := by
  rw [mE, Bool.and_eq_true, Bool.and_eq_true] at h
  obtain ⟨⟨h1, h2⟩, h3⟩ := h
  have pe : PE X (.Name x p) (LE X.K (evE c (.var i))) := by
    refine (pe_var (i := i) (by rw [G.N]; exact mName_ok h1) (isVis_ok h2) (nd_ok h3).1 (nd_ok h3).2).weakC fun σ H Q q => ?_
    obtain ⟨ρ, env, S, d, S', hs, he, hf, hq⟩ := q
    simp only [evE, evVar] at hf
    split at hf
    · rename_i d' e
      cases hf
      obtain ⟨v, ev, r⟩ := he.at_ i d e
      exact ⟨v, ev, hq.same hs r⟩
    · cases hf
  exact ⟨pe, pt_of pe fun _ => rfl⟩
theorem b_cn {k : Cn} {x : Const} {n : Nat} {p : Pos} (h : cnOk k x = true) : Both X (.Constant x n p) (evE c (.cn k)) := by
  have fin : ∀ {v : V}, (∀ (K : PySem.W.Frag) (H : Hp) (ρ : List Addr), Rp K H ρ k.d v) → PE X (.Constant x n p) (tC v) → Both X (.Constant x n p) (evE c (.cn k)) := by
    intro v r h
    have pe : PE X (.Constant x n p) (LE X.K (evE c (.cn k))) := h.weakC fun σ H Q q => by
      obtain ⟨ρ, env, S, d, S', hs, he, hf, hq⟩ := q
      rw [evE] at hf
      cases hf
      exact hq.same hs (r _ _ _)
    exact ⟨pe, pt_of pe fun _ => rfl⟩
  unfold cnOk at h
  split at h
  · exact fin (fun _ _ _ => rfl) pe_non
  · have e := of_decide_eq_true (by simpa using h : decide _ = true)
    subst e
    exact fin (fun _ _ _ => rfl) pe_bl
  · have e := eq_of_beq h
    subst e
    exact fin (fun _ _ _ => rfl) pe_int
  · have e := of_decide_eq_true h
    subst e
    exact fin (fun _ _ _ => rfl) pe_str
  · cases h
theorem b_glb {g : String} {x : Str} {p : Pos} (G : Good m c kk X) (h : mE m X.env.scope (.glb g) (.Name x p) = true) : Both X (.Name x p) (evE c (.glb g)) := by
  simp only [mE, Bool.and_eq_true, decide_eq_true_eq] at h
  obtain ⟨⟨⟨rfl, h2⟩, h3⟩, h4⟩ := h
  obtain ⟨u, v, d, e1, r1, e2, r2⟩ := G.mo.gl g (by simpa using h2)
  have pe : PE X (.Name (Str.ofString g) p) (LE X.K (evE c (.glb g))) := (pe_glob (gl_of h3) e1 r1 (nd_ok h4).1).weakC fun σ H Q q => by
    obtain ⟨ρ, env, S, d', S', hs, he, hf, hq⟩ := q
    rw [evE, e2] at hf
    cases hf
    exact hq.same hs (r2 _ _)
  exact ⟨pe, pt_of pe fun _ => rfl⟩
theorem b_bin {op : Bop} {o : Operator} {a b : E} {a' b' : Expr} {p : Pos} (ho : bopOk op o = true) (ha : PE X a' (LE X.K (evE c a))) (hb : PE X b' (LE X.K (evE c b))) : Both X (.BinOp a' o b' p) (evE c (.bin op a b)) := by
  have ho' : o = bop_of op := by
    cases op <;> cases o <;> first | rfl | cases ho
  subst ho'
  have pe : PE X (.BinOp a' (bop_of op) b' p) (LE X.K (evE c (.bin op a b))) := (pe_op (op_bop op) ha hb).weakC fun σ H Q q => by
    obtain ⟨ρ, env, S, d, S', hs, he, hf, hq⟩ := q
    rw [evE] at hf
    obtain ⟨x, S1, e1, hf⟩ := bnd_inv hf
    obtain ⟨y, S2, e2, hf⟩ := bnd_inv hf
    exact LE.mk hs he e1 fun H1 ρ1 v mm p s1 he1 r1 => LE.mk s1 he1 e2 fun H2 ρ2 w m2 p2 s2 he2 r2 => ⟨ρ2, S2, x, y, d, S', s2, r1.mono m2 p2 _ _, r2, hf, (hq.mono mm p).mono m2 p2⟩
  exact ⟨pe, pt_of pe fun _ => rfl⟩
theorem b_neg {a : E} {a' : Expr} {p : Pos} (ha : PE X a' (LE X.K (evE c a))) : Both X (.UnaryOp .USub a' p) (evE c (.neg a)) := by
  have pe : PE X (.UnaryOp .USub a' p) (LE X.K (evE c (.neg a))) := (pe_un un_neg ha).weakC fun σ H Q q => by
    obtain ⟨ρ, env, S, d, S', hs, he, hf, hq⟩ := q
    rw [evE] at hf
    obtain ⟨x, S1, e1, hf⟩ := bnd_inv hf
    refine LE.mk hs he e1 fun H1 ρ1 v mm p s1 he1 r1 => ?_
    cases x with
    | int i =>
      cases hf
      cases r1
      exact ⟨i, rfl, (hq.mono mm p).same s1 rfl⟩
    | _ => cases hf
  exact ⟨pe, pt_of pe fun _ => rfl⟩
theorem copL_bl {op : Cop} {x y d : D} {S S' : Sto} (h : copL op x y S = some (d, S')) : ∃ k, d = .bl k := by
  cases op with
  | eq => simp only [copL] at h; cases e : copEq x y S <;> rw [e] at h <;> cases h; exact ⟨_, rfl⟩
  | ne => simp only [copL] at h; cases e : copEq x y S <;> rw [e] at h <;> cases h; exact ⟨_, rfl⟩
  | _ => simp only [copL] at h; (repeat' split at h) <;> first | cases h; exact ⟨_, rfl⟩ | cases h
theorem cop_bl {op : Cop} {x y d : D} {S S' : Sto} (h : cop op x y S = some (d, S')) : ∃ k, d = .bl k := by
  unfold cop at h
  split at h
  · cases h; exact ⟨_, rfl⟩
  · cases h; exact ⟨_, rfl⟩
  · exact copL_bl h
theorem b_cmp {op : Cop} {o : CmpOp} {a b : E} {a' b' : Expr} {p : Pos} (G : Good m c kk X) (ho : copOk op o = true) (hm : behindInMarks o b' = false) (ha : PE X a' (LE X.K (evE c a))) (hb : PE X b' (LE X.K (evE c b))) : Both X (.Compare a' [o] [b'] p) (evE c (.cmp op a b)) := by
  have ho' : o = cop_of op := by cases op <;> cases o <;> first | rfl | cases ho
  subst ho'
  have hu : X.A.units + 65 < cLine := by have := G.room.un; omega
  have w : ∀ σ H Q, LE X.K (evE c (.cmp op a b)) σ H Q → tOp (LB X.K (cop op)) (LE X.K (evE c a)) (LE X.K (evE c b)) σ H Q := fun σ H Q q => by
    obtain ⟨ρ, env, S, d, S', hs, he, hf, hq⟩ := q
    rw [evE] at hf
    obtain ⟨x, S1, e1, hf⟩ := bnd_inv hf
    obtain ⟨y, S2, e2, hf⟩ := bnd_inv hf
    exact LE.mk hs he e1 fun H1 ρ1 v mm p s1 he1 r1 => LE.mk s1 he1 e2 fun H2 ρ2 w m2 p2 s2 he2 r2 => ⟨ρ2, S2, x, y, d, S', s2, r1.mono m2 p2 _ _, r2, hf, (hq.mono mm p).mono m2 p2⟩
  refine ⟨(pe_cmpR (op_cop hu op) ha hb hm).weakC w, (pt_cmpR (op_cop hu op) ha hb hm).weakC fun σ H Q q => w _ _ _ (q.bl ?_)⟩
  intro env S d S' hf
  rw [evE] at hf
  obtain ⟨x, S1, e1, hf⟩ := bnd_inv hf
  obtain ⟨y, S2, e2, hf⟩ := bnd_inv hf
  exact cop_bl hf
theorem isN_rp {K : PySem.W.Frag} {H : Hp} {ρ : List Addr} {d : D} {v : V} (r : Rp K H ρ d v) : decide (v = .non) = isN d := by
  cases d with
  | tup ds => obtain ⟨a, vs, rfl, _⟩ := r; rfl
  | loc n => obtain ⟨a, rfl, _⟩ := r; rfl
  | _ => cases r; rfl
theorem b_isN {a : E} {a' : Expr} {n : Nat} {p p2 : Pos} (ha : PE X a' (LE X.K (evE c a))) : Both X (.Compare a' [.Is] [.Constant .none n p] p2) (evE c (.isN a)) := by
  have w : ∀ σ H Q, LE X.K (evE c (.isN a)) σ H Q → tOp (fun x y H Q => y = .non ∧ Q (.bl (decide (x = .non))) H) (LE X.K (evE c a)) (tC .non) σ H Q := fun σ H Q q => by
    obtain ⟨ρ, env, S, d, S', hs, he, hf, hq⟩ := q
    rw [evE] at hf
    obtain ⟨x, S1, e1, hf⟩ := bnd_inv hf
    cases hf
    exact LE.mk hs he e1 fun H1 ρ1 v mm p s1 he1 r1 => ⟨rfl, by rw [isN_rp r1]; exact (hq.mono mm p).same s1 rfl⟩
  refine ⟨(pe_cmpR op_isN ha pe_non (nomark _)).weakC w, (pt_cmpR op_isN ha pe_non (nomark _)).weakC fun σ H Q q => w _ _ _ (q.bl ?_)⟩
  intro env S d S' hf
  rw [evE] at hf
  obtain ⟨x, S1, e1, hf⟩ := bnd_inv hf
  cases hf
  exact ⟨_, rfl⟩
theorem b_notN {a : E} {a' : Expr} {n : Nat} {p p2 : Pos} (ha : PE X a' (LE X.K (evE c a))) : Both X (.Compare a' [.IsNot] [.Constant .none n p] p2) (evE c (.notN a)) := by
  have w : ∀ σ H Q, LE X.K (evE c (.notN a)) σ H Q → tOp (fun x y H Q => y = .non ∧ Q (.bl (!decide (x = .non))) H) (LE X.K (evE c a)) (tC .non) σ H Q := fun σ H Q q => by
    obtain ⟨ρ, env, S, d, S', hs, he, hf, hq⟩ := q
    rw [evE] at hf
    obtain ⟨x, S1, e1, hf⟩ := bnd_inv hf
    cases hf
    exact LE.mk hs he e1 fun H1 ρ1 v mm p s1 he1 r1 => ⟨rfl, by rw [isN_rp r1]; exact (hq.mono mm p).same s1 rfl⟩
  refine ⟨(pe_cmpR op_notN ha pe_non (nomark _)).weakC w, (pt_cmpR op_notN ha pe_non (nomark _)).weakC fun σ H Q q => w _ _ _ (q.bl ?_)⟩
  intro env S d S' hf
  rw [evE] at hf
  obtain ⟨x, S1, e1, hf⟩ := bnd_inv hf
  cases hf
  exact ⟨_, rfl⟩
theorem b_isB {a : E} {b : Bool} {a' : Expr} {n : Nat} {p p2 : Pos} (ha : PE X a' (LE X.K (evE c a))) : Both X (.Compare a' [.Is] [.Constant (.bool b) n p] p2) (evE c (.isB a b)) := by
  have w : ∀ σ H Q, LE X.K (evE c (.isB a b)) σ H Q → tOp rIsB (LE X.K (evE c a)) (tC (.bl b)) σ H Q := fun σ H Q q => by
    obtain ⟨ρ, env, S, d, S', hs, he, hf, hq⟩ := q
    rw [evE] at hf
    obtain ⟨x, S1, e1, hf⟩ := bnd_inv hf
    refine LE.mk hs he e1 fun H1 ρ1 v mm p s1 he1 r1 => ?_
    cases x with
    | bl k =>
      cases hf
      cases r1
      exact ⟨k, b, rfl, rfl, (hq.mono mm p).same s1 rfl⟩
    | _ => cases hf
  refine ⟨(pe_cmpR op_isBl ha pe_bl (nomark _)).weakC w, (pt_cmpR op_isBl ha pe_bl (nomark _)).weakC fun σ H Q q => w _ _ _ (q.bl ?_)⟩
  intro env S d S' hf
  rw [evE] at hf
  obtain ⟨x, S1, e1, hf⟩ := bnd_inv hf
  cases x with
  | bl k => cases hf; exact ⟨_, rfl⟩
  | _ => cases hf
theorem boot_isi : ∀ T ∈ isiTys, bootBuiltins (Str.ofString T) = some (.type T) ∧ Str.ofString T ≠ "__name__" := by decide +kernel
theorem b_isi {a : E} {T : String} {a' : Expr} {p p2 p3 : Pos} (G : Good m c kk X) (hT : T ∈ isiTys) (g1 : isGl X.env.scope (Str.ofString "isinstance") = true) (g2 : isGl X.env.scope (Str.ofString T) = true) (n2 : nd (Str.ofString T) = true) (ha : PE X a' (LE X.K (evE c a)))
    (hst : starEach [a', .Name (Str.ofString T) p2] X.env = (false, eval a' X.env) :: starEach [.Name (Str.ofString T) p2] X.env) : Both X (.Call (.Name (Str.ofString "isinstance") p) [a', .Name (Str.ofString T) p2] [] p3) (evE c (.isi a T)) := by
  have hm : X.mg (Str.ofString "isinstance") = none := G.mo.bt "isinstance" (by decide)
  have hm2 : X.mg (Str.ofString T) = none := G.mo.bt T (List.mem_append_right _ hT)
  obtain ⟨b1, b2⟩ := boot_isi T hT
  have pc : PE X (.Name (Str.ofString T) p2) (tC (.ty T)) := pe_bltn (gl_of g2) hm2 b1 rfl b2 (nd_ok n2).1
  have pe : PE X (.Call (.Name (Str.ofString "isinstance") p) [a', .Name (Str.ofString T) p2] [] p3) (LE X.K (evE c (.isi a T))) := (pe_callB call_isi (gl_of g1) hm (by decide +kernel) (pa_cons ha (pa_cons pc pa_nil) hst) (by decide) (by decide) hst rfl).weakC fun σ H Q q => by
    obtain ⟨ρ, env, S, d, S', hs, he, hf, hq⟩ := q
    rw [evE] at hf
    obtain ⟨x, S1, e1, hf⟩ := bnd_inv hf
    split at hf
    · rename_i hk
      cases hf
      exact LE.mk hs he e1 fun H1 ρ1 v mm p s1 he1 r1 => ⟨v, .ty T, .type (tyN x), .type T, _, rfl, .ty T, ty_of s1 hk r1, kit_isi hT, (hq.mono mm p).same s1 rfl⟩
    · cases hf
  exact ⟨pe, pt_of pe fun _ => rfl⟩
theorem b_nt {a : E} {a' : Expr} {p : Pos} (ha : Both X a' (evE c a)) : Both X (.UnaryOp .Not a' p) (evE c (.nt a)) := by
  refine ⟨(pe_notT ha.1).weakC fun σ H Q q => ?_, (pt_not ha.2).weakC fun σ H Q q => ?_⟩
  · obtain ⟨ρ, env, S, d, S', hs, he, hf, hq⟩ := q
    rw [evE] at hf
    obtain ⟨x, S1, e1, hf⟩ := bnd_inv hf
    cases et : truth S1 x with
    | none => rw [et] at hf; cases hf
    | some k =>
      rw [et] at hf; cases hf
      exact LE.mk hs he e1 fun H1 ρ1 v mm p s1 he1 r1 => ⟨k, tru_of s1 r1 et, (hq.mono mm p).same s1 rfl⟩
  · obtain ⟨ρ, env, S, k, S', hs, he, hf, hq⟩ := q
    obtain ⟨d, hf, ht⟩ := tst_inv hf
    rw [evE] at hf
    obtain ⟨x, S1, e1, hf⟩ := bnd_inv hf
    cases et : truth S1 x with
    | none => rw [et] at hf; cases hf
    | some k' =>
      rw [et] at hf; cases hf
      cases ht
      exact LT.mk (x := k') (S1 := S') hs he (by show tst (evE c a env S) = some (k', S'); rw [e1]; show (truth S' x).map (fun k => (k, S')) = _; rw [et]; rfl) fun H1 ρ1 mm p s1 he1 => hq H1 ρ1 mm p s1
theorem and_inv {c : Cfg} {a b : E} {env : Ev} {S S' : Sto} {d : D} (h : evE c (.and a b) env S = some (d, S')) : ∃ x S1 k, evE c a env S = some (x, S1) ∧ truth S1 x = some k ∧ (if k = true then evE c b env S1 = some (d, S') else (d = x ∧ S' = S1)) := by
  rw [evE] at h
  obtain ⟨x, S1, e1, h⟩ := bnd_inv h
  obtain ⟨k, S2, e2, h⟩ := bnd_inv h
  cases et : truth S1 x with
  | none => rw [et] at e2; cases e2
  | some k' =>
    rw [et] at e2; cases e2
    refine ⟨x, S1, k, e1, et, ?_⟩
    cases k with
    | true => exact h
    | false => cases h; exact ⟨rfl, rfl⟩
theorem or_inv {c : Cfg} {a b : E} {env : Ev} {S S' : Sto} {d : D} (h : evE c (.or a b) env S = some (d, S')) : ∃ x S1 k, evE c a env S = some (x, S1) ∧ truth S1 x = some k ∧ (if k = true then (d = x ∧ S' = S1) else evE c b env S1 = some (d, S')) := by
  rw [evE] at h
  obtain ⟨x, S1, e1, h⟩ := bnd_inv h
  obtain ⟨k, S2, e2, h⟩ := bnd_inv h
  cases et : truth S1 x with
  | none => rw [et] at e2; cases e2
  | some k' =>
    rw [et] at e2; cases e2
    refine ⟨x, S1, k, e1, et, ?_⟩
    cases k with
    | true => cases h; exact ⟨rfl, rfl⟩
    | false => exact h
theorem tst_mk {m : Option (D × Sto)} {d : D} {k : Bool} {S : Sto} (h : m = some (d, S)) (t : truth S d = some k) : tst m = some (k, S) := by
  rw [h]; show (truth S d).map (fun k => (k, S)) = _; rw [t]; rfl
theorem b_and {a b : E} {a' b' : Expr} {rest : List Expr} {p : Pos} (ha : Both X a' (evE c a)) (hb1 : PE X (.BoolOp .And (b' :: rest) p) (LE X.K (evE c b))) (hb2 : PW X (.BoolOp .And (b' :: rest) p) (LTe X.K (evE c b))) : Both X (.BoolOp .And (a' :: b' :: rest) p) (evE c (.and a b)) := by
  refine ⟨(pe_andT ha.1 hb1).weakC fun σ H Q q => ?_, (PW.pt (pw_and ha.2 hb2)).weakC fun σ H Q q => ?_⟩
  · obtain ⟨ρ, env, S, d, S', hs, he, hf, hq⟩ := q
    obtain ⟨x, S1, k, e1, et, h⟩ := and_inv hf
    refine LE.mk hs he e1 fun H1 ρ1 v mm p s1 he1 r1 => ⟨k, tru_of s1 r1 et, ?_⟩
    cases k with
    | true => exact ⟨ρ1, env, S1, d, S', s1, he1, h, hq.mono mm p⟩
    | false =>
      obtain ⟨rfl, rfl⟩ := h
      exact (hq.mono mm p).same s1 r1
  · obtain ⟨ρ, env, S, k, S', hs, he, hf, hq⟩ := q
    obtain ⟨d, hf, ht⟩ := tst_inv hf
    obtain ⟨x, S1, k', e1, et, h⟩ := and_inv hf
    refine LT.mk hs he (tst_mk e1 et) fun H1 ρ1 mm p s1 he1 => ?_
    cases k' with
    | true => exact ⟨ρ1, env, S1, k, S', s1, he1, tst_mk h ht, fun H' ρ' m' p' s' => hq H' ρ' (mm.trans m') (p.trans p') s'⟩
    | false =>
      obtain ⟨rfl, rfl⟩ := h
      rw [et] at ht; cases ht
      exact hq H1 ρ1 mm p s1
theorem b_or {a b : E} {a' b' : Expr} {rest : List Expr} {p : Pos} (ha : Both X a' (evE c a)) (hb1 : PE X (.BoolOp .Or (b' :: rest) p) (LE X.K (evE c b))) (hb2 : PW X (.BoolOp .Or (b' :: rest) p) (LTe X.K (evE c b))) : Both X (.BoolOp .Or (a' :: b' :: rest) p) (evE c (.or a b)) := by
  refine ⟨(pe_orT ha.1 hb1).weakC fun σ H Q q => ?_, (PW.pt (pw_or ha.2 hb2)).weakC fun σ H Q q => ?_⟩
  · obtain ⟨ρ, env, S, d, S', hs, he, hf, hq⟩ := q
    obtain ⟨x, S1, k, e1, et, h⟩ := or_inv hf
    refine LE.mk hs he e1 fun H1 ρ1 v mm p s1 he1 r1 => ⟨k, tru_of s1 r1 et, ?_⟩
    cases k with
    | false => exact ⟨ρ1, env, S1, d, S', s1, he1, h, hq.mono mm p⟩
    | true =>
      obtain ⟨rfl, rfl⟩ := h
      exact (hq.mono mm p).same s1 r1
  · obtain ⟨ρ, env, S, k, S', hs, he, hf, hq⟩ := q
    obtain ⟨d, hf, ht⟩ := tst_inv hf
    obtain ⟨x, S1, k', e1, et, h⟩ := or_inv hf
    refine LT.mk hs he (tst_mk e1 et) fun H1 ρ1 mm p s1 he1 => ?_
    cases k' with
    | false => exact ⟨ρ1, env, S1, k, S', s1, he1, tst_mk h ht, fun H' ρ' m' p' s' => hq H' ρ' (mm.trans m') (p.trans p') s'⟩
    | true =>
      obtain ⟨rfl, rfl⟩ := h
      rw [et] at ht; cases ht
      exact hq H1 ρ1 mm p s1
theorem ifT_inv {α : Type} {mm : Option (Bool × Sto)} {f g : Sto → Option (α × Sto)} {r : α × Sto} (h : ifT mm f g = some r) : ∃ k S, mm = some (k, S) ∧ (if k = true then f S else g S) = some r := bnd_inv h
theorem b_ife {t a b : E} {t' a' b' : Expr} {p : Pos} (ht : PT X t' (LTe X.K (evE c t))) (ha : Both X a' (evE c a)) (hb : Both X b' (evE c b)) : Both X (.IfExp t' a' b' p) (evE c (.ife t a b)) := by
  refine ⟨(pe_ifExp ht ha.1 hb.1).weakC fun σ H Q q => ?_, ⟨fun pins s σ H Q I q => ?_⟩⟩
  · obtain ⟨ρ, env, S, d, S', hs, he, hf, hq⟩ := q
    rw [evE] at hf
    obtain ⟨k, S1, e1, h⟩ := ifT_inv hf
    refine LT.mk hs he e1 fun H1 ρ1 mm p s1 he1 => ?_
    cases k with
    | true => exact ⟨ρ1, env, S1, d, S', s1, he1, h, hq.mono mm p⟩
    | false => exact ⟨ρ1, env, S1, d, S', s1, he1, h, hq.mono mm p⟩
  · obtain ⟨ρ, env, S, k, S', hs, he, hf, hq⟩ := q
    obtain ⟨d, hf, htr⟩ := tst_inv hf
    rw [evE] at hf
    obtain ⟨k', S1, e1, h⟩ := ifT_inv hf
    have ht' := ht.run pins s σ H (fun d H1 => if d = true then LTe X.K (evE c a) σ H1 Q else LTe X.K (evE c b) σ H1 Q) I (LT.mk hs he e1 fun H1 ρ1 mm p s1 he1 => by
      cases k' with
      | true => exact ⟨ρ1, env, S1, k, S', s1, he1, tst_mk h htr, fun H' ρ' m' p' s' => hq H' ρ' (mm.trans m') (p.trans p') s'⟩
      | false => exact ⟨ρ1, env, S1, k, S', s1, he1, tst_mk h htr, fun H' ρ' m' p' s' => hq H' ρ' (mm.trans m') (p.trans p') s'⟩)
    show wpAny (model X.prog X.w) X.A (do if ← isTrue t' X.env (eval t' X.env) then isTrue a' X.env (eval a' X.env) else isTrue b' X.env (eval b' X.env)) (TP X pins σ Q) X.xe s
    refine wpAny_bind (thn ht' fun d s1 ⟨H1, I1, q1⟩ => ?_)
    cases d with
    | true => exact ha.2.run pins s1 σ H1 Q I1 q1
    | false => exact hb.2.run pins s1 σ H1 Q I1 q1
theorem b_tup {es : List E} {es' : List Expr} {n : Nat} {p : Pos} (ha : PA X es' (LA X.K (evEs c es))) (hl : ∀ env S xs S', evEs c es env S = some (xs, S') → xs.length = es.length) (hn : es.length ≤ 1000) : Both X (.Tuple es' n p) (evE c (.tup es)) := by
  have pe : PE X (.Tuple es' n p) (LE X.K (evE c (.tup es))) := (pe_tupV ha).weakC fun σ H Q q => by
    obtain ⟨ρ, env, S, d, S', hs, he, hf, hq⟩ := q
    rw [evE] at hf
    obtain ⟨xs, S1, e1, hf⟩ := bnd_inv hf
    cases hf
    refine LA.mk hs he e1 fun H1 ρ1 vs mm p s1 he1 r1 => ⟨?_, (hq.mono mm p).newT s1 r1⟩
    rw [← r1.length, hl _ _ _ _ e1]
    exact Nat.le_of_lt (Nat.lt_of_le_of_lt hn (by decide))
  exact ⟨pe, pt_of pe fun _ => rfl⟩
theorem b_lst {es : List E} {es' : List Expr} {p : Pos} (ha : PA X es' (LA X.K (evEs c es))) (hl : ∀ env S xs S', evEs c es env S = some (xs, S') → xs.length = es.length) (hn : es.length ≤ 1000) : Both X (.List es' p) (evE c (.lst es)) := by
  have pe : PE X (.List es' p) (LE X.K (evE c (.lst es))) := (pe_lst ha).weakC fun σ H Q q => by
    obtain ⟨ρ, env, S, d, S', hs, he, hf, hq⟩ := q
    rw [evE] at hf
    obtain ⟨xs, S1, e1, hf⟩ := bnd_inv hf
    cases hf
    refine LA.mk hs he e1 fun H1 ρ1 vs mm p s1 he1 r1 => ⟨?_, fun a hn => (hq.mono mm p).newL s1 r1 hn⟩
    rw [← r1.length, hl _ _ _ _ e1]
    exact Nat.le_of_lt (Nat.lt_of_le_of_lt hn (by decide))
  exact ⟨pe, pt_of pe fun _ => rfl⟩
theorem b_dnew {p : Pos} : Both X (.Dict [] [] p) (evE c .dnew) := by
  have pe : PE X (.Dict [] [] p) (LE X.K (evE c .dnew)) := pe_dnewK.weakC fun σ H Q q => by
    obtain ⟨ρ, env, S, d, S', hs, he, hf, hq⟩ := q
    rw [evE] at hf
    cases hf
    exact fun a hn => hq _ (ρ ++ [a]) _ (Mono.new hn) ⟨[a], rfl⟩ (hs.newD (kvs := []) (vs := []) hn rfl rfl) ⟨a, rfl, by rw [← hs.len]; simp⟩
  exact ⟨pe, pt_of pe fun _ => rfl⟩
theorem b_idx (G : Good m c kk X) {a i : E} {a' i' : Expr} {p : Pos} (ha : PE X a' (LE X.K (evE c a))) (hi : PE X i' (LE X.K (evE c i))) (hp : PlainIx i') : Both X (.Subscript a' i' p) (evE c (.idx a i)) := by
  have pe : PE X (.Subscript a' i' p) (LE X.K (evE c (.idx a i))) := (pe_ix (ix_iop (by have := G.room.un; omega)) ha hi hp).weakC fun σ H Q q => by
    obtain ⟨ρ, env, S, d, S', hs, he, hf, hq⟩ := q
    rw [evE] at hf
    obtain ⟨x, S1, e1, hf⟩ := bnd_inv hf
    obtain ⟨y, S2, e2, hf⟩ := bnd_inv hf
    exact LE.mk hs he e1 fun H1 ρ1 v mm p s1 he1 r1 => LE.mk s1 he1 e2 fun H2 ρ2 w m2 p2 s2 he2 r2 => ⟨ρ2, S2, x, y, d, S', s2, r1.mono m2 p2 _ _, r2, hf, (hq.mono mm p).mono m2 p2⟩
  exact ⟨pe, pt_of pe fun _ => rfl⟩
/-- a slice's bound -/
def LO (K : PySem.W.Frag) (e : E) (f : Ev → Sto → Option (D × Sto)) : TO := fun σ H Q => ∃ ρ env S d o S', Sr K H ρ S ∧ EnvR K H ρ env σ ∧ f env S = some (d, S') ∧ bndE e d = some o ∧ ∀ H' ρ', Mono H H' → ρ <+: ρ' → Sr K H' ρ' S' → Q o H'
theorem po_of {e : E} {o : Option Expr} (h : match o with | none => isNonE e = true | some l => PE X l (LE X.K (evE c e)) ∧ isNonE e = false) : PO X o (LO X.K e (evE c e)) := by
  cases o with
  | none =>
    refine ⟨fun pins s σ H Q I q => po_none.run pins s σ H Q I ?_⟩
    obtain ⟨ρ, env, S, d, o, S', hs, he, hf, hb, hq⟩ := q
    simp only at h
    unfold bndE at hb
    rw [if_pos h] at hb
    cases hb
    unfold isNonE at h
    split at h
    · rw [evE] at hf; cases hf
      exact hq H ρ Mono.refl (List.prefix_refl _) hs
    · cases h
  | some l =>
    refine ⟨fun pins s σ H Q I q => (po_some h.1).run pins s σ H Q I ?_⟩
    obtain ⟨ρ, env, S, d, o, S', hs, he, hf, hb, hq⟩ := q
    unfold bndE at hb
    rw [if_neg (by rw [h.2]; decide)] at hb
    refine LE.mk hs he hf fun H1 ρ1 v mm p s1 he1 r1 => ?_
    cases d with
    | int i => cases hb; cases r1; exact ⟨i, rfl, hq H1 ρ1 mm p s1⟩
    | _ => cases hb
theorem b_slc {a lo hi : E} {a' : Expr} {l' h' : Option Expr} {p p2 : Pos} (ha : PE X a' (LE X.K (evE c a))) (hl : PO X l' (LO X.K lo (evE c lo))) (hh : PO X h' (LO X.K hi (evE c hi))) : Both X (.Subscript a' (.Slice l' h' none p2) p) (evE c (.slc a lo hi)) := by
  have pe : PE X (.Subscript a' (.Slice l' h' none p2) p) (LE X.K (evE c (.slc a lo hi))) := (pe_slice sl_slop ha hl hh).weakC fun σ H Q q => by
    obtain ⟨ρ, env, S, d, S', hs, he, hf, hq⟩ := q
    rw [evE] at hf
    obtain ⟨x, S1, e1, hf⟩ := bnd_inv hf
    obtain ⟨y, S2, e2, hf⟩ := bnd_inv hf
    obtain ⟨z, S3, e3, hf⟩ := bnd_inv hf
    split at hf
    · rename_i l h el eh
      refine LE.mk hs he e1 fun H1 ρ1 v mm p s1 he1 r1 => ?_
      refine ⟨ρ1, env, S1, y, l, S2, s1, he1, e2, el, fun H2 ρ2 m2 p2 s2 => ?_⟩
      refine ⟨ρ2, env, S2, z, h, S3, s2, he1.mono m2 p2, e3, eh, fun H3 ρ3 m3 p3 s3 => ?_⟩
      exact ⟨ρ3, S3, x, d, S', s3, (r1.mono m2 p2 _ _).mono m3 p3 _ _, hf, ((hq.mono mm p).mono m2 p2).mono m3 p3⟩
    · cases hf
  exact ⟨pe, pt_of pe fun _ => rfl⟩
theorem b_call {f : String} {es : List E} {e' : Expr} {es' : List Expr} {p p2 : Pos} (G : Good m c kk X) (hf : f ∈ m.fs) (hg : isGl X.env.scope (Str.ofString f) = true) (hn : nd (Str.ofString f) = true) (ha : PA X (e' :: es') (LA X.K (evEs c es)))
    (hst : starEach (e' :: es') X.env = (false, eval e' X.env) :: starEach es' X.env) (hpl : (backTo p2 (starEach es' X.env)).any (·.1) = false) : Both X (.Call (.Name (Str.ofString f) p) (e' :: es') [] p2) (evE c (.call f es)) := by
  have pe : PE X (.Call (.Name (Str.ofString f) p) (e' :: es') [] p2) (LE X.K (evE c (.call f es))) := by
    rcases G.mo.fn f hf with ⟨a, fd, ps, sp, e1, e2, e3, e4, e5⟩ | ⟨_, e1, e2⟩
    · refine (pe_callG e4 G.gd G.room (gl_of hg) e1 e2 e3 ha (nd_ok hn).1 hst hpl).weakC fun σ H Q q => ?_
      obtain ⟨ρ, env, S, d, S', hs, he, hf, hq⟩ := q
      rw [evE] at hf
      obtain ⟨xs, S1, e1, hf⟩ := bnd_inv hf
      refine LA.mk hs he e1 fun H1 ρ1 vs mm p s1 he1 r1 => ?_
      exact e5 vs H1 Q ⟨ρ1, S1, xs, d, S', s1, r1, hf, hq.mono mm p⟩
    · refine (pe_callBfun cr_gcd' (gl_of hg) e1 ha (nd_ok hn).1 hst hpl).weakC fun σ H Q q => ?_
      obtain ⟨ρ, env, S, d, S', hs, he, hf, hq⟩ := q
      rw [evE] at hf
      obtain ⟨xs, S1, e1, hf⟩ := bnd_inv hf
      rw [e2] at hf
      exact LA.mk hs he e1 fun H1 ρ1 vs mm p s1 he1 r1 => ⟨ρ1, S1, xs, d, S', s1, r1, hf, hq.mono mm p⟩
  exact ⟨pe, pt_of pe fun _ => rfl⟩
theorem bltw {f : String} {es : List E} {b : Bf} {σ H Q} (hb : blt f = b) (q : LE X.K (evE c (.blt f es)) σ H Q) : tCB (LC X.K b) (LA X.K (evEs c es)) σ H Q := by
  obtain ⟨ρ, env, S, d, S', hs, he, hf, hq⟩ := q
  rw [evE] at hf
  obtain ⟨xs, S1, e1, hf⟩ := bnd_inv hf
  rw [hb] at hf
  exact LA.mk hs he e1 fun H1 ρ1 vs mm p s1 he1 r1 => ⟨ρ1, S1, xs, d, S', s1, r1, hf, hq.mono mm p⟩
theorem b_blt {f : String} {es : List E} {e' : Expr} {es' : List Expr} {p p2 : Pos} (G : Good m c kk X) (hf : f ∈ bltFns ∨ f ∈ bltTys) (hdi : f = "dict" → Sct.md = .pln) (hg : isGl X.env.scope (Str.ofString f) = true) (hn : nd (Str.ofString f) = true) (ha : PA X (e' :: es') (LA X.K (evEs c es)))
    (hst : starEach (e' :: es') X.env = (false, eval e' X.env) :: starEach es' X.env) (hpl : (backTo p2 (starEach es' X.env)).any (·.1) = false) : Both X (.Call (.Name (Str.ofString f) p) (e' :: es') [] p2) (evE c (.blt f es)) := by
  have hm : X.mg (Str.ofString f) = none := G.mo.bt f (by
    unfold bltAll
    rcases hf with h | h
    · exact List.mem_append_left _ (List.mem_append_left _ (List.mem_append_left _ h))
    · exact List.mem_append_left _ (List.mem_append_left _ (List.mem_append_right _ h)))
  have hu : X.A.units + 70 < cLine := by have := G.room.un; omega
  have hc := G.calm
  have pe : PE X (.Call (.Name (Str.ofString f) p) (e' :: es') [] p2) (LE X.K (evE c (.blt f es))) := by
    rcases hf with h | h
    · simp only [bltFns, List.mem_cons, List.not_mem_nil, or_false] at h
      rcases h with rfl | rfl | rfl | rfl | rfl | rfl | rfl | rfl
      · exact (pe_callB cr_len (gl_of hg) hm (by decide +kernel) ha (by decide) (nd_ok hn).1 hst hpl).weakC fun _ _ _ q => bltw rfl q
      · exact (pe_callB cr_abs (gl_of hg) hm (by decide +kernel) ha (by decide) (nd_ok hn).1 hst hpl).weakC fun _ _ _ q => bltw rfl q
      · exact (pe_callB (Cs.cr_max hc) (gl_of hg) hm (by decide +kernel) ha (by decide) (nd_ok hn).1 hst hpl).weakC fun _ _ _ q => bltw rfl q
      · exact (pe_callB (Cs.cr_min hc) (gl_of hg) hm (by decide +kernel) ha (by decide) (nd_ok hn).1 hst hpl).weakC fun _ _ _ q => bltw rfl q
      · exact (pe_callB (cr_all' hc) (gl_of hg) hm (by decide +kernel) ha (by decide) (nd_ok hn).1 hst hpl).weakC fun _ _ _ q => bltw rfl q
      · exact (pe_callB (cr_any' hc) (gl_of hg) hm (by decide +kernel) ha (by decide) (nd_ok hn).1 hst hpl).weakC fun _ _ _ q => bltw rfl q
      · exact (pe_callB (cr_repr G.gd hu) (gl_of hg) hm (by decide +kernel) ha (by decide) (nd_ok hn).1 hst hpl).weakC fun _ _ _ q => bltw rfl q
      · exact (pe_callB cr_sorted' (gl_of hg) hm (by decide +kernel) ha (by decide) (nd_ok hn).1 hst hpl).weakC fun _ _ _ q => bltw rfl q
    · simp only [bltTys, List.mem_cons, List.not_mem_nil, or_false] at h
      rcases h with rfl | rfl | rfl | rfl
      · exact (pe_callTy cr_int (gl_of hg) hm (by decide +kernel) ha (by decide) (nd_ok hn).1 hst hpl).weakC fun _ _ _ q => bltw rfl q
      · exact (pe_callTy (cr_list hc) (gl_of hg) hm (by decide +kernel) ha (by decide) (nd_ok hn).1 hst hpl).weakC fun _ _ _ q => bltw rfl q
      · exact (pe_callTy cr_tuple (gl_of hg) hm (by decide +kernel) ha (by decide) (nd_ok hn).1 hst hpl).weakC fun _ _ _ q => bltw rfl q
      · exact (pe_callTy (cr_dict hc (hdi rfl)) (gl_of hg) hm (by decide +kernel) ha (by decide) (nd_ok hn).1 hst hpl).weakC fun _ _ _ q => bltw rfl q
  exact ⟨pe, pt_of pe fun _ => rfl⟩
theorem b_trev {a : E} {a' : Expr} {p1 p2 p3 p4 : Pos} (G : Good m c kk X) (g1 : isGl X.env.scope (Str.ofString "tuple") = true) (g2 : isGl X.env.scope (Str.ofString "reversed") = true) (ha : PE X a' (LE X.K (evE c a)))
    (hst : starEach [a'] X.env = [(false, eval a' X.env)]) : Both X (.Call (.Name (Str.ofString "tuple") p1) [.Call (.Name (Str.ofString "reversed") p2) [a'] [] p3] [] p4) (evE c (.trev a)) := by
  have pe : PE X (.Call (.Name (Str.ofString "tuple") p1) [.Call (.Name (Str.ofString "reversed") p2) [a'] [] p3] [] p4) (LE X.K (evE c (.trev a))) :=
    (pe_trev G.calm (gl_of g1) (G.mo.bt "tuple" (by decide)) (gl_of g2) (G.mo.bt "reversed" (by decide)) ha hst).weakC fun σ H Q q => by
      obtain ⟨ρ, env, S, d, S', hs, he, hf, hq⟩ := q
      rw [evE] at hf
      obtain ⟨x, S1, e1, hf⟩ := bnd_inv hf
      refine LE.mk hs he e1 fun H1 ρ1 v mm p s1 he1 r1 => ?_
      unfold trOp at hf
      split at hf
      · rename_i n
        cases e : getL S1 n with
        | none => rw [e] at hf; cases hf
        | some xs =>
          rw [e] at hf; cases hf
          obtain ⟨a, vs, rfl, _, sa, ra⟩ := s1.list e r1
          exact ⟨a, vs, rfl, .inl sa, (hq.mono mm p).newT s1 ra.reverse⟩
      · rename_i xs
        cases hf
        obtain ⟨a, vs, rfl, sa, ra⟩ := r1
        exact ⟨a, vs, rfl, .inr sa.1, (hq.mono mm p).newT s1 ra.reverse⟩
      · cases hf
  exact ⟨pe, pt_of pe fun _ => rfl⟩
theorem keysL_rp {K : PySem.W.Frag} {H : Hp} {ρ : List Addr} {xs : List D} {ks : List Key} {vs : List V} (h : xs.mapM keyD = some ks) (r : RpL K H ρ xs vs) : vs = ks.map kV := keyD_rpL h r
theorem zip_rp {K : PySem.W.Frag} {H : Hp} {ρ : List Addr} : ∀ {ks : List Key} {ys : List D} {us : List V}, RpL K H ρ ys us → (ks.zip ys).map (·.1) = (ks.zip us).map (·.1) ∧ RpL K H ρ ((ks.zip ys).map (·.2)) ((ks.zip us).map (·.2))
  | [], _, _, _ => ⟨rfl, rfl⟩
  | k :: ks, [], us, r => by cases r; exact ⟨rfl, rfl⟩
  | k :: ks, y :: ys, us, r => by
    obtain ⟨u, rr, rfl, r1, r2⟩ := r
    obtain ⟨h1, h2⟩ := zip_rp (ks := ks) r2
    exact ⟨by simp [h1], u, _, rfl, r1, h2⟩
theorem mapM_len {α β : Type} {f : α → Option β} : ∀ {l : List α} {m : List β}, l.mapM f = some m → m.length = l.length
  | [], m, h => by cases h; rfl
  | a :: l, m, h => by
    rw [List.mapM_cons] at h
    cases e : f a with
    | none => rw [e] at h; cases h
    | some b =>
      rw [e] at h
      cases e2 : l.mapM f with
      | none => rw [e2] at h; cases h
      | some m' => rw [e2] at h; cases h; simp [mapM_len e2]
theorem b_dzip {a b : E} {a' b' : Expr} {p1 p2 p3 p4 : Pos} (G : Good m c kk X) (g1 : isGl X.env.scope (Str.ofString "dict") = true) (g2 : isGl X.env.scope (Str.ofString "zip") = true) (ha : PE X a' (LE X.K (evE c a))) (hb : PE X b' (LE X.K (evE c b)))
    (hs1 : starEach [a', b'] X.env = (false, eval a' X.env) :: starEach [b'] X.env) (hs2 : starEach [b'] X.env = [(false, eval b' X.env)]) :
    Both X (.Call (.Name (Str.ofString "dict") p1) [.Call (.Name (Str.ofString "zip") p2) [a', b'] [] p3] [] p4) (evE c (.dzip a b)) := by
  have pe : PE X (.Call (.Name (Str.ofString "dict") p1) [.Call (.Name (Str.ofString "zip") p2) [a', b'] [] p3] [] p4) (LE X.K (evE c (.dzip a b))) :=
    (pe_dzip G.calm (gl_of g1) (G.mo.bt "dict" (by decide)) (gl_of g2) (G.mo.bt "zip" (by decide)) ha hb hs1 hs2).weakC fun σ H Q q => by
      obtain ⟨ρ, env, S, d, S', hs, he, hf, hq⟩ := q
      rw [evE] at hf
      obtain ⟨x, S1, e1, hf⟩ := bnd_inv hf
      obtain ⟨y, S2, e2, hf⟩ := bnd_inv hf
      refine LE.mk hs he e1 fun H1 ρ1 v mm p s1 he1 r1 => LE.mk s1 he1 e2 fun H2 ρ2 w m2 p2 s2 he2 r2 => ?_
      unfold dzOp at hf
      split at hf
      · rename_i n ys
        split at hf
        · rename_i xs eg
          split at hf
          · rename_i ks ek
            split at hf
            · rename_i hl
              cases hf
              obtain ⟨a, vs, rfl, _, sa, ra⟩ := s2.list eg (r1.mono m2 p2 _ _)
              obtain ⟨b, us, rfl, sb, rb⟩ := r2
              rw [keysL_rp ek ra] at sa
              have l1 := mapM_len ek
              have l2 := rb.length
              refine ⟨a, b, ks, us, rfl, rfl, sa, sb.1, by omega, by omega, fun q hq' => ?_⟩
              obtain ⟨z1, z2⟩ := zip_rp (ks := ks) rb
              obtain ⟨z3, z4⟩ := mergeD_rp (kvs := []) (vs := []) z1 z2 rfl rfl
              exact ((hq.mono mm p).mono m2 p2) _ (ρ2 ++ [q]) _ (Mono.new hq') ⟨[q], rfl⟩ (s2.newD hq' z3 z4) ⟨q, rfl, by rw [← s2.len]; simp⟩
            · cases hf
          · cases hf
        · cases hf
      · cases hf
  exact ⟨pe, pt_of pe fun _ => rfl⟩
theorem b_dict1 {k v : E} {k' v' : Expr} {p : Pos} (G : Good m c kk X) (md : Sct.md = .trk) (hk : PE X k' (LE X.K (evE c k))) (hv : PE X v' (LE X.K (evE c v))) : Both X (.Dict [some k'] [v'] p) (evE c (.dict1 k v)) := by
  have pe : PE X (.Dict [some k'] [v'] p) (LE X.K (evE c (.dict1 k v))) := (pe_disp1 (by have := G.room.un; omega) hk hv).weakC fun σ H Q q => by
    obtain ⟨ρ, env, S, d, S', hs, he, hf, hq⟩ := q
    rw [evE] at hf
    obtain ⟨x, S1, e1, hf⟩ := bnd_inv hf
    obtain ⟨y, S2, e2, hf⟩ := bnd_inv hf
    split at hf
    · rename_i kt eg ek
      cases hf
      intro D hD
      have m0 : Mono H (upd H D (.dT [])) := Mono.new hD
      have p0 : ρ <+: ρ ++ [D] := ⟨[D], rfl⟩
      have ad : (ρ ++ [D])[S.length]? = some D := by rw [← hs.len]; simp
      refine LE.mk (hs.newE md (kvs := []) (vs := []) hD rfl rfl) (he.mono m0 p0) e1 fun H1 ρ1 v mm p s1 he1 r1 => LE.mk s1 he1 e2 fun H2 ρ2 vw m2 p2 s2 he2 r2 => ?_
      have ad2 : ρ2[S.length]? = some D := pre_get p2 (pre_get p ad)
      obtain ⟨b, rfl, hb⟩ := keyT_rp md ek (r1.mono m2 p2 _ _)
      have hg := getT_so eg
      obtain ⟨D', eD, _, us, hus, _, ru⟩ := s2.at_ _ _ hg
      rw [ad2] at eD; cases eD
      cases us with
      | cons u us => obtain ⟨_, ku, _⟩ := s2.dictT hg ⟨D, rfl, ad2⟩; simp_all
      | nil =>
        obtain ⟨s3, m3⟩ := s2.writeE md (ds := [(kt, y)]) (vs := [(kt, vw)]) hg ad2 rfl (RpL.one r2)
        exact ⟨b, kt, rfl, hb, hus, hq _ ρ2 _ (((m0.trans mm).trans m2).trans m3) (p0.trans (p.trans p2)) s3 ⟨D, rfl, ad2⟩⟩
    · cases hf
  exact ⟨pe, pt_of pe fun _ => rfl⟩
theorem b_gget {g : String} {i : E} {i' : Expr} {p p2 : Pos} (G : Good m c kk X) (hg : g ∈ m.ds) (gl : isGl X.env.scope (Str.ofString g) = true) (hn : nd (Str.ofString g) = true) (hi : PE X i' (LE X.K (evE c i))) (hp : PlainIx i') :
    Both X (.Subscript (.Name (Str.ofString g) p) i' p2) (evE c (.gget g i)) := by
  obtain ⟨dd, es, n, tb, e1, kd, e2, tab⟩ := G.mo.gd g hg
  have pe : PE X (.Subscript (.Name (Str.ofString g) p) i' p2) (LE X.K (evE c (.gget g i))) := (pe_ix ix_kdict (pe_glob (v := .ref dd) (gl_of gl) e1 rfl (nd_ok hn).1) hi hp).weakC fun σ H Q q => by
    obtain ⟨ρ, env, S, d, S', hs, he, hf, hq⟩ := q
    rw [evE] at hf
    obtain ⟨y, S1, e3, hf⟩ := bnd_inv hf
    refine LE.mk hs he e3 fun H1 ρ1 v mm p s1 he1 r1 => ?_
    rw [e2] at hf
    split at hf
    · rename_i tb' z et
      cases et
      obtain ⟨r, er, _, hv⟩ := tab z
      cases ev : tabAt tb z with
      | none => rw [ev] at hf; cases hf
      | some w1 =>
        rw [ev] at hf; cases hf
        obtain ⟨u, vv, rfl, ru, rr⟩ := hv _ ev
        cases r1
        exact ⟨dd, z, vv, rfl, rfl, ⟨es, n, u, kd.at_, kd.lit, er, ru⟩, (hq.mono mm p).same s1 (rr _ _)⟩
    · cases hf
  exact ⟨pe, pt_of pe fun _ => rfl⟩
theorem b_gin {neg : Bool} {o : CmpOp} {g : String} {a : E} {a' : Expr} {p p2 : Pos} (G : Good m c kk X) (ho : o = if neg then .NotIn else .In) (hg : g ∈ m.ds) (gl : isGl X.env.scope (Str.ofString g) = true) (hn : nd (Str.ofString g) = true) (ha : PE X a' (LE X.K (evE c a))) :
    Both X (.Compare a' [o] [.Name (Str.ofString g) p] p2) (evE c (.gin neg g a)) := by
  obtain ⟨dd, es, n, tb, e1, kd, e2, tab⟩ := G.mo.gd g hg
  have pg : PE X (.Name (Str.ofString g) p) (tC (.ref dd)) := pe_glob (v := .ref dd) (gl_of gl) e1 rfl (nd_ok hn).1
  have bl : ∀ env S d S', evE c (.gin neg g a) env S = some (d, S') → ∃ k, d = .bl k := by
    intro env S d S' hf
    rw [evE] at hf
    obtain ⟨y, S1, e3, hf⟩ := bnd_inv hf
    split at hf
    · cases hf; exact ⟨_, rfl⟩
    · cases hf
  have core : ∀ σ H Q, LE X.K (evE c (.gin neg g a)) σ H Q → LE X.K (evE c a) σ H fun x H1 => ∃ z r, x = .str z ∧ PySem.W.nsIn X.K dd z = some r ∧ Q (.bl (neg != r.isSome)) H1 := fun σ H Q q => by
    obtain ⟨ρ, env, S, d, S', hs, he, hf, hq⟩ := q
    rw [evE] at hf
    obtain ⟨y, S1, e3, hf⟩ := bnd_inv hf
    refine LE.mk hs he e3 fun H1 ρ1 v mm p s1 he1 r1 => ?_
    rw [e2] at hf
    split at hf
    · rename_i tb' z et
      cases et
      obtain ⟨r, er, es', _⟩ := tab z
      cases hf
      cases r1
      exact ⟨z, r, rfl, er, by rw [← es']; exact (hq.mono mm p).same s1 rfl⟩
    · cases hf
  cases neg with
  | false =>
    subst ho
    have w : ∀ σ H Q, LE X.K (evE c (.gin false g a)) σ H Q → tOp (fun x y H Q => ∃ (z : Str) (r : Option Value), x = .str z ∧ y = .ref dd ∧ PySem.W.nsIn X.K dd z = some r ∧ Q (.bl r.isSome) H) (LE X.K (evE c a)) (tC (.ref dd)) σ H Q := fun σ H Q q => by
      obtain ⟨ρ, env, S, d, S', hs, he, hf, hq⟩ := core σ H Q q
      exact ⟨ρ, env, S, d, S', hs, he, hf, fun H' ρ' v m p s r => let ⟨z, rr, e1, e2, e3⟩ := hq H' ρ' v m p s r; ⟨z, rr, e1, rfl, e2, by simpa using e3⟩⟩
    exact ⟨(pe_cmpR (op_in_kd kd) ha pg rfl).weakC w, (pt_cmpR (op_in_kd kd) ha pg rfl).weakC fun σ H Q q => w _ _ _ (q.bl bl)⟩
  | true =>
    subst ho
    have w : ∀ σ H Q, LE X.K (evE c (.gin true g a)) σ H Q → tOp (fun x y H Q => ∃ (z : Str) (r : Option Value), x = .str z ∧ y = .ref dd ∧ PySem.W.nsIn X.K dd z = some r ∧ Q (.bl (!r.isSome)) H) (LE X.K (evE c a)) (tC (.ref dd)) σ H Q := fun σ H Q q => by
      obtain ⟨ρ, env, S, d, S', hs, he, hf, hq⟩ := core σ H Q q
      exact ⟨ρ, env, S, d, S', hs, he, hf, fun H' ρ' v m p s r => let ⟨z, rr, e1, e2, e3⟩ := hq H' ρ' v m p s r; ⟨z, rr, e1, rfl, e2, by simpa using e3⟩⟩
    exact ⟨(pe_cmpR (op_notIn_kd kd) ha pg rfl).weakC w, (pt_cmpR (op_notIn_kd kd) ha pg rfl).weakC fun σ H Q q => w _ _ _ (q.bl bl)⟩
theorem b_lrng {a : E} {a' : Expr} {p1 p2 p3 p4 : Pos} (G : Good m c kk X) (g1 : isGl X.env.scope (Str.ofString "list") = true) (g2 : isGl X.env.scope (Str.ofString "range") = true) (ha : PE X a' (LE X.K (evE c a)))
    (hst : starEach [a'] X.env = [(false, eval a' X.env)]) : Both X (.Call (.Name (Str.ofString "list") p1) [.Call (.Name (Str.ofString "range") p2) [a'] [] p3] [] p4) (evE c (.lrng a)) := by
  have pe : PE X (.Call (.Name (Str.ofString "list") p1) [.Call (.Name (Str.ofString "range") p2) [a'] [] p3] [] p4) (LE X.K (evE c (.lrng a))) :=
    (pe_listRg G.calm (gl_of g1) (G.mo.bt "list" (by decide)) (prg_1 (gl_of g2) (G.mo.bt "range" (by decide)) ha hst)).weakC fun σ H Q q => by
      obtain ⟨ρ, env, S, d, S', hs, he, hf, hq⟩ := q
      rw [evE] at hf
      obtain ⟨x, S1, e1, hf⟩ := bnd_inv hf
      refine LE.mk hs he e1 fun H1 ρ1 v mm p s1 he1 r1 => ?_
      unfold lrOp at hf
      split at hf
      · rename_i i
        split at hf
        · rename_i hi
          cases hf
          cases r1
          refine ⟨i, rfl, ⟨by omega, by omega, by omega, by omega, by omega⟩, fun q hq' => ?_⟩
          have e : rgV 0 i = (List.range i.toNat).map fun j : Nat => V.int (0 + (j : Int)) := by unfold rgV; rw [Int.sub_zero]
          rw [e]
          refine (hq.mono mm p).newL s1 ?_ hq'
          have r : ∀ l : List Nat, RpL X.K H1 ρ1 (l.map fun i => D.int (0 + (i : Nat))) (l.map fun j : Nat => V.int (0 + (j : Int))) := by
            intro l
            induction l with
            | nil => exact rfl
            | cons n l ih => exact ⟨_, _, rfl, rfl, ih⟩
          exact r _
        · cases hf
      · cases hf
  exact ⟨pe, pt_of pe fun _ => rfl⟩
end
end Cs

set_option Elab.async false
set_option linter.all false
set_option maxRecDepth 100000
namespace Cs
open PySem PySem.Spec PyProof.Rows L2
variable [Sct]

section
variable {X : Cx} {m : MC} {c : Cfg} {kk : Nat}
theorem base_of {f : Str} {o : E} {o' : Expr} {sc : Scope} {env : Env} (h : mE m sc o o' = true) (hs : simpleO o = true) : attributeBase o' f env (eval o' env) = eval o' env := by
  cases o <;> first | cases hs | skip
  · cases o' <;> first | rfl | (simp [mE] at h)
  · cases o' <;> first | rfl | (simp [mE] at h)
theorem stars_few {es : List Expr} {env : Env} {cp : Pos} (h : starEach es env = es.map (fun e => (false, eval e env))) (hn : es.length < 29) :
    ((backTo cp (starEach es env)).all (fun x => !x.1) && (backToKw cp (keywordEach [] env)).all (fun x => x.1.isSome)
      && decide (es.length + ([] : List Keyword).length + (if ([] : List Keyword).isEmpty then 0 else 1) < 30)) = true := by
  rw [h]
  unfold backTo
  simp [keywordEach, backToKw]
  omega
theorem b_mth {f : String} {o : E} {es : List E} {o' e' : Expr} {es' : List Expr} {p ap cp : Pos} {sc : Scope} (hu : X.A.units + 65 < cLine) (hf : f ∈ mthFns) (ho : PE X o' (LE X.K (evE c o))) (ha : PA X (e' :: es') (LA X.K (evEs c es)))
    (hb : attributeBase o' (Str.ofString (mNm f)) X.env (eval o' X.env) = eval o' X.env) (hst : starEach (e' :: es') X.env = (e' :: es').map (fun e => (false, eval e X.env))) (hst2 : starEach es' X.env = es'.map (fun e => (false, eval e X.env))) (hl : lineOk ap cp = true) (hn : (e' :: es').length < 29) :
    Both X (.Call (.Attribute o' (Str.ofString (mNm f)) ap) (e' :: es') [] cp) (evE c (.mth f o es)) := by
  have hs1 : starEach (e' :: es') X.env = (false, eval e' X.env) :: starEach es' X.env := by rw [hst, hst2]; rfl
  have pe : PE X (.Call (.Attribute o' (Str.ofString (mNm f)) ap) (e' :: es') [] cp) (LE X.K (evE c (.mth f o es))) := by
    have w : ∀ g : Mf, mth f = g → (∀ x S1, mTy f x S1 = true → ∃ n, x = .loc n ∧ (getL S1 n).isSome = true) → ∀ σ H Q, LE X.K (evE c (.mth f o es)) σ H Q → tBM X.K "list" (LM X.K g) (LE X.K (evE c o)) (LA X.K (evEs c es)) σ H Q := by
      intro g hg hty σ H Q q
      obtain ⟨ρ, env, S, d, S', hs, he, hf, hq⟩ := q
      rw [evE] at hf
      obtain ⟨x, S1, e1, hf⟩ := bnd_inv hf
      split at hf
      · rename_i ht
        obtain ⟨xs, S2, e2, hf⟩ := bnd_inv hf
        rw [hg] at hf
        refine LE.mk hs he e1 fun H1 ρ1 v mm p s1 he1 r1 => ⟨?_, LA.mk s1 he1 e2 fun H2 ρ2 vs m2 p2 s2 he2 r2 => ⟨ρ2, S2, x, xs, d, S', s2, r1.mono m2 p2 _ _, r2, hf, (hq.mono mm p).mono m2 p2⟩⟩
        obtain ⟨n, rfl, htl⟩ := hty x S1 ht
        cases eg : getL S1 n with
        | none => rw [eg] at htl; cases htl
        | some ds =>
          obtain ⟨a, us, rfl, _, sa, _⟩ := s1.list eg r1
          exact .inl ⟨rfl, us, sa⟩
      · cases hf
    simp only [mthFns, List.mem_cons, List.not_mem_nil, or_false] at hf
    rcases hf with rfl | rfl | rfl | rfl
    · refine (pe_bm PySem.F.plainAttrs_list PySem.F.slot_list_append PySem.F.type_list_append mt_append' ho ha hb (stars_few hst hn) hl hs1 (plain_of hst2)).weakC (w _ rfl fun x S1 ht => ?_)
      cases x with
      | loc n => exact ⟨n, rfl, ht⟩
      | _ => cases ht
    · refine (pe_bm PySem.F.plainAttrs_list PySem.F.slot_list_index PySem.F.type_list_index (mt_index' hu) ho ha hb (stars_few hst hn) hl hs1 (plain_of hst2)).weakC (w _ rfl fun x S1 ht => ?_)
      cases x with
      | loc n => exact ⟨n, rfl, ht⟩
      | _ => cases ht
    · refine (pe_bm PySem.F.plainAttrs_list PySem.F.slot_list_insert PySem.F.type_list_insert mt_insert' ho ha hb (stars_few hst hn) hl hs1 (plain_of hst2)).weakC (w _ rfl fun x S1 ht => ?_)
      cases x with
      | loc n => exact ⟨n, rfl, ht⟩
      | _ => cases ht
    · refine (pe_bm PySem.F.plainAttrs_str PySem.F.slot_str_index PySem.F.type_str_index mt_sindex' ho ha hb (stars_few hst hn) hl hs1 (plain_of hst2)).weakC fun σ H Q q => ?_
      obtain ⟨ρ, env, S, d, S', hs, he, hf, hq⟩ := q
      rw [evE] at hf
      obtain ⟨x, S1, e1, hf⟩ := bnd_inv hf
      split at hf
      · rename_i ht
        obtain ⟨xs, S2, e2, hf⟩ := bnd_inv hf
        refine LE.mk hs he e1 fun H1 ρ1 v mm p s1 he1 r1 => ⟨?_, LA.mk s1 he1 e2 fun H2 ρ2 vs m2 p2 s2 he2 r2 => ⟨ρ2, S2, x, xs, d, S', s2, r1.mono m2 p2 _ _, r2, hf, (hq.mono mm p).mono m2 p2⟩⟩
        cases x with
        | str z => cases r1; exact rfl
        | loc n => cases ht
        | _ => cases ht
      · cases hf
  exact ⟨pe, pt_of pe fun _ => rfl⟩
theorem b_mth0 {f : String} {o : E} {o' : Expr} {ap cp : Pos} (hf : f ∈ mth0Fns) (ho : PE X o' (LE X.K (evE c o)))
    (hb : attributeBase o' (Str.ofString f) X.env (eval o' X.env) = eval o' X.env) (hl : lineOk ap cp = true) :
    Both X (.Call (.Attribute o' (Str.ofString f) ap) [] [] cp) (evE c (.mth0 f o)) := by
  have pe : PE X (.Call (.Attribute o' (Str.ofString f) ap) [] [] cp) (LE X.K (evE c (.mth0 f o))) := by
    have w : ∀ g : D → Sto → Option (D × Sto), mth0 f = g → (∀ x S r, g x S = some r → ∃ n, x = .loc n ∧ (getL S n).isSome = true) → ∀ σ H Q, LE X.K (evE c (.mth0 f o)) σ H Q → tBM X.K "list" (LM0 X.K g) (LE X.K (evE c o)) tNil σ H Q := by
      intro g hg hty σ H Q q
      obtain ⟨ρ, env, S, d, S', hs, he, hf, hq⟩ := q
      rw [evE] at hf
      obtain ⟨x, S1, e1, hf⟩ := bnd_inv hf
      rw [hg] at hf
      refine LE.mk hs he e1 fun H1 ρ1 v mm p s1 he1 r1 => ⟨?_, rfl, ρ1, S1, x, d, S', s1, r1, hf, hq.mono mm p⟩
      obtain ⟨n, rfl, htl⟩ := hty x S1 _ hf
      cases eg : getL S1 n with
      | none => rw [eg] at htl; cases htl
      | some ds =>
        obtain ⟨a, us, rfl, _, sa, _⟩ := s1.list eg r1
        exact .inl ⟨rfl, us, sa⟩
    have tm : ∀ {S : Sto} {n : Nat} {ys : List D}, getM S n = some ys → (getL S n).isSome = true := fun {S n ys} e => by
      unfold getL; rw [getM_so e]; rfl
    simp only [mth0Fns, List.mem_cons, List.not_mem_nil, or_false] at hf
    rcases hf with rfl | rfl
    · refine (pe_bm0 PySem.F.plainAttrs_list PySem.F.slot_list_pop PySem.F.type_list_pop mt_pop' ho hb hl).weakC (w _ rfl fun x S r h => ?_)
      unfold mPop at h
      split at h
      · split at h
        · exact ⟨_, rfl, tm (by assumption)⟩
        · cases h
      · cases h
    · refine (pe_bm0 PySem.F.plainAttrs_list PySem.F.slot_list_reverse PySem.F.type_list_reverse mt_reverse' ho hb hl).weakC (w _ rfl fun x S r h => ?_)
      unfold mReverse at h
      split at h
      · split at h
        · exact ⟨_, rfl, tm (by assumption)⟩
        · cases h
      · cases h
  exact ⟨pe, pt_of pe fun _ => rfl⟩

/-! ### what is let go -/
mutual
theorem und_of {K : PySem.W.Frag} {H : Hp} {ρ : List Addr} : ∀ (d : D) (v : V), Rp K H ρ d v → d.und ρ.length
  | .non, _, _ => trivial
  | .bl _, _, _ => trivial
  | .int _, _, _ => trivial
  | .str _, _, _ => trivial
  | .tup ds, v, h => by
    obtain ⟨a, vs, rfl, _, r⟩ := h
    exact und_ofL ds vs r
  | .loc n, v, h => by
    obtain ⟨a, rfl, e⟩ := h
    exact (List.getElem?_eq_some_iff.mp e).1
theorem und_ofL {K : PySem.W.Frag} {H : Hp} {ρ : List Addr} : ∀ (ds : List D) (vs : List V), RpL K H ρ ds vs → D.undL ρ.length ds
  | [], _, _ => trivial
  | d :: ds, _, h => by
    obtain ⟨v, r, rfl, h1, h2⟩ := h
    exact ⟨und_of d v h1, und_ofL ds r h2⟩
end
mutual
theorem Rp.cut {K : PySem.W.Frag} {H : Hp} {ρ ρ' : List Addr} (p : ρ <+: ρ') : ∀ (d : D) (v : V), d.und ρ.length → Rp K H ρ' d v → Rp K H ρ d v
  | .non, _, _, h => h
  | .bl _, _, _, h => h
  | .int _, _, _, h => h
  | .str _, _, _, h => h
  | .tup ds, v, u, h => by
    obtain ⟨a, vs, rfl, sa, r⟩ := h
    exact ⟨a, vs, rfl, sa, RpL.cut p ds vs u r⟩
  | .loc n, v, u, h => by
    obtain ⟨a, rfl, e⟩ := h
    refine ⟨a, rfl, ?_⟩
    obtain ⟨t, rfl⟩ := p
    have u' : n < ρ.length := u
    rw [List.getElem?_append_left u'] at e
    exact e
theorem RpL.cut {K : PySem.W.Frag} {H : Hp} {ρ ρ' : List Addr} (p : ρ <+: ρ') : ∀ (ds : List D) (vs : List V), D.undL ρ.length ds → RpL K H ρ' ds vs → RpL K H ρ ds vs
  | [], _, _, h => h
  | d :: ds, vs, u, h => by
    obtain ⟨v, r, rfl, h1, h2⟩ := h
    exact ⟨v, r, rfl, Rp.cut p d v u.1 h1, RpL.cut p ds r u.2 h2⟩
end
theorem SoR.und {K : PySem.W.Frag} {H : Hp} {ρ : List Addr} {so : SO} {a : Addr} (h : SoR K H ρ so a) : so.und ρ.length := by
  cases so with
  | lst ds => obtain ⟨vs, _, r⟩ := h; exact und_ofL ds vs r
  | dk kvs => obtain ⟨vs, _, _, r⟩ := h; exact und_ofL _ _ r
  | dt kvs => obtain ⟨_, vs, _, _, r⟩ := h; exact und_ofL _ _ r
  | ro ds => obtain ⟨vs, _, r⟩ := h; exact und_ofL ds vs r
theorem SoR.cut {K : PySem.W.Frag} {H : Hp} {ρ ρ' : List Addr} (p : ρ <+: ρ') {so : SO} {a : Addr} (u : so.und ρ.length) (h : SoR K H ρ' so a) : SoR K H ρ so a := by
  cases so with
  | lst ds => obtain ⟨vs, e, r⟩ := h; exact ⟨vs, e, RpL.cut p ds vs u r⟩
  | dk kvs => obtain ⟨vs, e, k, r⟩ := h; exact ⟨vs, e, k, RpL.cut p _ _ u r⟩
  | dt kvs => obtain ⟨on, vs, e, k, r⟩ := h; exact ⟨on, vs, e, k, RpL.cut p _ _ u r⟩
  | ro ds => obtain ⟨vs, e, r⟩ := h; exact ⟨vs, e, RpL.cut p ds vs u r⟩
theorem Sr.cut {K : PySem.W.Frag} {H H' : Hp} {ρ ρ' : List Addr} {S S' : Sto} (s : Sr K H ρ S) (p : ρ <+: ρ') (s' : Sr K H' ρ' S') (pr : Pre S S') : Sr K H' ρ (S'.take S.length) := by
  have get : ∀ {n : Nat} {so : SO}, (S'.take S.length)[n]? = some so → n < S.length ∧ S'[n]? = some so := by
    intro n so e
    rw [List.getElem?_take] at e
    split at e
    · exact ⟨by assumption, e⟩
    · cases e
  have back : ∀ {n : Nat} {a : Addr}, n < S.length → ρ'[n]? = some a → ρ[n]? = some a := by
    intro n a hn e
    obtain ⟨t, rfl⟩ := p
    rw [List.getElem?_append_left (by rw [s.len]; exact hn)] at e
    exact e
  refine ⟨by rw [List.length_take, s.len, Nat.min_eq_left pr.1], fun n so e => ?_, fun n n' so so' a e e' hm hm' ea ea' => ?_⟩
  · obtain ⟨hn, e⟩ := get e
    obtain ⟨a, ea, r⟩ := s'.at_ n so e
    refine ⟨a, back hn ea, r.cut p ?_⟩
    rcases pr.2 n so hn e with q | q
    · obtain ⟨b, _, r0⟩ := s.at_ n so q
      exact r0.und
    · rw [s.len]; exact q
  · obtain ⟨hn, e⟩ := get e
    obtain ⟨hn', e'⟩ := get e'
    exact s'.inj n n' so so' a e e' hm hm' (pre_get p ea) (pre_get p ea')
theorem fin_ok {K : PySem.W.Frag} {H H' : Hp} {ρ ρ' : List Addr} {S S' S2 : Sto} {d d2 : D} {v : V} (s : Sr K H ρ S) (p : ρ <+: ρ') (s' : Sr K H' ρ' S') (r : Rp K H' ρ' d v) (h : fin S (d, S') = some (d2, S2)) :
    ∃ ρ2, ρ <+: ρ2 ∧ Sr K H' ρ2 S2 ∧ Rp K H' ρ2 d2 v := by
  unfold fin at h
  split at h
  · rename_i pr
    have sc := s.cut p s' pr
    simp only at h
    split at h
    · rename_i u
      cases h
      exact ⟨ρ, List.prefix_refl _, sc, r.cut p d v (by rw [s.len]; exact u)⟩
    · rename_i nu
      split at h
      · rename_i k
        split at h
        · rename_i so0 e
          split at h
          · rename_i ux
            obtain ⟨mx, ux⟩ := ux
            cases h
            obtain ⟨a, rfl, ea⟩ := r
            have e : S'[k]? = some so0 := e
            obtain ⟨b, eb, rb⟩ := s'.at_ k _ e
            rw [ea] at eb; cases eb
            have hk : S.length ≤ k := by
              have nu : ¬ k < S.length := nu
              omega
            have rx : SoR K H' ρ so0 a := rb.cut p (by rw [s.len]; exact ux)
            have pq : ρ <+: ρ ++ [a] := ⟨[a], rfl⟩
            have lt : (S'.take S.length).length = S.length := by rw [List.length_take, Nat.min_eq_left pr.1]
            have la : (ρ ++ [a])[S.length]? = some a := by rw [← s.len]; simp
            have get : ∀ {n : Nat} {so : SO}, (S'.take S.length ++ [so0])[n]? = some so → (n < S.length ∧ (S'.take S.length)[n]? = some so) ∨ (n = S.length ∧ so = so0) := by
              intro n so q
              rcases Nat.lt_trichotomy n S.length with z | z | z
              · rw [List.getElem?_append_left (by rw [lt]; exact z)] at q; exact .inl ⟨z, q⟩
              · subst z
                rw [List.getElem?_append_right (by rw [lt]; exact Nat.le_refl _), lt] at q
                simp at q
                exact .inr ⟨rfl, q.symm⟩
              · rw [List.getElem?_eq_none (by simp [lt]; omega)] at q; cases q
            have old : ∀ {n : Nat} {so : SO} {b : Addr}, n < S.length → (S'.take S.length)[n]? = some so → so.mut = true → (ρ ++ [a])[n]? = some b → ρ[n]? = some b ∧ b ≠ a := by
              intro n so b hn q hm q2
              obtain ⟨b', eb', _⟩ := sc.at_ n so q
              have := pre_get pq eb'
              rw [q2] at this; cases this
              refine ⟨eb', fun z => ?_⟩
              subst z
              rw [List.getElem?_take, if_pos hn] at q
              have := s'.inj n k so _ b q e hm mx (pre_get p eb') ea
              omega
            refine ⟨ρ ++ [a], pq, ⟨by simp [lt, s.len], fun n so q => ?_, fun n n' so so' b q q' hm hm' z z' => ?_⟩, ⟨a, rfl, la⟩⟩
            · rcases get q with ⟨hn, q⟩ | ⟨rfl, rfl⟩
              · obtain ⟨b, eb, rb⟩ := sc.at_ n so q
                exact ⟨b, pre_get pq eb, rb.mono Mono.refl pq fun _ _ h => h⟩
              · exact ⟨a, la, rx.mono Mono.refl pq fun _ _ h => h⟩
            · rcases get q with ⟨hn, q⟩ | ⟨rfl, rfl⟩
              · obtain ⟨w1, w2⟩ := old hn q hm z
                rcases get q' with ⟨hn', q'⟩ | ⟨rfl, rfl⟩
                · obtain ⟨w1', _⟩ := old hn' q' hm' z'
                  exact sc.inj n n' so so' b q q' hm hm' w1 w1'
                · rw [la] at z'; cases z'
                  exact absurd rfl w2
              · rcases get q' with ⟨hn', q'⟩ | ⟨rfl, rfl⟩
                · obtain ⟨_, w2⟩ := old hn' q' hm' z'
                  rw [la] at z; cases z
                  exact absurd rfl w2
                · rfl
          · cases h
        · cases h
      · cases h
  · cases h
theorem b_tr {e : E} {e' : Expr} (h : Both X e' (evE c e)) : Both X e' (evE c (.tr e)) := by
  have core : ∀ σ H Q, LE X.K (evE c (.tr e)) σ H Q → LE X.K (evE c e) σ H Q := fun σ H Q q => by
    obtain ⟨ρ, env, S, d, S', hs, he, hf, hq⟩ := q
    rw [evE] at hf
    obtain ⟨x, S1, e1, hf⟩ := bnd_inv hf
    refine LE.mk hs he e1 fun H1 ρ1 v mm p s1 he1 r1 => ?_
    obtain ⟨ρ2, p2, s2, r2⟩ := fin_ok hs p s1 r1 hf
    exact hq H1 ρ2 v mm p2 s2 r2
  refine ⟨h.1.weakC core, h.2.weakC fun σ H Q q => ?_⟩
  obtain ⟨ρ, env, S, k, S', hs, he, hf, hq⟩ := q
  obtain ⟨d, hf, ht⟩ := tst_inv hf
  rw [evE] at hf
  obtain ⟨x, S1, e1, hf⟩ := bnd_inv hf
  -- the truth of what is let go is the truth ahead of it
  have tt : truth S1 x = some k ∧ ∀ H1 ρ1, Mono H H1 → ρ <+: ρ1 → Sr X.K H1 ρ1 S1 → ∃ ρ2, ρ <+: ρ2 ∧ Sr X.K H1 ρ2 S' := by
    have hf0 := hf
    unfold fin at hf
    split at hf
    · rename_i pr
      simp only at hf
      split at hf
      · rename_i u
        cases hf
        refine ⟨?_, fun H1 ρ1 mm p s1 => ⟨ρ, List.prefix_refl _, hs.cut p s1 pr⟩⟩
        cases d with
        | loc n =>
          have hn : n < S.length := u
          simp only [truth, getL] at ht ⊢
          rw [List.getElem?_take, if_pos hn] at ht
          exact ht
        | _ => exact ht
      · cases x with
        | loc n =>
          simp only at hf
          split at hf
          · rename_i xs e2
            split at hf
            · cases hf
              have e2 : (S1 : Sto)[n]? = some xs := e2
              have lt : (S1.take S.length).length = S.length := by rw [List.length_take, Nat.min_eq_left pr.1]
              refine ⟨?_, fun H1 ρ1 mm p s1 => ?_⟩
              · simp only [truth, getL] at ht ⊢
                rw [e2]
                rw [List.getElem?_append_right (by rw [lt]; exact Nat.le_refl _), lt] at ht
                simpa using ht
              · obtain ⟨a, ea, _⟩ := s1.at_ n _ e2
                obtain ⟨ρ2, p2, s2, _⟩ := fin_ok (v := .ref a) hs p s1 (show Rp X.K H1 ρ1 (.loc n) (.ref a) from ⟨a, rfl, ea⟩) hf0
                exact ⟨ρ2, p2, s2⟩
            · cases hf
          · cases hf
        | _ => cases hf
    · cases hf
  refine LT.mk hs he (tst_mk e1 tt.1) fun H1 ρ1 mm p s1 he1 => ?_
  obtain ⟨ρ2, p2, s2⟩ := tt.2 H1 ρ1 mm p s1
  exact hq H1 ρ2 mm p2 s2
end
end Cs

set_option Elab.async false
set_option linter.all false
set_option maxRecDepth 100000
namespace Cs
open PySem PySem.Spec PyProof.Rows L2
variable [Sct]

section
variable {X : Cx} {m : MC} {c : Cfg} {kk : Nat}
theorem Good.blk (G : Good m c kk X) (s : Shared) (H : Hp) (scope : Scope) (cl : List (Str × Addr)) (C : Addr) (fp : List Addr) : Good m c kk (X.blk s H scope (compEnvC scope cl C X.env) fp) :=
  ⟨G.N, G.nd, G.calm, G.room, G.gd, G.mo⟩
theorem blk_fn (s : Shared) (H : Hp) (scope : Scope) (cl : List (Str × Addr)) (C : Addr) (fp : List Addr) : FnC (X.blk s H scope (compEnvC scope cl C X.env) fp) scope := by
  intro x h
  have keep : ∀ k : NameKind, k ≠ .free → scope.names.lookup x = some k → (relS scope X.env.scope).names.lookup x = some k := fun k hk e => lookup_relS_keep hk e
  have h' := isLoc_ok h
  rcases h' with e | e
  · exact ⟨.inl (keep _ (by decide) e), .inr (keep _ (by decide) e)⟩
  · exact ⟨.inr (keep _ (by decide) e), .inl (by show (scope.names.lookup x == some .cell) = true; rw [e]; rfl)⟩
theorem pts_weak {ifs : List Expr} {t t' : TT} (h : PTs X ifs t) (w : ∀ σ H Q, t' σ H Q → t σ H Q) : PTs X ifs t' := ⟨fun pins s σ H Q I q => h.run pins s σ H Q I (w _ _ _ q)⟩
/-- a comprehension's inner loop, walked -/
theorem lcL_walk {K : PySem.W.Frag} {cond : Ev → Sto → Option (Bool × Sto)} {elt : Ev → Sto → Option (D × Sto)} {iw : List D × Watch} {J : It} {t : Tg} {n0 : Nat} {Dd : Addr} {envw : Ev} {σ0 : L2.St} {vs : List Nat} {S0 Sf : Sto} {H1 Hs : Hp} {ρ1 ρs : List Addr} {Qe : Hp → Prop}
    (jok : JOk K H1 ρ1 iw J) (mm : Mono H1 Hs) (pp : ρ1 <+: ρs) (ss : Sr K Hs ρs S0) (he : EnvR K Hs ρs envw (wipe σ0 vs)) (hv : ∀ i ∈ t.slots, i ∈ vs) (ad : ρs[n0]? = some Dd) (hl : lcL cond elt iw.2 t n0 envw iw.1 S0 = some ((), Sf))
    (hq : ∀ H' ρ', Mono Hs H' → ρs <+: ρ' → Sr K H' ρ' Sf → Qe H') :
    ∃ W : Nat → Nat → Hp → Prop, (∃ m, W 0 m Hs) ∧ ∀ i m H, W i m H → (J.stop i H ∧ Qe H) ∨ (J.go i H ∧ ∃ Nx : Hp → Prop, (∀ H', Nx H' → ∃ m', m' < m ∧ W (i + 1) m' H') ∧ ∀ x H', J.yld i H x H' → LG K t x (wipe σ0 vs) H' fun σ2 H2 =>
      wipe σ2 vs = wipe σ0 vs ∧ LT K cond σ2 H2 fun b H3 => if b = true then LE K elt σ2 H3 fun y H4 => ∃ acc, H4 Dd = some (.lst acc) ∧ acc.length < sizeLine ∧ Nx (upd H4 Dd (.lst (acc ++ [y]))) else Nx H3) := by
  refine ⟨fun i m H2 => m = iw.1.length - i ∧ i ≤ iw.1.length ∧ ∃ ρ2 S2, Mono Hs H2 ∧ ρs <+: ρ2 ∧ Sr K H2 ρ2 S2 ∧ lcL cond elt iw.2 t n0 envw (iw.1.drop i) S2 = some ((), Sf),
    ⟨iw.1.length, by simp, Nat.zero_le _, ρs, S0, Mono.refl, List.prefix_refl _, ss, by rw [List.drop_zero]; exact hl⟩, ?_⟩
  rintro i m H2 ⟨rfl, hi, ρ2, S2, m2, p2, s2, hl2⟩
  by_cases hlt : i < iw.1.length
  · rw [List.drop_eq_getElem_cons hlt] at hl2
    unfold lcL at hl2
    split at hl2
    · rename_i stl
      obtain ⟨_, j2⟩ := jok i H2 ρ2 S2 (mm.trans m2) (pp.trans p2) s2 stl
      obtain ⟨go, yl⟩ := j2 iw.1[i] (List.getElem?_eq_getElem hlt)
      split at hl2
      · cases hl2
      · rename_i env1 ha
        obtain ⟨kb, S3, ec, hl3⟩ := bnd_inv hl2
        refine .inr ⟨go, fun H3 => ∃ ρ3 S3, Mono Hs H3 ∧ ρs <+: ρ3 ∧ Sr K H3 ρ3 S3 ∧ lcL cond elt iw.2 t n0 envw (iw.1.drop (i + 1)) S3 = some ((), Sf),
          fun H' ⟨ρ3, S3, a1, a2, a3, a4⟩ => ⟨iw.1.length - (i + 1), by omega, rfl, hlt, ρ3, S3, a1, a2, a3, a4⟩, fun x H3 y => ?_⟩
        obtain ⟨s3, m3, r3⟩ := yl x H3 y
        have e3 : EnvR K H3 ρ2 envw (wipe σ0 vs) := he.mono (m2.trans m3) p2
        refine ⟨ρ2, envw, _, env1, e3, r3, ha, fun σ' l e' w => ⟨by rw [w vs hv, wipe_wipe (fun _ h => h)], ?_⟩⟩
        refine LT.mk s3 e' ec fun H5 ρ5 m5 p5 s5 he5 => ?_
        cases kb with
        | true =>
          simp only [if_true] at hl3 ⊢
          obtain ⟨yd, S4, ey, hl4⟩ := bnd_inv hl3
          split at hl4
          · rename_i acc eg
            split at hl4
            · rename_i hlen
              refine LE.mk s5 he5 ey fun H6 ρ6 v m6 p6 s6 he6 r6 => ?_
              have ad6 : ρ6[n0]? = some Dd := pre_get p6 (pre_get p5 (pre_get p2 ad))
              obtain ⟨b, eb, us, hb, rb⟩ := s6.at_ _ _ (getM_so eg)
              rw [ad6] at eb; cases eb
              obtain ⟨s7, m7⟩ := s6.write (getM_so eg) ad6 (rb.append (RpL.one r6))
              exact ⟨us, hb, by rw [← rb.length]; exact hlen, ρ6, _, (((m2.trans m3).trans m5).trans m6).trans m7, (p2.trans p5).trans p6, s7, hl4⟩
            · cases hl4
          · cases hl4
        | false =>
          exact ⟨ρ5, S3, (m2.trans m3).trans m5, p2.trans p5, s5, hl3⟩
    · cases hl2
  · have ei : i = iw.1.length := by omega
    subst ei
    rw [List.drop_length] at hl2
    unfold lcL at hl2
    split at hl2
    · rename_i stl
      cases hl2
      obtain ⟨j1, _⟩ := jok _ H2 ρ2 _ (mm.trans m2) (pp.trans p2) s2 stl
      exact .inl ⟨j1 rfl, hq H2 ρ2 m2 p2 s2⟩
    · cases hl2
theorem lift_inv {α : Type} {o : Option α} {S S' : Sto} {a : α} (h : lift o S = some (a, S')) : o = some a ∧ S' = S := by
  unfold lift at h
  cases o with
  | none => cases h
  | some b => cases h; exact ⟨rfl, rfl⟩
theorem lc_core' {K : PySem.W.Frag} {k : IK} {es : List E} {t : Tg} {cnd e : E} {σ : L2.St} {H : Hp} {Q : VK} (q : LE K (evE c (.lc t k es cnd e)) σ H Q) :
    tLc (LI K k (evEs c es)) (LG K t) (LTe K (evE c cnd)) (LE K (evE c e)) t.slots σ H Q := by
  obtain ⟨ρ, env, S, d, S', hs, he, hf, hq⟩ := q
  rw [evE] at hf
  obtain ⟨xs, S1, e1, hf1⟩ := bnd_inv hf
  obtain ⟨iw, S1', e2, hf2⟩ := bnd_inv hf1
  obtain ⟨e2, rfl⟩ := lift_inv e2
  obtain ⟨u, Sf, hl, hf3⟩ := bnd_inv hf2
  cases hf3
  refine ⟨ρ, env, S, xs, S1', iw, hs, he, e1, e2, fun H1 ρ1 J mm p s1 he1 jok Dd hD => ?_⟩
  have n1 : Mono H1 (upd H1 Dd (.lst [])) := Mono.new hD
  have pq : ρ1 <+: ρ1 ++ [Dd] := ⟨[Dd], rfl⟩
  have ad : (ρ1 ++ [Dd])[S1'.length]? = some Dd := by rw [← s1.len]; simp
  exact lcL_walk (vs := t.slots) jok n1 pq (s1.newL hD (show RpL _ _ _ [] [] from rfl)) ((he1.mono n1 pq).wipe _) (fun _ h => h) ad hl fun H' ρ' m' p' s' => hq H' ρ' _ (mm.trans (n1.trans m')) (p.trans (pq.trans p')) s' ⟨Dd, rfl, pre_get p' ad⟩
theorem lc2_core' {K : PySem.W.Frag} {k k1 : IK} {es es1 : List E} {t t1 : Tg} {cnd cnd1 e : E} {σ : L2.St} {H : Hp} {Q : VK} (q : LE K (evE c (.lc2 t k es cnd t1 k1 es1 cnd1 e)) σ H Q) :
    tLc2 (LI K k (evEs c es)) (LG K t) (LTe K (evE c cnd)) (LI K k1 (evEs c es1)) (LG K t1) (LTe K (evE c cnd1)) (LE K (evE c e)) (t.slots ++ t1.slots) t1.slots σ H Q := by
  obtain ⟨ρ, env, S, d, S', hs, he, hf, hq⟩ := q
  rw [evE] at hf
  obtain ⟨xs, S1, e1, hf1⟩ := bnd_inv hf
  obtain ⟨iw, S1', e2, hf2⟩ := bnd_inv hf1
  obtain ⟨e2, rfl⟩ := lift_inv e2
  obtain ⟨u, Sf, hl, hf3⟩ := bnd_inv hf2
  cases hf3
  refine ⟨ρ, env, S, xs, S1', iw, hs, he, e1, e2, fun H1 ρ1 J mm p s1 he1 jok Dd hD => ?_⟩
  have n1 : Mono H1 (upd H1 Dd (.lst [])) := Mono.new hD
  have pq : ρ1 <+: ρ1 ++ [Dd] := ⟨[Dd], rfl⟩
  have ad : (ρ1 ++ [Dd])[S1'.length]? = some Dd := by rw [← s1.len]; simp
  generalize hin : (fun (env1 : Ev) (S2 : Sto) => bnd (evEs c es1 env1 S2) fun ys S3 => bnd (lift (items k1 ys S3) S3) fun iw1 S3 => lcL (fun env S => tst (evE c cnd1 env S)) (evE c e) iw1.2 t1 S1'.length (wipeE env1 t1.slots) iw1.1 S3) = inner at hl
  refine ⟨fun i m H2 => m = iw.1.length - i ∧ i ≤ iw.1.length ∧ ∃ ρ2 S2, Mono (upd H1 Dd (.lst [])) H2 ∧ (ρ1 ++ [Dd]) <+: ρ2 ∧ Sr K H2 ρ2 S2 ∧
      lc2L (fun env S => tst (evE c cnd env S)) inner iw.2 t (wipeE env (t.slots ++ t1.slots)) (iw.1.drop i) S2 = some ((), S'),
    ⟨iw.1.length, by simp, Nat.zero_le _, ρ1 ++ [Dd], S1' ++ [.lst []], Mono.refl, List.prefix_refl _, s1.newL hD (show RpL _ _ _ [] [] from rfl), by rw [List.drop_zero]; exact hl⟩, ?_⟩
  rintro i m H2 ⟨rfl, hi, ρ2, S2, m2, p2, s2, hl2⟩
  have pr1 : ρ1 <+: ρ2 := pq.trans p2
  by_cases hlt : i < iw.1.length
  · rw [List.drop_eq_getElem_cons hlt] at hl2
    unfold lc2L at hl2
    split at hl2
    · rename_i stl
      obtain ⟨_, j2⟩ := jok i H2 ρ2 S2 (n1.trans m2) pr1 s2 stl
      obtain ⟨go, yl⟩ := j2 iw.1[i] (List.getElem?_eq_getElem hlt)
      split at hl2
      · cases hl2
      · rename_i env1 ha
        obtain ⟨kb, S3, ec, hl3⟩ := bnd_inv hl2
        refine .inr ⟨go, fun H3 => ∃ ρ3 S3, Mono (upd H1 Dd (.lst [])) H3 ∧ (ρ1 ++ [Dd]) <+: ρ3 ∧ Sr K H3 ρ3 S3 ∧
          lc2L (fun env S => tst (evE c cnd env S)) inner iw.2 t (wipeE env (t.slots ++ t1.slots)) (iw.1.drop (i + 1)) S3 = some ((), S'),
          fun H' ⟨ρ3, S3, a1, a2, a3, a4⟩ => ⟨iw.1.length - (i + 1), by omega, rfl, hlt, ρ3, S3, a1, a2, a3, a4⟩, fun x H3 y => ?_⟩
        obtain ⟨s3, m3, r3⟩ := yl x H3 y
        have e3 : EnvR K H3 ρ2 env σ := he1.mono ((n1.trans m2).trans m3) pr1
        refine ⟨ρ2, wipeE env (t.slots ++ t1.slots), _, env1, e3.wipe _, r3, ha, fun σ' l e' w => ⟨by rw [w _ (fun i hi => List.mem_append_left _ hi), wipe_wipe (fun _ h => h)], ?_⟩⟩
        refine LT.mk s3 e' ec fun H5 ρ5 m5 p5 s5 he5 => ?_
        cases kb with
        | true =>
          simp only [if_true] at hl3 ⊢
          obtain ⟨_, S4, ey, hl4⟩ := bnd_inv hl3
          rw [← hin] at ey
          obtain ⟨ys, S6, e6, ey1⟩ := bnd_inv ey
          obtain ⟨iw1, S6', e7, ey2⟩ := bnd_inv ey1
          obtain ⟨e7, rfl⟩ := lift_inv e7
          refine ⟨ρ5, env1, S3, ys, S6', iw1, s5, he5, e6, e7, fun H7 ρ7 J1 m7 p7 s7 he7 jok1 => ?_⟩
          have ad7 : ρ7[S1'.length]? = some Dd := pre_get p7 (pre_get p5 (pre_get p2 ad))
          refine lcL_walk (vs := t1.slots) jok1 Mono.refl (List.prefix_refl _) s7 (he7.wipe _) (fun _ h => h) ad7 ey2 fun H' ρ' m' p' s' => ?_
          exact ⟨ρ', S4, (((m2.trans m3).trans m5).trans m7).trans m', ((p2.trans p5).trans p7).trans p', s', hl4⟩
        | false =>
          exact ⟨ρ5, S3, (m2.trans m3).trans m5, p2.trans p5, s5, hl3⟩
    · cases hl2
  · have ei : i = iw.1.length := by omega
    subst ei
    rw [List.drop_length] at hl2
    unfold lc2L at hl2
    split at hl2
    · rename_i stl
      cases hl2
      obtain ⟨j1, _⟩ := jok _ H2 ρ2 S' (n1.trans m2) pr1 s2 stl
      exact .inl ⟨j1 rfl, hq H2 ρ2 _ (mm.trans (n1.trans m2)) (p.trans pr1) s2 ⟨Dd, rfl, pre_get p2 ad⟩⟩
    · cases hl2
theorem b_lc {t : Tg} {k : IK} {es : List E} {cnd e : E} {tg it elt : Expr} {ifs : List Expr} {scope : Scope} {p : Pos} (G : Good m c kk X) (hi : PI X tg it (LI X.K k (evEs c es))) (hs : ∀ x, foldedSetIterable it X.env x = pure x)
    (ok : blkC m.N X.env.scope scope (t.slots.map fun i => (m.N.getD i default, i)) = true) (htg : mTg m.N scope t tg = true)
    (ht : ∀ X' : Cx, Good m c kk X' → X'.env.scope = relS scope X.env.scope → X'.K = X.K → PTs X' ifs (LTe X.K (evE c cnd)))
    (he : ∀ X' : Cx, Good m c kk X' → X'.env.scope = relS scope X.env.scope → X'.K = X.K → PE X' elt (LE X.K (evE c e))) : Both X (.ListComp elt [⟨tg, it, ifs, 0⟩] scope p) (evE c (.lc t k es cnd e)) := by
  have own : (t.slots.map fun i => (m.N.getD i default, i)).map (·.2) = t.slots := by
    rw [List.map_map]
    show t.slots.map (fun i => i) = _
    simp
  have pe : PE X (.ListComp elt [⟨tg, it, ifs, 0⟩] scope p) (LE X.K (evE c (.lc t k es cnd e))) := by
    refine (pe_lc (own := t.slots.map fun i => (m.N.getD i default, i)) (g := LG X.K t) (tt := LTe X.K (evE c cnd)) (te := LE X.K (evE c e)) G.calm (by rw [G.N]; exact G.nd) hi (blkOk_by (by rw [G.N]; exact ok))
      (fun s H C cl fp => ?_) (fun s H C cl fp => ht _ (G.blk s H scope cl C fp) rfl rfl) (fun s H C cl fp => he _ (G.blk s H scope cl C fp) rfl rfl) hs).weakC fun σ H Q q => ?_
    · exact pg_tg (X := X.blk s H scope (compEnvC scope cl C X.env) fp) G.N G.nd G.calm (blk_fn s H scope cl C fp) htg
    · rw [own]
      exact lc_core' q
  exact ⟨pe, pt_of pe fun _ => rfl⟩
theorem own_of {is : List Nat} : (is.map fun i => (m.N.getD i default, i)).map (·.2) = is := by
  rw [List.map_map]
  show is.map (fun i => i) = _
  simp
theorem b_lc2 {t t1 : Tg} {k k1 : IK} {es es1 : List E} {cnd cnd1 e : E} {tg it tg1 it1 elt : Expr} {ifs ifs1 : List Expr} {scope : Scope} {p : Pos} (G : Good m c kk X) (hi : PI X tg it (LI X.K k (evEs c es))) (hs : ∀ x, foldedSetIterable it X.env x = pure x)
    (hs1 : ∀ env x, foldedSetIterable it1 env x = pure x) (ok : blkC m.N X.env.scope scope ((t.slots ++ t1.slots).map fun i => (m.N.getD i default, i)) = true) (htg : mTg m.N scope t tg = true) (htg1 : mTg m.N scope t1 tg1 = true)
    (hi1 : ∀ X' : Cx, Good m c kk X' → X'.env.scope = relS scope X.env.scope → X'.K = X.K → PI X' tg1 it1 (LI X.K k1 (evEs c es1)))
    (ht : ∀ X' : Cx, Good m c kk X' → X'.env.scope = relS scope X.env.scope → X'.K = X.K → PTs X' ifs (LTe X.K (evE c cnd)))
    (ht1 : ∀ X' : Cx, Good m c kk X' → X'.env.scope = relS scope X.env.scope → X'.K = X.K → PTs X' ifs1 (LTe X.K (evE c cnd1)))
    (he : ∀ X' : Cx, Good m c kk X' → X'.env.scope = relS scope X.env.scope → X'.K = X.K → PE X' elt (LE X.K (evE c e))) : Both X (.ListComp elt [⟨tg, it, ifs, 0⟩, ⟨tg1, it1, ifs1, 0⟩] scope p) (evE c (.lc2 t k es cnd t1 k1 es1 cnd1 e)) := by
  have pe : PE X (.ListComp elt [⟨tg, it, ifs, 0⟩, ⟨tg1, it1, ifs1, 0⟩] scope p) (LE X.K (evE c (.lc2 t k es cnd t1 k1 es1 cnd1 e))) := by
    refine (pe_lc2 (own := (t.slots ++ t1.slots).map fun i => (m.N.getD i default, i)) (vs1 := t1.slots) (g := LG X.K t) (g1 := LG X.K t1) (tt := LTe X.K (evE c cnd)) (tt1 := LTe X.K (evE c cnd1)) (te := LE X.K (evE c e)) (wi1 := LI X.K k1 (evEs c es1)) G.calm (by rw [G.N]; exact G.nd) hi (blkOk_by (by rw [G.N]; exact ok)) (fun i h => by rw [own_of]; exact List.mem_append_right _ h)
      (fun s H C cl fp => pg_tg (X := X.blk s H scope (compEnvC scope cl C X.env) fp) G.N G.nd G.calm (blk_fn s H scope cl C fp) htg) (fun s H C cl fp => ht _ (G.blk s H scope cl C fp) rfl rfl) (fun s H C cl fp => hi1 _ (G.blk s H scope cl C fp) rfl rfl)
      (fun s H C cl fp => pg_tg (X := X.blk s H scope (compEnvC scope cl C X.env) fp) G.N G.nd G.calm (blk_fn s H scope cl C fp) htg1) (fun s H C cl fp => ht1 _ (G.blk s H scope cl C fp) rfl rfl) (fun s H C cl fp => he _ (G.blk s H scope cl C fp) rfl rfl) hs hs1).weakC fun σ H Q q => ?_
    rw [own_of]
    exact lc2_core' q
  exact ⟨pe, pt_of pe fun _ => rfl⟩
theorem evEs_len : ∀ {es : List E} {env : Ev} {S : Sto} {xs : List D} {S' : Sto}, evEs c es env S = some (xs, S') → xs.length = es.length
  | [], _, _, _, _, h => by rw [evEs] at h; cases h; rfl
  | e :: es, env, S, xs, S', h => by
    rw [evEs] at h
    obtain ⟨x, S1, _, h⟩ := bnd_inv h
    obtain ⟨ys, S2, h2, h⟩ := bnd_inv h
    cases h
    simp [evEs_len h2]
theorem mEs_len {sc : Scope} : ∀ {es : List E} {es' : List Expr}, mEs m sc es es' = true → es.length = es'.length
  | [], [], _ => rfl
  | [], _ :: _, h => by simp [mEs] at h
  | _ :: _, [], h => by simp [mEs] at h
  | e :: es, e' :: es', h => by
    rw [mEs, Bool.and_eq_true] at h
    simp [mEs_len h.2]
theorem pa_nil' : PA X [] (LA X.K (evEs c [])) := pa_nil.weakC fun σ H Q q => by
  obtain ⟨ρ, env, S, ds, S', hs, he, hf, hq⟩ := q
  rw [evEs] at hf
  cases hf
  exact hq H ρ [] Mono.refl (List.prefix_refl _) hs rfl
theorem pa_cons' {e : E} {es : List E} {e' : Expr} {es' : List Expr} (h1 : PE X e' (LE X.K (evE c e))) (h2 : PA X es' (LA X.K (evEs c es))) (hs : starEach (e' :: es') X.env = (false, eval e' X.env) :: starEach es' X.env) : PA X (e' :: es') (LA X.K (evEs c (e :: es))) :=
  (pa_cons h1 h2 hs).weakC fun σ H Q q => by
    obtain ⟨ρ, env, S, ds, S', hs, he, hf, hq⟩ := q
    rw [evEs] at hf
    obtain ⟨x, S1, e1, hf⟩ := bnd_inv hf
    obtain ⟨ys, S2, e2, hf⟩ := bnd_inv hf
    cases hf
    exact LE.mk hs he e1 fun H1 ρ1 v mm p s1 he1 r1 => LA.mk s1 he1 e2 fun H2 ρ2 vs m2 p2 s2 he2 r2 => hq H2 ρ2 (v :: vs) (mm.trans m2) (p.trans p2) s2 ⟨v, vs, rfl, r1.mono m2 p2 _ _, r2⟩
theorem mE_set {sc : Scope} {l : List Expr} {n : Nat} {p : Pos} : ∀ e : E, mE m sc e (.Set l n p) = false
  | .tr e => by rw [mE]; exact mE_set e
  | .var _ | .cn _ | .glb _ | .bin .. | .neg _ | .cmp .. | .isN _ | .notN _ | .isB .. | .isi .. | .nt _ | .and .. | .or .. | .ife .. | .tup _ | .lst _ | .idx .. | .slc .. | .call .. | .blt .. | .mth .. | .lc .. | .lc2 .. | .dnew | .mth0 .. | .dict1 .. | .dc .. | .gget .. | .gin .. | .dzip .. | .trev _ | .lrng _ => by simp [mE]
theorem fold_of {sc : Scope} {es : List E} {es' : List Expr} {k : IK} {it : Expr} {env : Env} {tg : Expr} (h : itX tg sc k it = some es') (hm : mEs m sc es es' = true) : ∀ x, foldedSetIterable it env x = pure x := by
  intro x
  cases it with
  | Set elts n p =>
    exfalso
    cases k with
    | seq =>
      cases h
      match es, hm with
      | [e], hm =>
        rw [mEs, Bool.and_eq_true] at hm
        rw [mE_set] at hm
        exact absurd hm.1 (by decide)
      | [], hm => simp [mEs] at hm
      | _ :: _ :: _, hm => simp [mEs] at hm
    | _ => cases h
  | _ => rfl
theorem isTrueE_ok {e : E} (h : isTrueE e = true) : e = .cn (.bl true) := by
  unfold isTrueE at h
  split at h
  · rfl
  · cases h
theorem stars_tl {e : Expr} {es : List Expr} {env : Env} (h : starEach (e :: es) env = (e :: es).map fun e => (false, eval e env)) : starEach es env = es.map fun e => (false, eval e env) := by
  cases e with
  | Starred x p =>
    have h2 : ((true, eval x env) :: starEach es env) = (false, eval (.Starred x p) env) :: es.map fun e => (false, eval e env) := h
    simp at h2
  | _ => exact (List.cons.inj h).2
theorem mE_isN {sc : Scope} {a : E} {e' : Expr} (h : mE m sc (.isN a) e' = true) : ∃ a' n p p2, e' = .Compare a' [.Is] [.Constant .none n p] p2 ∧ mE m sc a a' = true := by
  unfold mE at h
  split at h
  all_goals first | (cases h; done) | (cases ‹E.isN _ = _›; done) | (cases ‹E.isN _ = _›; exact ⟨_, _, _, _, rfl, h⟩)
theorem mE_notN {sc : Scope} {a : E} {e' : Expr} (h : mE m sc (.notN a) e' = true) : ∃ a' n p p2, e' = .Compare a' [.IsNot] [.Constant .none n p] p2 ∧ mE m sc a a' = true := by
  unfold mE at h
  split at h
  all_goals first | (cases h; done) | (cases ‹E.notN _ = _›; done) | (cases ‹E.notN _ = _›; exact ⟨_, _, _, _, rfl, h⟩)
theorem mE_isB {sc : Scope} {a : E} {b : Bool} {e' : Expr} (h : mE m sc (.isB a b) e' = true) : ∃ a' n p p2, e' = .Compare a' [.Is] [.Constant (.bool b) n p] p2 ∧ mE m sc a a' = true := by
  unfold mE at h
  split at h
  all_goals first | (cases h; done) | (cases ‹E.isB _ _ = _›; done) | (cases ‹E.isB _ _ = _›; rw [Bool.and_eq_true] at h; have e := eq_of_beq h.2; subst e; exact ⟨_, _, _, _, rfl, h.1⟩)
theorem mE_slc {sc : Scope} {a lo hi : E} {e' : Expr} (h : mE m sc (.slc a lo hi) e' = true) : ∃ a' l' h' p p2, e' = .Subscript a' (.Slice l' h' none p2) p ∧ mE m sc a a' = true ∧
    (match l' with | none => isNonE lo = true | some l => mE m sc lo l = true ∧ isNonE lo = false) ∧ (match h' with | none => isNonE hi = true | some l => mE m sc hi l = true ∧ isNonE hi = false) := by
  unfold mE at h
  split at h
  all_goals first | (cases h; done) | (cases ‹E.slc _ _ _ = _›; done) | skip
  cases ‹E.slc _ _ _ = _›
  rename_i a' l' h' p2 p
  rw [Bool.and_eq_true, Bool.and_eq_true] at h
  refine ⟨_, l', h', _, _, rfl, h.1.1, ?_, ?_⟩
  · have := h.1.2
    cases l' with
    | none => exact this
    | some l => simpa using this
  · have := h.2
    cases h' with
    | none => exact this
    | some l => simpa using this
theorem mE_call {sc : Scope} {f : String} {es : List E} {e' : Expr} (h : mE m sc (.call f es) e' = true) : ∃ e1 es' p p2, e' = .Call (.Name (Str.ofString f) p) (e1 :: es') [] p2 ∧ f ∈ m.fs ∧ isGl sc (Str.ofString f) = true ∧ nd (Str.ofString f) = true ∧ mEs m sc es (e1 :: es') = true := by
  unfold mE at h
  split at h
  all_goals first | (cases h; done) | (cases ‹E.call _ _ = _›; done) | skip
  cases ‹E.call _ _ = _›
  simp only [Bool.and_eq_true, decide_eq_true_eq] at h
  obtain ⟨⟨⟨⟨⟨rfl, h1⟩, h2⟩, h3⟩, h4⟩, h5⟩ := h
  rename_i es' p
  have hl := mEs_len h4
  cases es' with
  | nil => simp at hl; rw [hl] at h5; cases h5
  | cons e1 r => exact ⟨e1, r, _, _, rfl, by simpa using h1, h2, h3, h4⟩
theorem mE_blt {sc : Scope} {f : String} {es : List E} {e' : Expr} (h : mE m sc (.blt f es) e' = true) : ∃ e1 es' p p2, e' = .Call (.Name (Str.ofString f) p) (e1 :: es') [] p2 ∧ (f ∈ bltFns ∨ f ∈ bltTys) ∧ isGl sc (Str.ofString f) = true ∧ nd (Str.ofString f) = true ∧ mEs m sc es (e1 :: es') = true ∧ (f = "dict" → Sct.md = .pln) := by
  unfold mE at h
  split at h
  all_goals first | (cases h; done) | (cases ‹E.blt _ _ = _›; done) | skip
  cases ‹E.blt _ _ = _›
  simp only [Bool.and_eq_true, decide_eq_true_eq, Bool.or_eq_true] at h
  obtain ⟨⟨⟨⟨⟨⟨rfl, h1⟩, h2⟩, h3⟩, h4⟩, h5⟩, h6⟩ := h
  rename_i es' p
  have hl := mEs_len h4
  cases es' with
  | nil => simp at hl; rw [hl] at h5; cases h5
  | cons e1 r => exact ⟨e1, r, _, _, rfl, by simpa using h1, h2, h3, h4, fun z => by subst z; simpa using h6⟩
theorem mE_mth {sc : Scope} {f : String} {o : E} {es : List E} {e' : Expr} (h : mE m sc (.mth f o es) e' = true) : ∃ o' e1 es' ap cp, e' = .Call (.Attribute o' (Str.ofString (mNm f)) ap) (e1 :: es') [] cp ∧ f ∈ mthFns ∧ mE m sc o o' = true ∧ simpleO o = true ∧ mEs m sc es (e1 :: es') = true ∧ es.length < 29 ∧ lineOk ap cp = true := by
  unfold mE at h
  split at h
  all_goals first | (cases h; done) | (cases ‹E.mth _ _ _ = _›; done) | skip
  cases ‹E.mth _ _ _ = _›
  simp only [Bool.and_eq_true, decide_eq_true_eq] at h
  obtain ⟨⟨⟨⟨⟨⟨⟨rfl, h1⟩, h2⟩, h3⟩, h4⟩, h5⟩, h6⟩, h7⟩ := h
  rename_i es' p
  have hl := mEs_len h4
  cases es' with
  | nil => simp at hl; rw [hl] at h5; cases h5
  | cons e1 r => exact ⟨_, e1, r, _, _, rfl, by simpa using h1, h2, h3, h4, h6, h7⟩
theorem mE_isi {sc : Scope} {a : E} {T : String} {e' : Expr} (h : mE m sc (.isi a T) e' = true) : ∃ a' p p2 p3, e' = .Call (.Name (Str.ofString "isinstance") p) [a', .Name (Str.ofString T) p2] [] p3 ∧ T ∈ isiTys ∧ isGl sc (Str.ofString "isinstance") = true ∧ isGl sc (Str.ofString T) = true ∧ nd (Str.ofString T) = true ∧ mE m sc a a' = true := by
  unfold mE at h
  split at h
  all_goals first | (cases h; done) | (cases ‹E.isi _ _ = _›; done) | skip
  cases ‹E.isi _ _ = _›
  simp only [Bool.and_eq_true, decide_eq_true_eq] at h
  obtain ⟨⟨⟨⟨⟨⟨rfl, rfl⟩, h1⟩, h2⟩, h3⟩, h4⟩, h5⟩ := h
  exact ⟨_, _, _, _, rfl, by simpa using h1, h2, h3, h4, h5⟩
theorem mE_lc2 {sc : Scope} {t t1 : Tg} {k k1 : IK} {es es1 : List E} {c c1 e : E} {e' : Expr} (h : mE m sc (.lc2 t k es c t1 k1 es1 c1 e) e' = true) : ∃ elt tg it ifs tg1 it1 ifs1 scope p es' es1', e' = .ListComp elt [⟨tg, it, ifs, 0⟩, ⟨tg1, it1, ifs1, 0⟩] scope p ∧ mTg m.N scope t tg = true ∧ mTg m.N scope t1 tg1 = true ∧
    itX tg sc k it = some es' ∧ mEs m sc es es' = true ∧ itX tg1 (relS scope sc) k1 it1 = some es1' ∧ mEs m (relS scope sc) es1 es1' = true ∧
    (match ifs with | [] => isTrueE c = true | [i] => mE m (relS scope sc) c i = true | _ => False) ∧ (match ifs1 with | [] => isTrueE c1 = true | [i] => mE m (relS scope sc) c1 i = true | _ => False) ∧ mE m (relS scope sc) e elt = true ∧ blkC m.N sc scope ((t.slots ++ t1.slots).map fun i => (m.N.getD i default, i)) = true := by
  unfold mE at h
  split at h
  all_goals first | (cases h; done) | (cases ‹E.lc2 _ _ _ _ _ _ _ _ _ = _›; done) | skip
  cases ‹E.lc2 _ _ _ _ _ _ _ _ _ = _›
  simp only [Bool.and_eq_true] at h
  obtain ⟨⟨⟨⟨⟨⟨⟨⟨⟨h1, h2⟩, h3⟩, h4⟩, h5⟩, h6⟩, h7⟩, h8⟩, h9⟩, h10⟩ := h
  have e0 := eq_of_beq h8
  have e1 := eq_of_beq h9
  subst e0 e1
  split at h3
  · rename_i es' hx
    split at h4
    · rename_i es1' hx1
      refine ⟨_, _, _, _, _, _, _, _, _, es', es1', rfl, h1, h2, hx, h3, hx1, h4, ?_, ?_, h7, h10⟩
      · split at h5
        · exact h5
        · exact h5
        · cases h5
      · split at h6
        · exact h6
        · exact h6
        · cases h6
    · cases h4
  · cases h3
theorem mE_lc {sc : Scope} {t : Tg} {k : IK} {es : List E} {c e : E} {e' : Expr} (h : mE m sc (.lc t k es c e) e' = true) : ∃ elt tg it ifs scope p es', e' = .ListComp elt [⟨tg, it, ifs, 0⟩] scope p ∧ mTg m.N scope t tg = true ∧ itX tg sc k it = some es' ∧ mEs m sc es es' = true ∧
    (match ifs with | [] => isTrueE c = true | [i] => mE m (relS scope sc) c i = true | _ => False) ∧ mE m (relS scope sc) e elt = true ∧ blkC m.N sc scope (t.slots.map fun i => (m.N.getD i default, i)) = true := by
  unfold mE at h
  split at h
  all_goals first | (cases h; done) | (cases ‹E.lc _ _ _ _ _ = _›; done) | skip
  cases ‹E.lc _ _ _ _ _ = _›
  simp only [Bool.and_eq_true] at h
  obtain ⟨⟨⟨⟨⟨h1, h2⟩, h3⟩, h4⟩, h5⟩, h6⟩ := h
  have e0 := eq_of_beq h5
  subst e0
  split at h2
  · rename_i es' hx
    refine ⟨_, _, _, _, _, _, es', rfl, h1, hx, h2, ?_, h4, h6⟩
    split at h3
    · exact h3
    · exact h3
    · cases h3
  · cases h2
theorem mE_mth0 {sc : Scope} {f : String} {o : E} {e' : Expr} (h : mE m sc (.mth0 f o) e' = true) : ∃ o' ap cp, e' = .Call (.Attribute o' (Str.ofString f) ap) [] [] cp ∧ f ∈ mth0Fns ∧ mE m sc o o' = true ∧ simpleO o = true ∧ lineOk ap cp = true := by
  unfold mE at h
  split at h
  all_goals first | (cases h; done) | (cases ‹E.mth0 _ _ = _›; done) | skip
  cases ‹E.mth0 _ _ = _›
  simp only [Bool.and_eq_true, decide_eq_true_eq] at h
  obtain ⟨⟨⟨⟨rfl, h1⟩, h2⟩, h3⟩, h4⟩ := h
  exact ⟨_, _, _, rfl, by simpa using h1, h2, h3, h4⟩
theorem mE_dict1 {sc : Scope} {k v : E} {e' : Expr} (h : mE m sc (.dict1 k v) e' = true) : ∃ k' v' p, e' = .Dict [some k'] [v'] p ∧ Sct.md = .trk ∧ mE m sc k k' = true ∧ mE m sc v v' = true := by
  unfold mE at h
  split at h
  all_goals first | (cases h; done) | (cases ‹E.dict1 _ _ = _›; done) | skip
  cases ‹E.dict1 _ _ = _›
  simp only [Bool.and_eq_true, decide_eq_true_eq] at h
  exact ⟨_, _, _, rfl, h.1.1, h.1.2, h.2⟩
theorem mE_gget {sc : Scope} {g : String} {i : E} {e' : Expr} (h : mE m sc (.gget g i) e' = true) : ∃ i' p p2, e' = .Subscript (.Name (Str.ofString g) p) i' p2 ∧ g ∈ m.ds ∧ isGl sc (Str.ofString g) = true ∧ nd (Str.ofString g) = true ∧ mE m sc i i' = true := by
  unfold mE at h
  split at h
  all_goals first | (cases h; done) | (cases ‹E.gget _ _ = _›; done) | skip
  cases ‹E.gget _ _ = _›
  simp only [Bool.and_eq_true, decide_eq_true_eq] at h
  obtain ⟨⟨⟨⟨rfl, h1⟩, h2⟩, h3⟩, h4⟩ := h
  exact ⟨_, _, _, rfl, by simpa using h1, h2, h3, h4⟩
theorem mE_gin {sc : Scope} {neg : Bool} {g : String} {a : E} {e' : Expr} (h : mE m sc (.gin neg g a) e' = true) : ∃ a' o p p2, e' = .Compare a' [o] [.Name (Str.ofString g) p] p2 ∧ o = (if neg then CmpOp.NotIn else .In) ∧ g ∈ m.ds ∧ isGl sc (Str.ofString g) = true ∧ nd (Str.ofString g) = true ∧ mE m sc a a' = true := by
  unfold mE at h
  split at h
  all_goals first | (cases h; done) | (cases ‹E.gin _ _ _ = _›; done) | skip
  cases ‹E.gin _ _ _ = _›
  simp only [Bool.and_eq_true, decide_eq_true_eq] at h
  obtain ⟨⟨⟨⟨⟨h0, rfl⟩, h1⟩, h2⟩, h3⟩, h4⟩ := h
  refine ⟨_, _, _, _, rfl, ?_, by simpa using h1, h2, h3, h4⟩
  split at h0
  · rfl
  · rfl
  · cases h0
theorem mE_dzip {sc : Scope} {a b : E} {e' : Expr} (h : mE m sc (.dzip a b) e' = true) : ∃ a' b' p1 p2 p3 p4, e' = .Call (.Name (Str.ofString "dict") p1) [.Call (.Name (Str.ofString "zip") p2) [a', b'] [] p3] [] p4 ∧ isGl sc (Str.ofString "dict") = true ∧ isGl sc (Str.ofString "zip") = true ∧ mE m sc a a' = true ∧ mE m sc b b' = true := by
  unfold mE at h
  split at h
  all_goals first | (cases h; done) | (cases ‹E.dzip _ _ = _›; done) | skip
  cases ‹E.dzip _ _ = _›
  simp only [Bool.and_eq_true, decide_eq_true_eq] at h
  obtain ⟨⟨⟨⟨⟨rfl, rfl⟩, h1⟩, h2⟩, h3⟩, h4⟩ := h
  exact ⟨_, _, _, _, _, _, rfl, h1, h2, h3, h4⟩
theorem mE_trev {sc : Scope} {a : E} {e' : Expr} (h : mE m sc (.trev a) e' = true) : ∃ a' p1 p2 p3 p4, e' = .Call (.Name (Str.ofString "tuple") p1) [.Call (.Name (Str.ofString "reversed") p2) [a'] [] p3] [] p4 ∧ isGl sc (Str.ofString "tuple") = true ∧ isGl sc (Str.ofString "reversed") = true ∧ mE m sc a a' = true := by
  unfold mE at h
  split at h
  all_goals first | (cases h; done) | (cases ‹E.trev _ = _›; done) | skip
  cases ‹E.trev _ = _›
  simp only [Bool.and_eq_true, decide_eq_true_eq] at h
  obtain ⟨⟨⟨⟨rfl, rfl⟩, h1⟩, h2⟩, h3⟩ := h
  exact ⟨_, _, _, _, _, rfl, h1, h2, h3⟩
theorem mE_lrng {sc : Scope} {a : E} {e' : Expr} (h : mE m sc (.lrng a) e' = true) : ∃ a' p1 p2 p3 p4, e' = .Call (.Name (Str.ofString "list") p1) [.Call (.Name (Str.ofString "range") p2) [a'] [] p3] [] p4 ∧ isGl sc (Str.ofString "list") = true ∧ isGl sc (Str.ofString "range") = true ∧ mE m sc a a' = true := by
  unfold mE at h
  split at h
  all_goals first | (cases h; done) | (cases ‹E.lrng _ = _›; done) | skip
  cases ‹E.lrng _ = _›
  simp only [Bool.and_eq_true, decide_eq_true_eq] at h
  obtain ⟨⟨⟨⟨rfl, rfl⟩, h1⟩, h2⟩, h3⟩ := h
  exact ⟨_, _, _, _, _, rfl, h1, h2, h3⟩
theorem mE_dc {sc : Scope} {t : Tg} {k : IK} {es : List E} {c ke ve : E} {e' : Expr} (h : mE m sc (.dc t k es c ke ve) e' = true) : ∃ kx vx tg it ifs scope p es', e' = .DictComp kx vx [⟨tg, it, ifs, 0⟩] scope p ∧ mTg m.N scope t tg = true ∧ itX tg sc k it = some es' ∧ mEs m sc es es' = true ∧
    (match ifs with | [] => isTrueE c = true | [i] => mE m (relS scope sc) c i = true | _ => False) ∧ mE m (relS scope sc) ke kx = true ∧ mE m (relS scope sc) ve vx = true ∧ blkC m.N sc scope (t.slots.map fun i => (m.N.getD i default, i)) = true ∧ Sct.md = .trk := by
  unfold mE at h
  split at h
  all_goals first | (cases h; done) | (cases ‹E.dc _ _ _ _ _ _ = _›; done) | skip
  cases ‹E.dc _ _ _ _ _ _ = _›
  simp only [Bool.and_eq_true, decide_eq_true_eq] at h
  obtain ⟨⟨⟨⟨⟨⟨⟨h1, h2⟩, h3⟩, h4⟩, h5⟩, h6⟩, h7⟩, h8⟩ := h
  have e0 := eq_of_beq h6
  subst e0
  split at h2
  · rename_i es' hx
    refine ⟨_, _, _, _, _, _, _, es', rfl, h1, hx, h2, ?_, h4, h5, h7, h8⟩
    split at h3
    · exact h3
    · exact h3
    · cases h3
  · cases h2
/-- a dict comprehension's loop, walked -/
theorem dcL_walk {K : PySem.W.Frag} {cond : Ev → Sto → Option (Bool × Sto)} {ke ve : Ev → Sto → Option (D × Sto)} {iw : List D × Watch} {J : It} {t : Tg} {n0 : Nat} {Dd : Addr} {envw : Ev} {σ0 : L2.St} {vs : List Nat} {S0 Sf : Sto} {H1 Hs : Hp} {ρ1 ρs : List Addr} {Qe : Hp → Prop} (md : Sct.md = .trk)
    (jok : JOk K H1 ρ1 iw J) (mm : Mono H1 Hs) (pp : ρ1 <+: ρs) (ss : Sr K Hs ρs S0) (he : EnvR K Hs ρs envw (wipe σ0 vs)) (hv : ∀ i ∈ t.slots, i ∈ vs) (ad : ρs[n0]? = some Dd) (hl : dcL cond ke ve iw.2 t n0 envw iw.1 S0 = some ((), Sf))
    (hq : ∀ H' ρ', Mono Hs H' → ρs <+: ρ' → Sr K H' ρ' Sf → Qe H') :
    ∃ W : Nat → Nat → Hp → Prop, (∃ m, W 0 m Hs) ∧ ∀ i m H, W i m H → (J.stop i H ∧ Qe H) ∨ (J.go i H ∧ ∃ Nx : Hp → Prop, (∀ H', Nx H' → ∃ m', m' < m ∧ W (i + 1) m' H') ∧ ∀ x H', J.yld i H x H' → LG K t x (wipe σ0 vs) H' fun σ2 H2 =>
      wipe σ2 vs = wipe σ0 vs ∧ LT K cond σ2 H2 fun b H3 => if b = true then LE K ke σ2 H3 fun y H4 => LE K ve σ2 H4 fun z H5 => ∃ kvs ks p, y = .ref p ∧ H5 p = some (.tup (ks.map kV)) ∧ H5 Dd = some (.dT kvs) ∧ kvs.length < sizeLine ∧ Nx (upd H5 Dd (.dT (putK kvs ks z))) else Nx H3) := by
  refine ⟨fun i m H2 => m = iw.1.length - i ∧ i ≤ iw.1.length ∧ ∃ ρ2 S2, Mono Hs H2 ∧ ρs <+: ρ2 ∧ Sr K H2 ρ2 S2 ∧ dcL cond ke ve iw.2 t n0 envw (iw.1.drop i) S2 = some ((), Sf),
    ⟨iw.1.length, by simp, Nat.zero_le _, ρs, S0, Mono.refl, List.prefix_refl _, ss, by rw [List.drop_zero]; exact hl⟩, ?_⟩
  rintro i m H2 ⟨rfl, hi, ρ2, S2, m2, p2, s2, hl2⟩
  by_cases hlt : i < iw.1.length
  · rw [List.drop_eq_getElem_cons hlt] at hl2
    unfold dcL at hl2
    split at hl2
    · rename_i stl
      obtain ⟨_, j2⟩ := jok i H2 ρ2 S2 (mm.trans m2) (pp.trans p2) s2 stl
      obtain ⟨go, yl⟩ := j2 iw.1[i] (List.getElem?_eq_getElem hlt)
      split at hl2
      · cases hl2
      · rename_i env1 ha
        obtain ⟨kb, S3, ec, hl3⟩ := bnd_inv hl2
        refine .inr ⟨go, fun H3 => ∃ ρ3 S3, Mono Hs H3 ∧ ρs <+: ρ3 ∧ Sr K H3 ρ3 S3 ∧ dcL cond ke ve iw.2 t n0 envw (iw.1.drop (i + 1)) S3 = some ((), Sf),
          fun H' ⟨ρ3, S3, a1, a2, a3, a4⟩ => ⟨iw.1.length - (i + 1), by omega, rfl, hlt, ρ3, S3, a1, a2, a3, a4⟩, fun x H3 y => ?_⟩
        obtain ⟨s3, m3, r3⟩ := yl x H3 y
        have e3 : EnvR K H3 ρ2 envw (wipe σ0 vs) := he.mono (m2.trans m3) p2
        refine ⟨ρ2, envw, _, env1, e3, r3, ha, fun σ' l e' w => ⟨by rw [w vs hv, wipe_wipe (fun _ h => h)], ?_⟩⟩
        refine LT.mk s3 e' ec fun H5 ρ5 m5 p5 s5 he5 => ?_
        cases kb with
        | true =>
          simp only [if_true] at hl3 ⊢
          obtain ⟨yd, S4, ey, hl4⟩ := bnd_inv hl3
          obtain ⟨zd, S5, ez, hl5⟩ := bnd_inv hl4
          split at hl5
          · rename_i kvs kt eg ek
            split at hl5
            · rename_i hlen
              refine LE.mk s5 he5 ey fun H6 ρ6 v m6 p6 s6 he6 r6 => LE.mk s6 he6 ez fun H7 ρ7 u m7 p7 s7 he7 r7 => ?_
              have ad7 : ρ7[n0]? = some Dd := pre_get p7 (pre_get p6 (pre_get p5 (pre_get p2 ad)))
              obtain ⟨b, rfl, hb⟩ := keyT_rp md ek (r6.mono m7 p7 _ _)
              obtain ⟨a, us, ea, ea2, hus, ku, ru, _⟩ := s7.dictT (getT_so eg) ⟨Dd, rfl, ad7⟩
              cases ea
              obtain ⟨k1, k2⟩ := putD_rp (k := kt) ku ru r7
              obtain ⟨s8, m8⟩ := s7.writeE md (getT_so eg) ad7 k1 k2
              have hl : us.length = kvs.length := by
                have := congrArg List.length ku
                simpa using this.symm
              exact ⟨us, kt, b, rfl, hb, hus, by omega, ρ7, _, ((((m2.trans m3).trans m5).trans m6).trans m7).trans m8, ((p2.trans p5).trans p6).trans p7, s8, hl5⟩
            · cases hl5
          · cases hl5
        | false =>
          exact ⟨ρ5, S3, (m2.trans m3).trans m5, p2.trans p5, s5, hl3⟩
    · cases hl2
  · have ei : i = iw.1.length := by omega
    subst ei
    rw [List.drop_length] at hl2
    unfold dcL at hl2
    split at hl2
    · rename_i stl
      cases hl2
      obtain ⟨j1, _⟩ := jok _ H2 ρ2 _ (mm.trans m2) (pp.trans p2) s2 stl
      exact .inl ⟨j1 rfl, hq H2 ρ2 m2 p2 s2⟩
    · cases hl2
theorem b_dc {t : Tg} {k : IK} {es : List E} {cnd ke ve : E} {tg it kx vx : Expr} {ifs : List Expr} {scope : Scope} {p : Pos} (md : Sct.md = .trk) (G : Good m c kk X) (hi : PI X tg it (LI X.K k (evEs c es))) (hs : ∀ x, foldedSetIterable it X.env x = pure x)
    (ok : blkC m.N X.env.scope scope (t.slots.map fun i => (m.N.getD i default, i)) = true) (htg : mTg m.N scope t tg = true)
    (ht : ∀ X' : Cx, Good m c kk X' → X'.env.scope = relS scope X.env.scope → X'.K = X.K → PTs X' ifs (LTe X.K (evE c cnd)))
    (hke : ∀ X' : Cx, Good m c kk X' → X'.env.scope = relS scope X.env.scope → X'.K = X.K → PE X' kx (LE X.K (evE c ke)))
    (hve : ∀ X' : Cx, Good m c kk X' → X'.env.scope = relS scope X.env.scope → X'.K = X.K → PE X' vx (LE X.K (evE c ve))) : Both X (.DictComp kx vx [⟨tg, it, ifs, 0⟩] scope p) (evE c (.dc t k es cnd ke ve)) := by
  have pe : PE X (.DictComp kx vx [⟨tg, it, ifs, 0⟩] scope p) (LE X.K (evE c (.dc t k es cnd ke ve))) := by
    refine (pe_dcT (own := t.slots.map fun i => (m.N.getD i default, i)) (g := LG X.K t) (tt := LTe X.K (evE c cnd)) (tk := LE X.K (evE c ke)) (tv := LE X.K (evE c ve)) (by have := G.room.un; omega) G.calm (by rw [G.N]; exact G.nd) hi (blkOk_by (by rw [G.N]; exact ok))
      (fun s H C cl fp => ?_) (fun s H C cl fp => ht _ (G.blk s H scope cl C fp) rfl rfl) (fun s H C cl fp => hke _ (G.blk s H scope cl C fp) rfl rfl) (fun s H C cl fp => hve _ (G.blk s H scope cl C fp) rfl rfl) hs).weakC fun σ H Q q => ?_
    · exact pg_tg (X := X.blk s H scope (compEnvC scope cl C X.env) fp) G.N G.nd G.calm (blk_fn s H scope cl C fp) htg
    · rw [own_of]
      obtain ⟨ρ, env, S, d, S', hs, he, hf, hq⟩ := q
      rw [evE] at hf
      obtain ⟨xs, S1, e1, hf1⟩ := bnd_inv hf
      obtain ⟨iw, S1', e2, hf2⟩ := bnd_inv hf1
      obtain ⟨e2, rfl⟩ := lift_inv e2
      obtain ⟨u, Sf, hl, hf3⟩ := bnd_inv hf2
      cases hf3
      refine ⟨ρ, env, S, xs, S1', iw, hs, he, e1, e2, fun H1 ρ1 J mm p s1 he1 jok Dd hD => ?_⟩
      have n1 : Mono H1 (upd H1 Dd (.dT [])) := Mono.new hD
      have pq : ρ1 <+: ρ1 ++ [Dd] := ⟨[Dd], rfl⟩
      have ad : (ρ1 ++ [Dd])[S1'.length]? = some Dd := by rw [← s1.len]; simp
      exact dcL_walk (vs := t.slots) md jok n1 pq (s1.newE md (kvs := []) (vs := []) hD rfl rfl) ((he1.mono n1 pq).wipe _) (fun _ h => h) ad hl fun H' ρ' m' p' s' => hq H' ρ' _ (mm.trans (n1.trans m')) (p.trans (pq.trans p')) s' ⟨Dd, rfl, pre_get p' ad⟩
  exact ⟨pe, pt_of pe fun _ => rfl⟩
/-- the arguments of what is walked -/
theorem pi_es {k : IK} {es : List E} {tg it : Expr} {es' : List Expr} (G : Good m c kk X) (h2 : itX tg X.env.scope k it = some es') (h3 : mEs m X.env.scope es es' = true) (pa : PA X es' (LA X.K (evEs c es))) (one : ∀ e0 e', es = [e0] → es' = [e'] → PE X e' (LE X.K (evE c e0))) : PI X tg it (LI X.K k (evEs c es)) := by
  have st := stars_of (env := X.env) h3
  refine pi_of G h2 pa (fun e' z => ?_) st (fun a b z => ?_) (fun env S xs S' z => by rw [evEs_len z, mEs_len h3])
  · subst z
    match es, h3 with
    | [e0], h3 =>
      refine ⟨evE c e0, one e0 e' rfl rfl, fun env S => ?_⟩
      rw [evEs]
      rfl
    | [], h3 => simp [mEs] at h3
    | _ :: _ :: _, h3 => simp [mEs] at h3
  · subst z
    exact stars_tl st
theorem pts_of {cnd : E} {ifs : List Expr} (h : match ifs with | [] => isTrueE cnd = true | [i] => PT X i (LTe X.K (evE c cnd)) | _ => False) : PTs X ifs (LTe X.K (evE c cnd)) := by
  match ifs, h with
  | [], h4 =>
    refine pts_weak pts_nil fun σ H Q q => ?_
    obtain ⟨ρ, env, S, k, S', hs, he, hf, hq⟩ := q
    have hc : cnd = .cn (.bl true) := isTrueE_ok h4
    subst hc
    have hf : tst (evE c (.cn (.bl true)) env S) = some (k, S') := hf
    rw [evE] at hf
    cases hf
    exact hq H ρ Mono.refl (List.prefix_refl _) hs
  | [i], h4 => exact pts_one h4
mutual
theorem sE (c : Cfg) (m : MC) (kk : Nat) : ∀ (e : E) (X : Cx) (e' : Expr), Good m c kk X → mE m X.env.scope e e' = true → Both X e' (evE c e)
  | .var i, X, e', G, h => by
    cases e' <;> first | (simp [mE] at h; done) | skip
    exact b_var G h
  | .cn k, X, e', G, h => by
    cases e' <;> first | (simp [mE] at h; done) | skip
    exact b_cn (by simpa [mE] using h)
  | .glb g, X, e', G, h => by
    cases e' <;> first | (simp [mE] at h; done) | skip
    exact b_glb G h
  | .bin op a b, X, e', G, h => by
    cases e' <;> first | (simp [mE] at h; done) | skip
    rw [mE, Bool.and_eq_true, Bool.and_eq_true] at h
    exact b_bin h.1.1 (sE c m kk a X _ G h.1.2).1 (sE c m kk b X _ G h.2).1
  | .neg a, X, e', G, h => by
    cases e' with
    | UnaryOp op a' p =>
      cases op with
      | USub => exact b_neg (sE c m kk a X _ G (by simpa [mE] using h)).1
      | _ => simp [mE] at h
    | _ => simp [mE] at h
  | .cmp op a b, X, e', G, h => by
    cases e' with
    | Compare l ops cs p =>
      match ops, cs, h with
      | [o], [b'], h =>
        simp only [mE, Bool.and_eq_true, Bool.not_eq_true'] at h
        exact b_cmp G h.1.1.1 h.2 (sE c m kk a X _ G h.1.1.2).1 (sE c m kk b X _ G h.1.2).1
      | [], _, h => simp [mE] at h
      | [_], [], h => simp [mE] at h
      | [_], _ :: _ :: _, h => simp [mE] at h
      | _ :: _ :: _, _, h => simp [mE] at h
    | _ => simp [mE] at h
  | .isN a, X, e', G, h => by
    obtain ⟨a', n, p, p2, rfl, h2⟩ := mE_isN h
    exact b_isN (sE c m kk a X _ G h2).1
  | .notN a, X, e', G, h => by
    obtain ⟨a', n, p, p2, rfl, h2⟩ := mE_notN h
    exact b_notN (sE c m kk a X _ G h2).1
  | .isB a b, X, e', G, h => by
    obtain ⟨a', n, p, p2, rfl, h2⟩ := mE_isB h
    exact b_isB (sE c m kk a X _ G h2).1
  | .nt a, X, e', G, h => by
    cases e' with
    | UnaryOp op a' p =>
      cases op with
      | Not => exact b_nt (sE c m kk a X _ G (by simpa [mE] using h))
      | _ => simp [mE] at h
    | _ => simp [mE] at h
  | .and a b, X, e', G, h => by
    cases e' with
    | BoolOp op vs p =>
      cases op with
      | Or => simp [mE] at h
      | And =>
        match vs, h with
        | [a', b'], h =>
          simp only [mE, Bool.and_eq_true] at h
          obtain ⟨i1, i2⟩ := sE c m kk b X _ G h.2
          exact b_and (sE c m kk a X _ G h.1) (pe_one i1) (pw_and1 i2)
        | a' :: b' :: d' :: r, h =>
          simp only [mE, Bool.and_eq_true] at h
          obtain ⟨i1, i2⟩ := sE c m kk b X _ G h.2
          exact b_and (sE c m kk a X _ G h.1) i1 (pw_of_pt i2)
        | [], h => simp [mE] at h
        | [_], h => simp [mE] at h
    | _ => simp [mE] at h
  | .or a b, X, e', G, h => by
    cases e' with
    | BoolOp op vs p =>
      cases op with
      | And => simp [mE] at h
      | Or =>
        match vs, h with
        | [a', b'], h =>
          simp only [mE, Bool.and_eq_true] at h
          obtain ⟨i1, i2⟩ := sE c m kk b X _ G h.2
          exact b_or (sE c m kk a X _ G h.1) (pe_one i1) (pw_or1 i2)
        | a' :: b' :: d' :: r, h =>
          simp only [mE, Bool.and_eq_true] at h
          obtain ⟨i1, i2⟩ := sE c m kk b X _ G h.2
          exact b_or (sE c m kk a X _ G h.1) i1 (pw_of_pt i2)
        | [], h => simp [mE] at h
        | [_], h => simp [mE] at h
    | _ => simp [mE] at h
  | .ife t a b, X, e', G, h => by
    cases e' with
    | IfExp t' a' b' p =>
      simp only [mE, Bool.and_eq_true] at h
      exact b_ife (sE c m kk t X _ G h.1.1).2 (sE c m kk a X _ G h.1.2) (sE c m kk b X _ G h.2)
    | _ => simp [mE] at h
  | .tup es, X, e', G, h => by
    cases e' with
    | Tuple es' n p =>
      simp only [mE, Bool.and_eq_true, decide_eq_true_eq] at h
      exact b_tup (sEs c m kk es X _ G h.1) (fun _ _ _ _ => evEs_len) h.2
    | _ => simp [mE] at h
  | .lst es, X, e', G, h => by
    cases e' with
    | List es' p =>
      simp only [mE, Bool.and_eq_true, decide_eq_true_eq] at h
      exact b_lst (sEs c m kk es X _ G h.1) (fun _ _ _ _ => evEs_len) h.2
    | _ => simp [mE] at h
  | .dnew, X, e', G, h => by
    cases e' with
    | Dict ks vs p =>
      cases ks with
      | nil => cases vs with
        | nil => exact b_dnew
        | cons _ _ => simp [mE] at h
      | cons _ _ => simp [mE] at h
    | _ => simp [mE] at h
  | .idx a i, X, e', G, h => by
    cases e' with
    | Subscript a' i' p =>
      simp only [mE, Bool.and_eq_true] at h
      exact b_idx G (sE c m kk a X _ G h.1).1 (sE c m kk i X _ G h.2).1 (plainIx_of h.2)
    | _ => simp [mE] at h
  | .slc a lo hi, X, e', G, h => by
    obtain ⟨a', l', h', p, p2, rfl, h1, h2, h3⟩ := mE_slc h
    refine b_slc (sE c m kk a X _ G h1).1 (po_of ?_) (po_of ?_)
    · cases l' with
      | none => exact h2
      | some l => exact ⟨(sE c m kk lo X _ G h2.1).1, h2.2⟩
    · cases h' with
      | none => exact h3
      | some l => exact ⟨(sE c m kk hi X _ G h3.1).1, h3.2⟩
  | .call f es, X, e', G, h => by
    obtain ⟨e1, es', p, p2, rfl, h1, h2, h3, h4⟩ := mE_call h
    have st := stars_of (env := X.env) h4
    have st2 := stars_tl st
    exact b_call G h1 h2 h3 (sEs c m kk es X _ G h4) (by rw [st, st2]; rfl) (plain_of st2)
  | .blt f es, X, e', G, h => by
    obtain ⟨e1, es', p, p2, rfl, h1, h2, h3, h4, h5⟩ := mE_blt h
    have st := stars_of (env := X.env) h4
    have st2 := stars_tl st
    exact b_blt G h1 h5 h2 h3 (sEs c m kk es X _ G h4) (by rw [st, st2]; rfl) (plain_of st2)
  | .mth f o es, X, e', G, h => by
    obtain ⟨o', e1, es', p, p2, rfl, h1, h2, h3, h4, h5, h6⟩ := mE_mth h
    have st := stars_of (env := X.env) h4
    exact b_mth (sc := X.env.scope) (p := p) (by have := G.room.un; omega) h1 (sE c m kk o X _ G h2).1 (sEs c m kk es X _ G h4) (base_of h2 h3) st (stars_tl st) h6 (by rw [← mEs_len h4]; exact h5)
  | .isi a T, X, e', G, h => by
    obtain ⟨a', p, p2, p3, rfl, h1, h2, h3, h4, h5⟩ := mE_isi h
    exact b_isi G h1 h2 h3 h4 (sE c m kk a X _ G h5).1 (star_of h5)
  | .lc t k es cnd e, X, e', G, h => by
    obtain ⟨elt, tg, it, ifs, scope, p, es', rfl, h1, h2, h3, h4, h5, h6⟩ := mE_lc h
    refine b_lc G (pi_es G h2 h3 (sEs c m kk es X _ G h3) fun e0 e' z z' => ?_) (fold_of h2 h3) h6 h1 (fun X' G' hs hK => ?_) (fun X' G' hs hK => ?_)
    · match es, h3, z with
      | [e1], h3, z =>
        rw [← (List.cons.inj z).1]
        subst z'
        simp only [mEs, Bool.and_eq_true] at h3
        exact (sE c m kk e1 X _ G h3.1).1
    · rw [← hK]
      refine pts_of ?_
      match ifs, h4 with
      | [], h4 => exact h4
      | [i], h4 => exact (sE c m kk cnd X' _ G' (by rw [hs]; exact h4)).2
    · rw [← hK]
      exact (sE c m kk e X' _ G' (by rw [hs]; exact h5)).1
  | .lc2 t k es cnd t1 k1 es1 cnd1 e, X, e', G, h => by
    obtain ⟨elt, tg, it, ifs, tg1, it1, ifs1, scope, p, es', es1', rfl, h1, h2, h3, h4, h5, h6, h7, h8, h9, h10⟩ := mE_lc2 h
    refine b_lc2 G (pi_es G h3 h4 (sEs c m kk es X _ G h4) fun e0 e' z z' => ?_) (fold_of h3 h4) (fun env => fold_of h5 h6) h10 h1 h2 (fun X' G' hs hK => ?_) (fun X' G' hs hK => ?_) (fun X' G' hs hK => ?_) (fun X' G' hs hK => ?_)
    · match es, h4, z with
      | [e1], h4, z =>
        rw [← (List.cons.inj z).1]
        subst z'
        simp only [mEs, Bool.and_eq_true] at h4
        exact (sE c m kk e1 X _ G h4.1).1
    · rw [← hK]
      have pa := sEs c m kk es1 X' _ G' (by rw [hs]; exact h6)
      refine pi_es G' (by rw [hs]; exact h5) (by rw [hs]; exact h6) pa fun e0 e' z z' => ?_
      match es1, h6, z with
      | [e1], h6, z =>
        rw [← (List.cons.inj z).1]
        subst z'
        simp only [mEs, Bool.and_eq_true] at h6
        exact (sE c m kk e1 X' _ G' (by rw [hs]; exact h6.1)).1
    · rw [← hK]
      refine pts_of ?_
      match ifs, h7 with
      | [], h7 => exact h7
      | [i], h7 => exact (sE c m kk cnd X' _ G' (by rw [hs]; exact h7)).2
    · rw [← hK]
      refine pts_of ?_
      match ifs1, h8 with
      | [], h8 => exact h8
      | [i], h8 => exact (sE c m kk cnd1 X' _ G' (by rw [hs]; exact h8)).2
    · rw [← hK]
      exact (sE c m kk e X' _ G' (by rw [hs]; exact h9)).1
  | .mth0 f o, X, e', G, h => by
    obtain ⟨o', ap, cp, rfl, h1, h2, h3, h4⟩ := mE_mth0 h
    exact b_mth0 h1 (sE c m kk o X _ G h2).1 (base_of h2 h3) h4
  | .dict1 k v, X, e', G, h => by
    obtain ⟨k', v', p, rfl, h1, h2, h3⟩ := mE_dict1 h
    exact b_dict1 G h1 (sE c m kk k X _ G h2).1 (sE c m kk v X _ G h3).1
  | .gget g i, X, e', G, h => by
    obtain ⟨i', p, p2, rfl, h1, h2, h3, h4⟩ := mE_gget h
    exact b_gget G h1 h2 h3 (sE c m kk i X _ G h4).1 (plainIx_of h4)
  | .gin neg g a, X, e', G, h => by
    obtain ⟨a', o, p, p2, rfl, h0, h1, h2, h3, h4⟩ := mE_gin h
    exact b_gin G h0 h1 h2 h3 (sE c m kk a X _ G h4).1
  | .dzip a b, X, e', G, h => by
    obtain ⟨a', b', p1, p2, p3, p4, rfl, h1, h2, h3, h4⟩ := mE_dzip h
    exact b_dzip G h1 h2 (sE c m kk a X _ G h3).1 (sE c m kk b X _ G h4).1 (star_of h3) (star_of h4)
  | .lrng a, X, e', G, h => by
    obtain ⟨a', p1, p2, p3, p4, rfl, h1, h2, h3⟩ := mE_lrng h
    exact b_lrng G h1 h2 (sE c m kk a X _ G h3).1 (star_of h3)
  | .trev a, X, e', G, h => by
    obtain ⟨a', p1, p2, p3, p4, rfl, h1, h2, h3⟩ := mE_trev h
    exact b_trev G h1 h2 (sE c m kk a X _ G h3).1 (star_of h3)
  | .dc t k es cnd ke ve, X, e', G, h => by
    obtain ⟨kx, vx, tg, it, ifs, scope, p, es', rfl, h1, h2, h3, h4, h5, h6, h7, h8⟩ := mE_dc h
    refine b_dc h8 G (pi_es G h2 h3 (sEs c m kk es X _ G h3) fun e0 e' z z' => ?_) (fold_of h2 h3) h7 h1 (fun X' G' hs hK => ?_) (fun X' G' hs hK => ?_) (fun X' G' hs hK => ?_)
    · match es, h3, z with
      | [e1], h3, z =>
        rw [← (List.cons.inj z).1]
        subst z'
        simp only [mEs, Bool.and_eq_true] at h3
        exact (sE c m kk e1 X _ G h3.1).1
    · rw [← hK]
      refine pts_of ?_
      match ifs, h4 with
      | [], h4 => exact h4
      | [i], h4 => exact (sE c m kk cnd X' _ G' (by rw [hs]; exact h4)).2
    · rw [← hK]
      exact (sE c m kk ke X' _ G' (by rw [hs]; exact h5)).1
    · rw [← hK]
      exact (sE c m kk ve X' _ G' (by rw [hs]; exact h6)).1
  | .tr e, X, e', G, h => b_tr (sE c m kk e X e' G (by simpa [mE] using h))
theorem sEs (c : Cfg) (m : MC) (kk : Nat) : ∀ (es : List E) (X : Cx) (es' : List Expr), Good m c kk X → mEs m X.env.scope es es' = true → PA X es' (LA X.K (evEs c es))
  | [], X, es', G, h => by
    cases es' with
    | nil => exact pa_nil'
    | cons _ _ => simp [mEs] at h
  | e :: es, X, es', G, h => by
    cases es' with
    | nil => simp [mEs] at h
    | cons e' es' =>
      rw [mEs, Bool.and_eq_true] at h
      exact pa_cons' (sE c m kk e X e' G h.1).1 (sEs c m kk es X es' G h.2) (star_of h.1)
end
end
end Cs

set_option Elab.async false
set_option linter.all false
set_option maxRecDepth 100000
namespace Cs
open PySem PySem.Spec PyProof.Rows L2
variable [Sct]

/-! ### statements against the own ones -/
def lineEq (a b : Pos) : Bool := a.line == b.line
/-- x = e: a comprehension on the same line into a local changes the road -/
def setOk (sc : Scope) (x : Str) (px : Pos) : Expr → Bool
  | .ListComp _ gens s p => (match sc.names.lookup x with | some .local => decide (gens.length = 1) && px.line == p.line && !(s.names.any fun (n, k) => n == x && (k == .local || k == .cell)) | _ => true)
  | .SetComp .. | .DictComp .. => false
  | _ => true
def notTup : Expr → Bool
  | .Tuple .. => false | _ => true
def notSlc : Expr → Bool
  | .Slice .. => false | _ => true
def noComp : Expr → Bool
  | .ListComp .. | .SetComp .. | .DictComp .. => false
  | _ => true
def parOk (px py : Pos) (a b : Expr) : Bool := py.line == px.line && !([a, b].all (foldedForSure 8)) && !([a, b].all (constantsAlone 8))
mutual
def mS (m : MC) (sc : Scope) : S → Stmt → Bool
  | .set i e, .Assign [.Name x px] e' _ => mName m.N i x && isLoc sc x && mE m sc e e' && setOk sc x px e'
  | .setT is e, .Assign [.Tuple es k p] e' _ => mTg m.N sc (.t is) (.Tuple es k p) && mE m sc e e' && noComp e' && notTup e'
  | .par i j a b, .Assign [.Tuple [.Name x px, .Name y py] _ _] (.Tuple [a', b'] _ _) _ => parOk px py a' b' && mName m.N i x && mName m.N j y && decide (i ≠ j) && (match sc.names.lookup x with | some .local => true | _ => false) && (match sc.names.lookup y with | some .local => true | _ => false) && decide (x ≠ y) &&
      mE m sc a a' && mE m sc b b'
  | .setI o k v, .Assign [.Subscript o' k' _] v' _ => mE m sc o o' && mE m sc k k' && mE m sc v v' && noComp v' && notSlc k'
  | .ex e, .Expr e' _ => mE m sc e e' && noComp e'
  | .ret e, .Return (some e') _ => mE m sc e e'
  | .iff t a b, .If t' a' b' _ => mE m sc t t' && mSs m sc a a' && mSs m sc b b'
  | .whl t b, .While t' b' [] _ => mE m sc t t' && mSs m sc b b'
  | .for_ t k es b, .For tg it b' [] _ => mTg m.N sc t tg && (match itX tg sc k it with | some es' => mEs m sc es es' | none => false) && mSs m sc b b'
  | .brk, .Break _ => true
  | .cont, .Continue _ => true
  | .pass, .Pass _ => true
  | _, _ => false
termination_by structural s _ => s
def mSs (m : MC) (sc : Scope) : List S → List Stmt → Bool
  | [], [] => true
  | s :: ss, s' :: ss' => mS m sc s s' && mSs m sc ss ss'
  | _, _ => false
termination_by structural ss _ => ss
end

/-! ### their readings -/
def FlP (K : PySem.W.Frag) (H' : Hp) (ρ' : List Addr) (Dn : Ends) (n : Nat) : Fl → Prop
  | .nx env => ∀ σ', σ'.length = n → EnvR K H' ρ' env σ' → Dn.nx σ' H'
  | .rt d => ∀ v, Rp K H' ρ' d v → Dn.rt v H'
  | .bk env => ∀ σ', σ'.length = n → EnvR K H' ρ' env σ' → Dn.bk σ' H'
  | .ct env => ∀ σ', σ'.length = n → EnvR K H' ρ' env σ' → Dn.ct σ' H'
def LS (K : PySem.W.Frag) (f : X1) : TS := fun Dn σ H => ∃ ρ env S fl S', Sr K H ρ S ∧ EnvR K H ρ env σ ∧ f env S = some (fl, S') ∧ ∀ H' ρ', Mono H H' → ρ <+: ρ' → Sr K H' ρ' S' → FlP K H' ρ' Dn σ.length fl
section
variable {X : Cx} {m : MC} {c : Cfg} {kk : Nat}
theorem _root_.L2.PS.weakC {s : Stmt} {t t' : TS} (h : PS X s t) (w : ∀ D σ H, t' D σ H → t D σ H) : PS X s t' := ⟨fun pins s σ H D I q => h.run pins s σ H D I (w _ _ _ q)⟩
theorem _root_.L2.PSs.weakC {s : List Stmt} {t t' : TS} (h : PSs X s t) (w : ∀ D σ H, t' D σ H → t D σ H) : PSs X s t' := ⟨fun pins s σ H D I q => h.run pins s σ H D I (w _ _ _ q)⟩
structure GoodS (m : MC) (c : Cfg) (kk : Nat) (X : Cx) : Prop where
  g : Good m c kk X
  fn : ∀ x, X.fn x = true
  own : PassesOwn (model X.prog X.w) X.A X.env X.xe
  kind : X.env.scope.kind = .function
theorem GoodS.fc (G : GoodS m c kk X) : FnC X X.env.scope := fun x h => ⟨isLoc_ok h, .inl (G.fn x)⟩

theorem tr_core {K : PySem.W.Frag} {e : E} {σ : L2.St} {H : Hp} {Q : VK} (q : LE K (evE c (.tr e)) σ H Q) : LE K (evE c e) σ H Q := by
  obtain ⟨ρ, env, S, d, S', hs, he, hf, hq⟩ := q
  rw [evE] at hf
  obtain ⟨x, S1, e1, hf⟩ := bnd_inv hf
  refine LE.mk hs he e1 fun H1 ρ1 v mm p s1 he1 r1 => ?_
  obtain ⟨ρ2, p2, s2, r2⟩ := fin_ok hs p s1 r1 hf
  exact hq H1 ρ2 v mm p2 s2 r2
theorem lc_any {sc : Scope} {elt : Expr} {gen : Comprehension} {scope : Scope} {p : Pos} : ∀ e : E, mE m sc e (.ListComp elt [gen] scope p) = true →
    ∃ t k es cnd e0, mE m sc (.lc t k es cnd e0) (.ListComp elt [gen] scope p) = true ∧ ∀ K σ H Q, LE K (evE c e) σ H Q → LE K (evE c (.lc t k es cnd e0)) σ H Q
  | .tr e, h => by
    rw [mE] at h
    obtain ⟨t, k, es, cnd, e0, h1, h2⟩ := lc_any e h
    exact ⟨t, k, es, cnd, e0, h1, fun K σ H Q q => h2 K σ H Q (tr_core q)⟩
  | .lc t k es cnd e0, h => ⟨t, k, es, cnd, e0, h, fun _ _ _ _ q => q⟩
  | .var _, h | .cn _, h | .glb _, h | .bin .., h | .neg _, h | .cmp .., h | .isN _, h | .notN _, h | .isB .., h | .isi .., h | .nt _, h | .and .., h | .or .., h | .ife .., h | .tup _, h | .lst _, h | .idx .., h | .slc .., h | .call .., h | .blt .., h | .mth .., h | .lc2 .., h => by simp [mE] at h
theorem lc_parts {t : Tg} {k : IK} {es : List E} {cnd e : E} {elt : Expr} {gens : List Comprehension} {scope : Scope} {p : Pos} (G : Good m c kk X) (h : mE m X.env.scope (.lc t k es cnd e) (.ListComp elt gens scope p) = true) :
    ∃ tg it ifs, gens = [⟨tg, it, ifs, 0⟩] ∧ PI X tg it (LI X.K k (evEs c es)) ∧ (∀ x, foldedSetIterable it X.env x = pure x) ∧ BlkOk X.N X.env.scope scope (t.slots.map fun i => (m.N.getD i default, i)) ∧
      (∀ (s : Shared) (H : Hp) (C : Addr) (cl : List (Str × Addr)) (fp : List Addr), PG (X.blk s H scope (compEnvC scope cl C X.env) fp) tg (LG X.K t)) ∧
      (∀ (s : Shared) (H : Hp) (C : Addr) (cl : List (Str × Addr)) (fp : List Addr), PTs (X.blk s H scope (compEnvC scope cl C X.env) fp) ifs (LTe X.K (evE c cnd))) ∧
      (∀ (s : Shared) (H : Hp) (C : Addr) (cl : List (Str × Addr)) (fp : List Addr), PE (X.blk s H scope (compEnvC scope cl C X.env) fp) elt (LE X.K (evE c e))) := by
  obtain ⟨elt', tg, it, ifs, scope', p', es', e1, h1, h2, h3, h4, h5, h6⟩ := mE_lc h
  cases e1
  have st := stars_of (env := X.env) h3
  refine ⟨tg, it, ifs, rfl, ?_, fold_of h2 h3, blkOk_by (by rw [G.N]; exact h6), fun s H C cl fp => pg_tg (X := X.blk s H scope (compEnvC scope cl C X.env) fp) G.N G.nd G.calm (blk_fn s H scope cl C fp) h1, fun s H C cl fp => ?_, fun s H C cl fp => ?_⟩
  · refine pi_of G h2 (sEs c m kk es X _ G h3) (fun e' z => ?_) st (fun a b z => ?_) (fun env S xs S' z => by rw [evEs_len z, mEs_len h3])
    · subst z
      match es, h3 with
      | [e0], h3 =>
        simp only [mEs, Bool.and_eq_true] at h3
        refine ⟨evE c e0, (sE c m kk e0 X _ G h3.1).1, fun env S => ?_⟩
        rw [evEs]
        rfl
      | [], h3 => simp [mEs] at h3
      | _ :: _ :: _, h3 => simp [mEs] at h3
    · subst z
      exact stars_tl st
  · cases ifs with
    | nil =>
      refine pts_weak pts_nil fun σ H Q q => ?_
      obtain ⟨ρ, env, S, k, S', hs, he, hf, hq⟩ := q
      have hc : cnd = .cn (.bl true) := isTrueE_ok h4
      subst hc
      have hf : tst (evE c (.cn (.bl true)) env S) = some (k, S') := hf
      rw [evE] at hf
      cases hf
      exact hq H ρ Mono.refl (List.prefix_refl _) hs
    | cons i r =>
      cases r with
      | nil => exact pts_one (sE c m kk cnd _ _ (G.blk s H scope cl C fp) h4).2
      | cons _ _ => cases h4
  · exact (sE c m kk e _ _ (G.blk s H scope cl C fp) h5).1
theorem own_slots {t : Tg} : (t.slots.map fun i => (m.N.getD i default, i)).map (·.2) = t.slots := by
  rw [List.map_map]
  show t.slots.map (fun i => i) = _
  simp
theorem set_w {te : TE} {i : Nat} {e : E} {Dn : Ends} {σ : L2.St} {H : Hp} {K : PySem.W.Frag} (w : ∀ Q, LE K (evE c e) σ H Q → te σ H Q) (q : LS K (exS c (.set i e)) Dn σ H) : tAsg te (gName i) Dn σ H := by
  obtain ⟨ρ, env, S, fl, S', hs, he, hf, hq⟩ := q
  rw [exS] at hf
  obtain ⟨x, S1, e1, hf⟩ := bnd_inv hf
  cases hf
  exact w _ (LE.mk hs he e1 fun H1 ρ1 v mm p s1 he1 r1 => hq H1 ρ1 mm p s1 (σ.set i (some v)) (by simp) (he1.set r1))
theorem sw_false {e' : Expr} {t : Option Expr} {l : Nat} {env : Env} (h : noComp e' = true) : swapsWith e' t l env = pure false := by
  cases e' <;> first | rfl | cases h
theorem s_set {i : Nat} {x : Str} {px p : Pos} {e : E} {e' : Expr} (G : GoodS m c kk X) (h1 : mName m.N i x = true) (h2 : isLoc X.env.scope x = true) (h3 : mE m X.env.scope e e' = true) (h4 : setOk X.env.scope x px e' = true) :
    PS X (.Assign [.Name x px] e' p) (LS X.K (exS c (.set i e))) := by
  have hN : X.N.Nodup := by rw [G.g.N]; exact G.g.nd
  have hi : X.N[i]? = some x := by rw [G.g.N]; exact mName_ok h1
  have hx := isLoc_ok h2
  have plain : swapsWith e' (some (.Name x px)) p.line X.env = pure false → PS X (.Assign [.Name x px] e' p) (LS X.K (exS c (.set i e))) := fun hs =>
    (ps_set hN hi hx (sE c m kk e X e' G.g h3).1 hs (.inl (G.fn x))).weakC fun D σ H q => set_w (fun Q q => q) q
  cases e' with
  | ListComp elt gens scope lp =>
    have conv : ∀ q : NameKind, X.env.scope.names.lookup x = some q → X.env.kindOf x = some q := fun q z => z
    rcases hx with hx | hx
    · -- into a local
      have h4' : (decide (gens.length = 1) && px.line == lp.line && !(scope.names.any fun (n, k) => n == x && (k == .local || k == .cell))) = true := by
        unfold setOk at h4
        simp only [hx] at h4
        exact h4
      rw [Bool.and_eq_true, Bool.and_eq_true, Bool.not_eq_true', decide_eq_true_eq] at h4'
      obtain ⟨⟨h40, h41⟩, h42⟩ := h4'
      match gens, h40 with
      | [gen], _ =>
      obtain ⟨t, k, es, cnd, e0, hm, hw⟩ := lc_any (c := c) e h3
      obtain ⟨tg, it, ifs, ge, q1, q2, q3, q4, q5, q6⟩ := lc_parts (c := c) G.g hm
      cases ge
      refine (ps_setLc (own := t.slots.map fun i => (m.N.getD i default, i)) G.g.calm hN hi hx (sw_true G.kind hx h41 h42) q1 q3 q4 q5 q6 q2).weakC fun D σ H q => ?_
      refine set_w (fun Q q => ?_) q
      rw [own_slots]
      exact lc_core' (hw _ _ _ _ q)
    · refine plain ?_
      unfold swapsWith
      simp only [conv _ hx]
      have : (some NameKind.cell == some NameKind.local) = false := by decide
      rw [this]
      simp
  | SetComp _ _ _ _ => cases h4
  | DictComp _ _ _ _ _ => cases h4
  | _ => exact plain rfl
theorem s_setT {is : List Nat} {tg : Expr} {p : Pos} {e : E} {e' : Expr} (G : GoodS m c kk X) (h1 : mTg m.N X.env.scope (.t is) tg = true) (h3 : mE m X.env.scope e e' = true) (h4 : noComp e' = true) (h5 : notTup e' = true) :
    PS X (.Assign [tg] e' p) (LS X.K (exS c (.setT is e))) := by
  cases tg with
  | Tuple es n tp =>
    have hw : swappedStores [.Tuple es n tp] e' X.env = pure none := by
      cases e' <;> first | rfl | (cases h5; done) | cases h4
    have hs : swapsWithSole [.Tuple es n tp] e' p.line X.env = pure false := sw_false (t := some (.Tuple es n tp)) (l := p.line) (env := X.env) h4
    refine (ps_asg (sE c m kk e X e' G.g h3).1 (pg_tg G.g.N G.g.nd G.g.calm G.fc h1) hs hw rfl).weakC fun D σ H q => ?_
    obtain ⟨ρ, env, S, fl, S', hs, he, hf, hq⟩ := q
    rw [exS] at hf
    obtain ⟨x, S1, e1, hf1⟩ := bnd_inv hf
    obtain ⟨env1, S2, e2, hf2⟩ := bnd_inv hf1
    cases hf2
    unfold lift at e2
    cases ea : asg (.t is) x env with
    | none => rw [ea] at e2; cases e2
    | some env2 =>
      rw [ea] at e2; cases e2
      exact LE.mk hs he e1 fun H1 ρ1 v mm p s1 he1 r1 => ⟨ρ1, env, x, env1, he1, r1, ea, fun σ' l e' _ => hq H1 ρ1 mm p s1 σ' l e'⟩
  | _ => simp [mTg] at h1
theorem s_par {i j : Nat} {x y : Str} {px py tp vp p : Pos} {n1 n2 : Nat} {a b : E} {a' b' : Expr} (G : GoodS m c kk X) (hpo : parOk px py a' b' = true) (h1 : mName m.N i x = true) (h2 : mName m.N j y = true) (hij : i ≠ j) (hx : X.env.scope.names.lookup x = some .local) (hy : X.env.scope.names.lookup y = some .local)
    (hxy : x ≠ y) (ha : mE m X.env.scope a a' = true) (hb : mE m X.env.scope b b' = true) : PS X (.Assign [.Tuple [.Name x px, .Name y py] n1 tp] (.Tuple [a', b'] n2 vp) p) (LS X.K (exS c (.par i j a b))) := by
  have hN : X.N.Nodup := by rw [G.g.N]; exact G.g.nd
  have hm : mEs m X.env.scope [a, b] [a', b'] = true := by simp [mEs, ha, hb]
  have hw : swappedStores [.Tuple [.Name x px, .Name y py] n1 tp] (.Tuple [a', b'] n2 vp) X.env = pure (some [x, y]) := by
    unfold parOk at hpo
    simp only [Bool.and_eq_true, Bool.not_eq_true'] at hpo
    obtain ⟨⟨l1, l2⟩, l3⟩ := hpo
    have k1 : X.env.kindOf x = some .local := hx
    have k2 : X.env.kindOf y = some .local := hy
    have kb : X.env.blockKind = .function := by unfold Env.blockKind; rw [G.kind]; rfl
    have l1' : py.line = px.line := eq_of_beq l1
    unfold swappedStores
    simp only [List.length_cons, List.length_nil, kb]
    refine (if_neg (by decide)).trans ?_
    refine (if_neg ?_).trans ?_
    · intro h
      rw [List.any_eq_true] at h
      obtain ⟨z, hz, hm⟩ := h
      cases z <;> first | (cases hm; done) | skip
      simp only [List.mem_cons, List.not_mem_nil, or_false] at hz
      rcases hz with rfl | rfl
      · rw [mE_star] at ha; cases ha
      · rw [mE_star] at hb; cases hb
    have dd : ([x, y].eraseDups) = [x, y] := by
      rw [List.eraseDups_cons]
      have : (List.filter (fun b => !b == x) [y]) = [y] := by simp [Ne.symm hxy]
      rw [this]
      simp [List.eraseDups_cons]
    simp [k1, k2, Expr.pos, l1', l2, l3, dd]
  refine (ps_par G.g.calm hN (by rw [G.g.N]; exact mName_ok h1) (by rw [G.g.N]; exact mName_ok h2) hij hx hy (sEs c m kk [a, b] X [a', b'] G.g hm) hw rfl).weakC fun D σ H q => ?_
  obtain ⟨ρ, env, S, fl, S', hs, he, hf, hq⟩ := q
  rw [exS] at hf
  obtain ⟨x1, S1, e1, hf1⟩ := bnd_inv hf
  obtain ⟨y1, S2, e2, hf2⟩ := bnd_inv hf1
  cases hf2
  refine LA.mk (x := [x1, y1]) (S1 := S') hs he (by rw [evEs, e1]; show bnd (evEs c [b] env S1) _ = _; rw [evEs, e2]; rfl) fun H1 ρ1 vs mm p s1 he1 r1 => ?_
  obtain ⟨v, r, rfl, q1, w, r', rfl, q2, rfl⟩ := r1
  exact ⟨v, w, rfl, hq H1 ρ1 mm p s1 _ (by simp) ((he1.set q1).set q2)⟩
def rSetA : V → V → V → Hp → (Hp → Prop) → Prop := fun o i v H Q => rSetL o i v H Q ∨ ∃ a H', o = .ref a ∧ DPut H a i v H' ∧ Q H'
theorem set_any (hu : X.A.units + 1 < cLine) : PSet X rSetA := by
  intro pins s σ H o i v ov iv u Q I ro ri rv h
  rcases h with h | ⟨a, H', rfl, g, q⟩
  · exact set_list pins s σ H o i v ov iv u Q I ro ri rv h
  · cases ro
    exact d_setItem hu I g ri rv fun s' I' => ⟨H', I', q⟩
theorem s_setI {o k v : E} {o' k' v' : Expr} {tp p : Pos} (G : GoodS m c kk X) (h1 : mE m X.env.scope o o' = true) (h2 : mE m X.env.scope k k' = true) (h3 : mE m X.env.scope v v' = true) (h4 : noComp v' = true) (h5 : notSlc k' = true) :
    PS X (.Assign [.Subscript o' k' tp] v' p) (LS X.K (exS c (.setI o k v))) := by
  have hg := pg_sub (pos := tp) (sE c m kk o X o' G.g h1).1 (sE c m kk k X k' G.g h2).1 (set_any (X := X) (by have := G.g.room.un; omega)) (by
    intro u
    cases k' <;> first | rfl | cases h5)
  have hw : swappedStores [.Subscript o' k' tp] v' X.env = pure none := by
    cases v' <;> first | rfl | cases h4
  have hs : swapsWithSole [.Subscript o' k' tp] v' p.line X.env = pure false := sw_false (t := some (.Subscript o' k' tp)) (l := p.line) (env := X.env) h4
  refine (ps_asg (sE c m kk v X v' G.g h3).1 hg hs hw rfl).weakC fun D σ H q => ?_
  obtain ⟨ρ, env, S, fl, S', hs, he, hf, hq⟩ := q
  rw [exS] at hf
  obtain ⟨z, S1, e1, hf1⟩ := bnd_inv hf
  obtain ⟨x, S2, e2, hf2⟩ := bnd_inv hf1
  obtain ⟨y, S3, e3, hf3⟩ := bnd_inv hf2
  obtain ⟨_, S4, e4, hf4⟩ := bnd_inv hf3
  cases hf4
  refine LE.mk hs he e1 fun H1 ρ1 v mm p s1 he1 r1 => ?_
  refine LE.mk s1 he1 e2 fun H2 ρ2 w m2 p2 s2 he2 r2 => ?_
  refine LE.mk s2 he2 e3 fun H3 ρ3 u m3 p3 s3 he3 r3 => ?_
  have rz : Rp X.K H3 ρ3 z v := (r1.mono m2 p2 _ _).mono m3 p3 _ _
  have rx := r2.mono m3 p3 _ _
  cases x with
  | loc n =>
    simp only [setOp] at e4
    split at e4
    · rename_i kvs eg
      split at e4
      · rename_i key ek
        split at e4
        · rename_i hl
          cases e4
          obtain ⟨a, vs, rfl, ea, hv, kv, rv⟩ := s3.dict eg rx
          have := keyD_rp ek r3
          subst this
          obtain ⟨q1, q2⟩ := putD_rp (k := key) kv rv rz
          obtain ⟨s4, m4⟩ := s3.writeD (getK_so eg) ea q1 q2
          have hlen : vs.length < sizeLine := by
            have := congrArg List.length kv
            simp only [List.length_map] at this
            omega
          refine .inr ⟨a, _, rfl, DPut.k hv hlen, ?_⟩
          exact hq _ ρ3 (((mm.trans m2).trans m3).trans m4) ((p.trans p2).trans p3) s4 σ rfl (he3.mono m4 (List.prefix_refl _))
        · cases e4
      · cases e4
    · split at e4
      · rename_i kvs eg
        split at e4
        · rename_i key ek
          split at e4
          · rename_i hl
            cases e4
            obtain ⟨a, vs, rfl, ea, hv, kv, rv, md⟩ := s3.dictT (getT_so eg) rx
            obtain ⟨b, rfl, hb⟩ := keyT_rp md ek r3
            obtain ⟨q1, q2⟩ := putD_rp (k := key) kv rv rz
            obtain ⟨s4, m4⟩ := s3.writeE md (getT_so eg) ea q1 q2
            have hlen : vs.length < sizeLine := by
              have := congrArg List.length kv
              simp only [List.length_map] at this
              omega
            refine .inr ⟨a, _, rfl, DPut.t hv hb hlen, ?_⟩
            exact hq _ ρ3 (((mm.trans m2).trans m3).trans m4) ((p.trans p2).trans p3) s4 σ rfl (he3.mono m4 (List.prefix_refl _))
          · cases e4
        · cases e4
      split at e4
      · rename_i xs i eg
        split at e4
        · rename_i j ej
          cases e4
          obtain ⟨a, vs, rfl, ea, hv, rv⟩ := s3.lstM eg rx
          cases r3
          obtain ⟨s4, m4⟩ := s3.write (getM_so eg) ea (rv.set j rz)
          refine .inl ⟨a, vs, i, j, rfl, rfl, hv, by rw [← rv.length]; exact ej, ?_⟩
          exact hq _ ρ3 (((mm.trans m2).trans m3).trans m4) ((p.trans p2).trans p3) s4 σ rfl (he3.mono m4 (List.prefix_refl _))
        · cases e4
      · cases e4
  | _ => cases e4
theorem s_ex {e : E} {e' : Expr} {p : Pos} (G : GoodS m c kk X) (h : mE m X.env.scope e e' = true) (h4 : noComp e' = true) : PS X (.Expr e' p) (LS X.K (exS c (.ex e))) :=
  (ps_expr (sE c m kk e X e' G.g h).1 (sw_false h4)).weakC fun D σ H q => by
    obtain ⟨ρ, env, S, fl, S', hs, he, hf, hq⟩ := q
    rw [exS] at hf
    obtain ⟨z, S1, e1, hf1⟩ := bnd_inv hf
    cases hf1
    exact LE.mk hs he e1 fun H1 ρ1 v mm p s1 he1 r1 => hq H1 ρ1 mm p s1 σ rfl he1
theorem s_ret {e : E} {e' : Expr} {p : Pos} (G : GoodS m c kk X) (h : mE m X.env.scope e e' = true) : PS X (.Return (some e') p) (LS X.K (exS c (.ret e))) :=
  (ps_ret (sE c m kk e X e' G.g h).1).weakC fun D σ H q => by
    obtain ⟨ρ, env, S, fl, S', hs, he, hf, hq⟩ := q
    rw [exS] at hf
    obtain ⟨z, S1, e1, hf1⟩ := bnd_inv hf
    cases hf1
    exact LE.mk hs he e1 fun H1 ρ1 v mm p s1 he1 r1 => hq H1 ρ1 mm p s1 v r1
/-- a block's reading behind a state that has grown -/
theorem LS.mk' {K : PySem.W.Frag} {H H1 : Hp} {ρ ρ1 : List Addr} {S S' : Sto} {env : Ev} {σ : L2.St} {f : X1} {Dn : Ends} {fl : Fl} (s : Sr K H1 ρ1 S) (he : EnvR K H1 ρ1 env σ) (hf : f env S = some (fl, S')) (mm : Mono H H1) (p : ρ <+: ρ1)
    (hq : ∀ H' ρ', Mono H H' → ρ <+: ρ' → Sr K H' ρ' S' → FlP K H' ρ' Dn σ.length fl) : LS K f Dn σ H1 :=
  ⟨ρ1, env, S, fl, S', s, he, hf, fun H' ρ' m' p' s' => hq H' ρ' (mm.trans m') (p.trans p') s'⟩
theorem s_iff {t : E} {a b : List S} {t' : Expr} {a' b' : List Stmt} {p : Pos} (G : GoodS m c kk X) (h : mE m X.env.scope t t' = true) (ha : PSs X a' (LS X.K (exSs c a))) (hb : PSs X b' (LS X.K (exSs c b))) : PS X (.If t' a' b' p) (LS X.K (exS c (.iff t a b))) :=
  (ps_if (sE c m kk t X t' G.g h).2 ha hb).weakC fun D σ H q => by
    obtain ⟨ρ, env, S, fl, S', hs, he, hf, hq⟩ := q
    rw [exS] at hf
    obtain ⟨k, S1, e1, hf1⟩ := ifT_inv hf
    refine LT.mk hs he e1 fun H1 ρ1 mm p s1 he1 => ?_
    cases k with
    | true => exact LS.mk' s1 he1 hf1 mm p hq
    | false => exact LS.mk' s1 he1 hf1 mm p hq
theorem whN_step {cnd : Ev → Sto → Option (Bool × Sto)} {body : X1} {env : Ev} {S : Sto} {r : Fl × Sto} (h : whE cnd body env S = some r) : ∃ n, whN cnd body n env S = some r := by
  unfold whE at h
  split at h
  · exact ⟨_, h⟩
  · cases h
theorem s_whl {t : E} {b : List S} {t' : Expr} {b' : List Stmt} {p : Pos} (G : GoodS m c kk X) (h : mE m X.env.scope t t' = true) (hb : PSs X b' (LS X.K (exSs c b))) : PS X (.While t' b' [] p) (LS X.K (exS c (.whl t b))) :=
  (ps_while G.own (sE c m kk t X t' G.g h).2 hb).weakC fun D σ H q => by
    obtain ⟨ρ, env, S, fl, S', hs, he, hf, hq⟩ := q
    rw [exS] at hf
    obtain ⟨n, hn⟩ := whN_step hf
    refine ⟨fun n σ2 H2 => ∃ ρ2 env2 S2, σ2.length = σ.length ∧ Mono H H2 ∧ ρ <+: ρ2 ∧ Sr X.K H2 ρ2 S2 ∧ EnvR X.K H2 ρ2 env2 σ2 ∧ whN (fun env S => tst (evE c t env S)) (exSs c b) n env2 S2 = some (fl, S'),
      ⟨n, ρ, env, S, rfl, Mono.refl, List.prefix_refl _, hs, he, hn⟩, ?_⟩
    rintro n σ2 H2 ⟨ρ2, env2, S2, hl, m2, p2, s2, he2, hw⟩
    cases n with
    | zero => cases hw
    | succ n =>
      rw [whN] at hw
      obtain ⟨k, S3, e3, hw1⟩ := bnd_inv hw
      refine LT.mk s2 he2 e3 fun H3 ρ3 m3 p3 s3 he3 => ?_
      cases k with
      | false =>
        simp only [Bool.false_eq_true, if_false] at hw1 ⊢
        cases hw1
        exact hq H3 ρ3 (m2.trans m3) (p2.trans p3) s3 σ2 hl he3
      | true =>
        simp only [if_true] at hw1 ⊢
        obtain ⟨f, S4, e4, hw2⟩ := bnd_inv hw1
        refine ⟨fun σ5 H5 => ∃ ρ5 env5 S5, σ5.length = σ.length ∧ Mono H H5 ∧ ρ <+: ρ5 ∧ Sr X.K H5 ρ5 S5 ∧ EnvR X.K H5 ρ5 env5 σ5 ∧ whN (fun env S => tst (evE c t env S)) (exSs c b) n env5 S5 = some (fl, S'),
          fun σ' H' ⟨ρ5, env5, S5, a1, a2, a3, a4, a5, a6⟩ => ⟨n, Nat.lt_succ_self _, ρ5, env5, S5, a1, a2, a3, a4, a5, a6⟩, ?_⟩
        refine LS.mk' s3 he3 e4 Mono.refl (List.prefix_refl _) fun H5 ρ5 m5 p5 s5 => ?_
        cases f with
        | nx env5 => exact fun σ5 l5 he5 => ⟨ρ5, env5, S4, by rw [l5, hl], (m2.trans m3).trans m5, (p2.trans p3).trans p5, s5, he5, hw2⟩
        | ct env5 => exact fun σ5 l5 he5 => ⟨ρ5, env5, S4, by rw [l5, hl], (m2.trans m3).trans m5, (p2.trans p3).trans p5, s5, he5, hw2⟩
        | bk env5 =>
          cases hw2
          exact fun σ5 l5 he5 => hq H5 ρ5 ((m2.trans m3).trans m5) ((p2.trans p3).trans p5) s5 σ5 (by rw [l5, hl]) he5
        | rt d =>
          cases hw2
          exact fun v rv => hq H5 ρ5 ((m2.trans m3).trans m5) ((p2.trans p3).trans p5) s5 v rv
theorem s_for {t : Tg} {k : IK} {es : List E} {b : List S} {tg it : Expr} {es' : List Expr} {b' : List Stmt} {p : Pos} (G : GoodS m c kk X) (h1 : mTg m.N X.env.scope t tg = true) (h2 : itX tg X.env.scope k it = some es') (h3 : mEs m X.env.scope es es' = true) (hb : PSs X b' (LS X.K (exSs c b))) :
    PS X (.For tg it b' [] p) (LS X.K (exS c (.for_ t k es b))) := by
  have st := stars_of (env := X.env) h3
  have hi : PI X tg it (LI X.K k (evEs c es)) := by
    refine pi_of G.g h2 (sEs c m kk es X _ G.g h3) (fun e' z => ?_) st (fun a b z => ?_) (fun env S xs S' z => by rw [evEs_len z, mEs_len h3])
    · subst z
      match es, h3 with
      | [e0], h3 =>
        simp only [mEs, Bool.and_eq_true] at h3
        refine ⟨evE c e0, (sE c m kk e0 X _ G.g h3.1).1, fun env S => ?_⟩
        rw [evEs]
        rfl
      | [], h3 => simp [mEs] at h3
      | _ :: _ :: _, h3 => simp [mEs] at h3
    · subst z
      exact stars_tl st
  refine (ps_for G.own G.g.calm hi (pg_tg G.g.N G.g.nd G.g.calm G.fc h1) hb (fold_of h2 h3)).weakC fun D σ H q => ?_
  obtain ⟨ρ, env, S, fl, S', hs, he, hf, hq⟩ := q
  rw [exS] at hf
  obtain ⟨xs, S1, e1, hf1⟩ := bnd_inv hf
  obtain ⟨iw, S1', e2, hf2⟩ := bnd_inv hf1
  obtain ⟨e2, rfl⟩ : items k xs S1 = some iw ∧ S1' = S1 := by
    unfold lift at e2
    cases z : items k xs S1 with
    | none => rw [z] at e2; cases e2
    | some iw' => rw [z] at e2; cases e2; exact ⟨rfl, rfl⟩
  refine ⟨ρ, env, S, xs, S1', iw, hs, he, e1, e2, fun H1 ρ1 J mm p s1 he1 jok => ?_⟩
  refine ⟨fun i n σ2 H2 => n = iw.1.length - i ∧ i ≤ iw.1.length ∧ ∃ ρ2 env2 S2, σ2.length = σ.length ∧ Mono H1 H2 ∧ ρ1 <+: ρ2 ∧ Sr X.K H2 ρ2 S2 ∧ EnvR X.K H2 ρ2 env2 σ2 ∧ forL iw.2 t (exSs c b) (iw.1.drop i) env2 S2 = some (fl, S'),
    ⟨iw.1.length, by simp, Nat.zero_le _, ρ1, env, S1', rfl, Mono.refl, List.prefix_refl _, s1, he1, by rw [List.drop_zero]; exact hf2⟩, ?_⟩
  rintro i n σ2 H2 ⟨rfl, hi, ρ2, env2, S2, hl, m2, p2, s2, he2, hw⟩
  by_cases hlt : i < iw.1.length
  · rw [List.drop_eq_getElem_cons hlt] at hw
    unfold forL at hw
    split at hw
    · rename_i stl
      obtain ⟨_, j2⟩ := jok i H2 ρ2 S2 m2 p2 s2 stl
      obtain ⟨go, yl⟩ := j2 iw.1[i] (List.getElem?_eq_getElem hlt)
      split at hw
      · cases hw
      · rename_i env1 ha
        obtain ⟨f, S4, e4, hw2⟩ := bnd_inv hw
        refine .inr ⟨go, fun σ5 H5 => ∃ ρ5 env5 S5, σ5.length = σ.length ∧ Mono H1 H5 ∧ ρ1 <+: ρ5 ∧ Sr X.K H5 ρ5 S5 ∧ EnvR X.K H5 ρ5 env5 σ5 ∧ forL iw.2 t (exSs c b) (iw.1.drop (i + 1)) env5 S5 = some (fl, S'),
          fun σ' H' ⟨ρ5, env5, S5, a1, a2, a3, a4, a5, a6⟩ => ⟨iw.1.length - (i + 1), by omega, rfl, hlt, ρ5, env5, S5, a1, a2, a3, a4, a5, a6⟩, fun x H3 y => ?_⟩
        obtain ⟨s3, m3, r3⟩ := yl x H3 y
        refine ⟨ρ2, env2, _, env1, he2.mono m3 (List.prefix_refl _), r3, ha, fun σ' l e' _ => ?_⟩
        refine LS.mk' s3 e' e4 Mono.refl (List.prefix_refl _) fun H5 ρ5 m5 p5 s5 => ?_
        cases f with
        | nx env5 => exact fun σ5 l5 he5 => ⟨ρ5, env5, S4, by rw [l5, l, hl], (m2.trans m3).trans m5, p2.trans p5, s5, he5, hw2⟩
        | ct env5 => exact fun σ5 l5 he5 => ⟨ρ5, env5, S4, by rw [l5, l, hl], (m2.trans m3).trans m5, p2.trans p5, s5, he5, hw2⟩
        | bk env5 =>
          cases hw2
          exact fun σ5 l5 he5 => hq H5 ρ5 (((mm.trans m2).trans m3).trans m5) ((p.trans p2).trans p5) s5 σ5 (by rw [l5, l, hl]) he5
        | rt d =>
          cases hw2
          exact fun v rv => hq H5 ρ5 (((mm.trans m2).trans m3).trans m5) ((p.trans p2).trans p5) s5 v rv
    · cases hw
  · have ei : i = iw.1.length := by omega
    subst ei
    rw [List.drop_length] at hw
    unfold forL at hw
    split at hw
    · rename_i stl
      cases hw
      obtain ⟨j1, _⟩ := jok _ H2 ρ2 S' m2 p2 s2 stl
      exact .inl ⟨j1 rfl, hq H2 ρ2 (mm.trans m2) (p.trans p2) s2 σ2 hl he2⟩
    · cases hw
mutual
theorem sS (c : Cfg) (m : MC) (kk : Nat) (X : Cx) (G : GoodS m c kk X) : ∀ (s : S) (s' : Stmt), mS m X.env.scope s s' = true → PS X s' (LS X.K (exS c s))
  | .set i e, s', h => by
    unfold mS at h
    split at h
    all_goals first | (cases h; done) | (cases ‹S.set _ _ = _›; done) | skip
    cases ‹S.set _ _ = _›
    simp only [Bool.and_eq_true] at h
    exact s_set G h.1.1.1 h.1.1.2 h.1.2 h.2
  | .setT is e, s', h => by
    unfold mS at h
    split at h
    all_goals first | (cases h; done) | (cases ‹S.setT _ _ = _›; done) | skip
    cases ‹S.setT _ _ = _›
    simp only [Bool.and_eq_true] at h
    exact s_setT G h.1.1.1 h.1.1.2 h.1.2 h.2
  | .par i j a b, s', h => by
    unfold mS at h
    split at h
    all_goals first | (cases h; done) | (cases ‹S.par _ _ _ _ = _›; done) | skip
    cases ‹S.par _ _ _ _ = _›
    simp only [Bool.and_eq_true, decide_eq_true_eq] at h
    obtain ⟨⟨⟨⟨⟨⟨⟨⟨h0, h1⟩, h2⟩, h3⟩, h4⟩, h5⟩, h6⟩, h7⟩, h8⟩ := h
    refine s_par G h0 h1 h2 h3 ?_ ?_ h6 h7 h8
    · split at h4
      · assumption
      · cases h4
    · split at h5
      · assumption
      · cases h5
  | .setI o k v, s', h => by
    unfold mS at h
    split at h
    all_goals first | (cases h; done) | (cases ‹S.setI _ _ _ = _›; done) | skip
    cases ‹S.setI _ _ _ = _›
    simp only [Bool.and_eq_true] at h
    exact s_setI G h.1.1.1.1 h.1.1.1.2 h.1.1.2 h.1.2 h.2
  | .ex e, s', h => by
    unfold mS at h
    split at h
    all_goals first | (cases h; done) | (cases ‹S.ex _ = _›; done) | skip
    cases ‹S.ex _ = _›
    simp only [Bool.and_eq_true] at h
    exact s_ex G h.1 h.2
  | .ret e, s', h => by
    unfold mS at h
    split at h
    all_goals first | (cases h; done) | (cases ‹S.ret _ = _›; done) | skip
    cases ‹S.ret _ = _›
    exact s_ret G h
  | .iff t a b, s', h => by
    unfold mS at h
    split at h
    all_goals first | (cases h; done) | (cases ‹S.iff _ _ _ = _›; done) | skip
    cases ‹S.iff _ _ _ = _›
    simp only [Bool.and_eq_true] at h
    exact s_iff G h.1.1 (sSs c m kk X G a _ h.1.2) (sSs c m kk X G b _ h.2)
  | .whl t b, s', h => by
    unfold mS at h
    split at h
    all_goals first | (cases h; done) | (cases ‹S.whl _ _ = _›; done) | skip
    cases ‹S.whl _ _ = _›
    simp only [Bool.and_eq_true] at h
    exact s_whl G h.1 (sSs c m kk X G b _ h.2)
  | .for_ t k es b, s', h => by
    unfold mS at h
    split at h
    all_goals first | (cases h; done) | (cases ‹S.for_ _ _ _ _ = _›; done) | skip
    cases ‹S.for_ _ _ _ _ = _›
    simp only [Bool.and_eq_true] at h
    obtain ⟨⟨h1, h2⟩, h3⟩ := h
    split at h2
    · rename_i es' hx
      exact s_for G h1 hx h2 (sSs c m kk X G b _ h3)
    · cases h2
  | .brk, s', h => by
    unfold mS at h
    split at h
    all_goals first | (cases h; done) | (cases ‹S.brk = _›; done) | skip
    refine ps_break.weakC fun D σ H q => ?_
    obtain ⟨ρ, env, S, fl, S', hs, he, hf, hq⟩ := q
    rw [exS] at hf; cases hf
    exact hq H ρ Mono.refl (List.prefix_refl _) hs σ rfl he
  | .cont, s', h => by
    unfold mS at h
    split at h
    all_goals first | (cases h; done) | (cases ‹S.cont = _›; done) | skip
    refine ps_continue.weakC fun D σ H q => ?_
    obtain ⟨ρ, env, S, fl, S', hs, he, hf, hq⟩ := q
    rw [exS] at hf; cases hf
    exact hq H ρ Mono.refl (List.prefix_refl _) hs σ rfl he
  | .pass, s', h => by
    unfold mS at h
    split at h
    all_goals first | (cases h; done) | (cases ‹S.pass = _›; done) | skip
    refine ps_pass.weakC fun D σ H q => ?_
    obtain ⟨ρ, env, S, fl, S', hs, he, hf, hq⟩ := q
    rw [exS] at hf; cases hf
    exact hq H ρ Mono.refl (List.prefix_refl _) hs σ rfl he
theorem sSs (c : Cfg) (m : MC) (kk : Nat) (X : Cx) (G : GoodS m c kk X) : ∀ (ss : List S) (ss' : List Stmt), mSs m X.env.scope ss ss' = true → PSs X ss' (LS X.K (exSs c ss))
  | [], [], _ => pss_nil.weakC fun D σ H q => by
    obtain ⟨ρ, env, S, fl, S', hs, he, hf, hq⟩ := q
    rw [exSs] at hf; cases hf
    exact hq H ρ Mono.refl (List.prefix_refl _) hs σ rfl he
  | [], _ :: _, h => by simp [mSs] at h
  | _ :: _, [], h => by simp [mSs] at h
  | s :: ss, s' :: ss', h => by
    rw [mSs, Bool.and_eq_true] at h
    refine (pss_cons (sS c m kk X G s s' h.1) (sSs c m kk X G ss ss' h.2)).weakC fun D σ H q => ?_
    obtain ⟨ρ, env, S, fl, S', hs, he, hf, hq⟩ := q
    rw [exSs] at hf
    obtain ⟨f, S1, e1, hf1⟩ := bnd_inv hf
    refine LS.mk' hs he e1 Mono.refl (List.prefix_refl _) fun H1 ρ1 m1 p1 s1 => ?_
    cases f with
    | nx env1 =>
      intro σ1 l1 he1
      exact LS.mk' s1 he1 hf1 m1 p1 (by rw [l1]; exact hq)
    | rt d => cases hf1; exact hq H1 ρ1 m1 p1 s1
    | bk e => cases hf1; exact hq H1 ρ1 m1 p1 s1
    | ct e => cases hf1; exact hq H1 ρ1 m1 p1 s1
end
end
end Cs

set_option Elab.async false
set_option linter.all false
set_option maxRecDepth 100000
namespace Cs
open PySem PySem.Spec PyProof.Rows L2
variable [Sct]

/-! ### the defs of a text -/
structure Entry where
  f : String
  st : Stmt
  N : List Str
  ps : List Str
  d : FDef
/-- the text's defs say what the own ones say -/
structure Entry.Ok (fs gs ds : List String) (e : Entry) : Prop where
  sc : FnScope e.N e.ps (defScope e.st)
  ms : mSs ⟨e.N, fs, gs, ds⟩ (defScope e.st) e.d.body (defBody e.st) = true
  np : e.d.np = e.ps.length
  nl : e.d.nl = e.N.length
/-- .. and stand behind the top -/
def Entry.At (K : PySem.W.Frag) (mg : Str → Option Value) (e : Entry) : Prop := ∃ a fd, mg (Str.ofString e.f) = some (.ref a) ∧ Fun K (Str.ofString e.f) (Str.ofString e.f) e.st a fd ∧ Binds K fd e.ps []
/-- the names that are told, and what they stand for -/
structure Top (w : World) (K : PySem.W.Frag) (mg : Str → Option Value) (T : List Entry) (gs ds : List String) (G : String → Option D) (gcd : Bool) : Prop where
  at_ : ∀ e ∈ T, e.At K mg
  gl : ∀ g ∈ gs, ∃ u v d, mg (Str.ofString g) = some u ∧ RelV v u ∧ G g = some d ∧ ∀ H ρ, Rp K H ρ d v
  bt : ∀ f ∈ bltAll, mg (Str.ofString f) = none
  gd : ∀ g ∈ ds, ∃ d es n tb, mg (Str.ofString g) = some (.ref d) ∧ KDict K w d es n ∧ G g = some tb ∧ ∀ z : Str, ∃ r, PySem.W.nsIn K d z = some r ∧ (tabAt tb z).isSome = r.isSome ∧ ∀ v, tabAt tb z = some v → ∃ u vv, r = some u ∧ RelV vv u ∧ ∀ H ρ, Rp K H ρ v vv
  gc : gcd = true → mg (Str.ofString "gcd") = some (.builtin "math.gcd")
def spF (K : PySem.W.Frag) (n : Nat) (C : List D → Sto → Option (D × Sto)) : List V → Hp → VK → Prop := fun vs H Q => vs.length = n ∧ LC K C vs H Q
theorem start_ok {K : PySem.W.Frag} {H : Hp} {ρ : List Addr} {fd : FDef} {N : List Str} {ds : List D} {vs : List V} (r : RpL K H ρ ds vs) (hl : ds.length = fd.np) (hn : fd.nl = N.length) : EnvR K H ρ (start' fd ds) (L2.start N vs) := by
  unfold start' L2.start
  refine ⟨by simp [r.length, ← hl, hn], fun i d e => ?_⟩
  by_cases hi : i < ds.length
  · rw [List.getElem?_append_left (by simpa using hi), List.getElem?_map] at e
    cases q : ds[i]? with
    | none => rw [q] at e; cases e
    | some d' =>
      rw [q] at e
      cases e
      obtain ⟨v, ev, rv⟩ := r.get q
      refine ⟨v, ?_, rv⟩
      rw [List.getElem?_append_left (by simpa [← r.length] using hi), List.getElem?_map, ev]; rfl
  · rw [List.getElem?_append_right (by simpa using hi)] at e
    have := List.mem_of_getElem? e
    simp at this
theorem entry_ok {P : Program} {w : World} {K : PySem.W.Frag} {mg : Str → Option Value} {base : Heap} {T : List Entry} {gs ds : List String} {G : String → Option D} {gcd : Bool} (tp : Top w K mg T gs ds G gcd)
    (Γ : String → Option FDef) (fs : List String) (hfs : ∀ f ∈ fs, (∃ e ∈ T, e.f = f) ∨ (f = "gcd" ∧ gcd = true)) (hT : ∀ e ∈ T, e.Ok fs gs ds ∧ e.f ≠ "gcd" ∧ Γ e.f = some e.d) :
    ∀ (k : Nat), ∀ e ∈ T, ∃ a fd, mg (Str.ofString e.f) = some (.ref a) ∧ Fun K (Str.ofString e.f) (Str.ofString e.f) e.st a fd ∧ Binds K fd e.ps [] ∧ FnG P w K mg base k a fd e.ps (spF K e.ps.length (callF Γ G k e.f)) := by
  intro k
  induction k with
  | zero =>
    intro e he
    obtain ⟨a, fd, h1, h2, h3⟩ := tp.at_ e he
    refine ⟨a, fd, h1, h2, h3, ⟨fun vs H Q h => h.1, fun A outer s H args us vs Q hg hr e0 hb r h => ?_⟩⟩
    obtain ⟨_, ρ, S, ds, d, S', hs, rr, hf, hq⟩ := h
    rw [callF, if_neg (hT e he).2.1] at hf
    cases hf
  | succ k ih =>
    intro e he
    obtain ⟨a, fd, h1, h2, h3⟩ := tp.at_ e he
    obtain ⟨ok, ng, tb⟩ := hT e he
    refine ⟨a, fd, h1, h2, h3, ?_⟩
    have mo : Mo P w K mg base ⟨callF Γ G k, G⟩ k ⟨e.N, fs, gs, ds⟩ := by
      refine ⟨fun f hf => ?_, tp.gl, tp.bt, tp.gd⟩
      rcases hfs f hf with ⟨e', he', rfl⟩ | ⟨rfl, hg⟩
      · have tb' := (hT e' he').2.2
        obtain ⟨a', fd', q1, q2, q3, q4⟩ := ih e' he'
        refine .inl ⟨a', fd', e'.ps, _, q1, q2.kp, q3, q4, fun vs H Q h => ⟨?_, h⟩⟩
        obtain ⟨ρ, S, ds, d, S', hs, rr, hf, hq⟩ := h
        have hf : callF Γ G k e'.f ds S = some (d, S') := hf
        cases k with
        | zero => rw [callF, if_neg (hT e' he').2.1] at hf; cases hf
        | succ k =>
          rw [callF, if_neg (hT e' he').2.1, tb'] at hf
          simp only [runF] at hf
          split at hf
          · rename_i hl
            rw [← rr.length, hl, (hT e' he').1.np]
          · cases hf
      · refine .inr ⟨rfl, tp.gc hg, ?_⟩
        funext vs S
        show callF Γ G k "gcd" vs S = bGcd vs S
        cases k <;> rw [callF, if_pos rfl]
    refine fnG_of h2 ok.sc (fun vs H Q h => h.1) fun cdv A outer s H vs Q hgd hr h => ?_
    obtain ⟨hlen, ρ, S, dvs, d, S', hs, rr, hf, hq⟩ := h
    have gs' : GoodS ⟨e.N, fs, gs, ds⟩ ⟨callF Γ G k, G⟩ k (cxOf CX0 P w K mg base e.N (Str.ofString e.f) (defScope e.st) a cdv A outer s H E0).nox :=
      ⟨⟨rfl, ok.sc.nd, rfl, hr, hgd, mo⟩, fun _ => rfl, PassesOwn.never, ok.sc.kind⟩
    refine ⟨LS K (exSs ⟨callF Γ G k, G⟩ e.d.body), sSs ⟨callF Γ G k, G⟩ ⟨e.N, fs, gs, ds⟩ k _ gs' e.d.body (defBody e.st) ok.ms, ?_⟩
    rw [callF, if_neg ng, tb] at hf
    simp only [runF] at hf
    split at hf
    · rename_i hl
      obtain ⟨fl, S1, e1, hf1⟩ := bnd_inv hf
      refine ⟨ρ, start' e.d dvs, S, fl, S1, hs, start_ok rr hl ok.nl, e1, fun H' ρ' mm p s' => ?_⟩
      cases fl with
      | rt d1 =>
        intro v rv
        simp only at hf1
        split at hf1
        · cases hf1
          exact hq H' ρ' v mm p s' rv
        · obtain ⟨ρ2, p2, s2, r2⟩ := fin_ok hs p s' rv hf1
          exact hq H' ρ2 v mm p2 s2 r2
      | nx env1 =>
        intro σ' _ _
        simp only at hf1
        split at hf1
        · cases hf1
          exact hq H' ρ' .non mm p s' rfl
        · obtain ⟨ρ2, p2, s2, r2⟩ := fin_ok (v := V.non) hs p s' (show Rp K H' ρ' D.non V.non from rfl) hf1
          exact hq H' ρ2 .non mm p2 s2 r2
      | bk _ => cases hf1
      | ct _ => cases hf1
    · cases hf
/-- the law's own promise -/
theorem law_sp {K : PySem.W.Frag} {C : List D → Sto → Option (D × Sto)} {H : Hp} {a : Addr} {ns : List Int} (ho : Only H) (hS : SqL K H a (ns.map V.int)) (h : ∃ S', C [.loc 0] [.ro (ns.map D.int)] = some (.bl true, S')) :
    spF K 1 C [.ref a] H (fun v _ => v = .bl true) := by
  obtain ⟨S', h⟩ := h
  refine ⟨rfl, [a], [.ro (ns.map D.int)], [.loc 0], .bl true, S', ⟨rfl, fun n so e => ?_, fun n m so so' b e e' hm => ?_⟩, ⟨.ref a, [], rfl, ⟨a, rfl, rfl⟩, rfl⟩, h, fun H' ρ' v m p s r => r⟩
  · cases n with
    | zero =>
      cases e
      refine ⟨a, rfl, ns.map V.int, ?_, RpL.ints.mpr rfl⟩
      rcases hS with (q | q) | q
      · rcases ho a with z | ⟨o, xs, z⟩
        · rw [z] at q; cases q
        · rw [z] at q; cases q
      · exact .inl q
      · exact .inr q
    | succ n => simp at e
  · cases n with
    | zero => cases e; cases hm
    | succ n => simp at e
/-- the law's call: nothing but the script is told at its entry -/
theorem law_run {P : Program} {w : World} {K : PySem.W.Frag} {mg mb : Str → Option Value} {k : Nat} {fa a : Addr} {fd : FuncData} {x : Str} {sp : List V → Hp → VK → Prop} {s1 : Shared} {vs : List Value} {ns : List Int}
    (kin : K.In s1.heap) (gns : s1.heap.Ns mainGlobals mg) (bns : s1.heap.Ns builtinsNs mb) (bbt : ∀ x : Str, x ≠ "__name__" → mb x = bootBuiltins x) (nl : s1.heap.NoLimit) (gens : s1.gens = #[])
    (scr : s1.heap.get? a = some { cls := .type "list", data := .seq vs.toArray }) (areI : IntsAre vs ns) (short : ns.length ≤ sizeLine) (room : Room k callerA)
    (F : ∀ base : Heap, K.In base → base.Ns mainGlobals mg → FnG P w K mg base k fa fd [x] sp) (bind : ∀ (s : Shared) (u : Value), BindsTo s fd ⟨[u], []⟩ [(x, u)])
    (want : ∀ H : Hp, Only H → SqL K H a (ns.map V.int) → sp [.ref a] H (fun v _ => v = .bl true)) :
    codeAny (model P w) callerA (.call (.ref fa) ⟨[.ref a], []⟩) (fun r s' => r = .ok (.ret (.bool true)) ∧ OldK s1.heap s'.heap ∧ s'.os = s1.os ∧ AllBare s'.gens) s1 := by
  have rel : Vals (ns.map V.int) vs := vals_ints areI
  -- the abstract heap: the script alone, unless it is one of the text's own objects
  obtain ⟨H, only, sq, ok, near, away⟩ : ∃ H : Hp, Only H ∧ SqL K H a (ns.map V.int) ∧ HOk P w H s1.heap ∧ (∀ b, H b ≠ none → b = a) ∧ (H a ≠ none → K.lookup a = none) := by
    cases look : K.lookup a with
    | some o =>
      have z := kin a o look
      rw [scr] at z
      cases z
      refine ⟨fun _ => none, fun _ => .inl rfl, .inr ⟨_, vs.toArray, _, look, rfl, rfl, rfl, ?_, by simpa using rel⟩, (fun b u z => by cases z), fun b z => absurd rfl z, fun z => absurd rfl z⟩
      rw [List.size_toArray, areI.length]
      exact short
    | none =>
      refine ⟨fun b => if b = a then some (.frz { cls := .type "list", data := .seq vs.toArray } (.lst (ns.map V.int))) else none, fun b => ?_, .inl (.inr ⟨_, if_pos rfl⟩), fun b u z => ?_, fun b z => ?_, fun _ => rfl⟩
      · by_cases q : b = a
        · exact .inr ⟨_, _, if_pos q⟩
        · exact .inl (if_neg q)
      · simp only at z
        split at z
        · rename_i q
          cases z
          subst q
          exact ⟨scr, by simpa using short, vs, _, rel, scr⟩
        · cases z
      · simp only at z
        split at z
        · assumption
        · exact absurd rfl z
  have free : ∀ {b : Addr} {o : Obj}, s1.heap.get? b = some o → (∀ xs n, o.data ≠ .seq xs n) → H b = none := by
    intro b o e nd
    cases q : H b with
    | none => rfl
    | some u =>
      have eb := near b (by rw [q]; simp)
      subst eb
      rw [scr] at e
      cases e
      exact absurd rfl (nd _ _)
  have keepN : ∀ {b : Addr} {m : Str → Option Value}, s1.heap.Ns b m → (hidT s1.heap H).Ns b m := by
    rintro b m ⟨o, es, ep, e, d, r⟩
    exact ⟨o, es, ep, hidT_get e (free e fun _ _ z => by rw [d] at z; cases z), d, r⟩
  have kin' : K.In (hidT s1.heap H) := by
    intro b o e
    refine hidT_get (kin b o e) ?_
    cases q : H b with
    | none => rfl
    | some u =>
      have eb := near b (by rw [q]; simp)
      subst eb
      rw [away (by rw [q]; simp)] at e
      cases e
  have e0 : Env0 P w K mg (hidT s1.heap H) callerA [] s1 H := by
    obtain ⟨mc, h1, h2⟩ := nl
    exact { frames := rfl, mod := ⟨kin', keepN gns, ⟨mb, keepN bns, bbt⟩, ⟨mc, keepN h1, h2⟩⟩, bs := fun b o z => of_hidT z, bsz := by rw [hidT_size]; exact Nat.le_refl _, funs := trivial, frf := (fun b hb => nomatch hb), hok := ok, bare := .of_eq gens }
  refine codeAny_mono ((F _ kin' (keepN gns)).go callerA [] s1 H ⟨[.ref a], []⟩ [.ref a] [.ref a] _ rfl room e0 (bind s1 _) (.cons rfl .nil) (want H only sq)) ?_
  rintro r s' ⟨u, rfl, v, H', os, bare, un, ok', ru, ev⟩
  have ev : v = .bl true := ev
  subst ev
  have eu : u = .bool true := ru
  subst eu
  refine ⟨rfl, OldK.of_keep fun b o e => ?_, os, bare⟩
  rcases only b with z | ⟨ob, xs, z⟩
  · exact un.keep b o e z (by intro hb; cases hb) (by intro hb; cases hb)
  · obtain ⟨g1, _⟩ := ok b _ z
    obtain ⟨g2, _⟩ := ok' b _ (un.frzs b ob _ z)
    rw [e] at g1
    cases g1
    exact g2
/-- the goal that the head leaves -/
theorem walkG {l : PySem.W.OpenLaw} {n k : Nat} {q : Program} {loose : List Str} {XP : (Str → Option Value) → Heap → Prop} {YP : World → Heap → Prop} {d : DefRec} {K : Params → PySem.W.Frag} {C : List D → Sto → Option (D × Sto)} {x : Str}
    (most : l.most = some n) (short : n ≤ sizeLine) (nodef : d.params.defaults = []) (room : Room k callerA) (kin : ∀ (w : World) (h : Heap), YP w h → (K w.params).In h)
    (F : ∀ (w : World) (mg : Str → Option Value) (fa : Addr) (h : Heap), (K w.params).In h → h.Ns mainGlobals mg → mg d.name = some (.ref fa) →
      ∃ fd : FuncData, (∀ (s : Shared) (u : Value), BindsTo s fd ⟨[u], []⟩ [(x, u)]) ∧ ∀ base : Heap, (K w.params).In base → base.Ns mainGlobals mg → FnG l.prog w (K w.params) mg base k fa fd [x] (spF (K w.params) 1 C))
    (law : ∀ ns : List Int, ns.length ≤ n → ∃ S', C [.loc 0] [.ro (ns.map D.int)] = some (.bl true, S')) :
    PySem.W.WalkO q loose XP YP l.row.toRowW d [] (fun f vs => PySem.call f vs) := by
  apply Att.attach_call most nodef
  intro w s0 s1 mg mb fa o pm cd doc a vs ns G Y ho hd hcd hmg hobj hints hlen hg
  obtain ⟨fd, hb, hF⟩ := F w mg fa _ (kin w _ Y) G.T.g hmg
  exact law_run (kin w _ Y) G.T.g G.T.b G.T.builtins G.T.nolimit hg hobj hints (Nat.le_trans hlen short) room hF hb fun H only sq => law_sp only sq (law ns hlen)
end Cs

set_option Elab.async false
set_option linter.all false
set_option maxRecDepth 100000
namespace K74
open PySem PySem.Spec PyProof.Rows L2 Cs
instance : Sct := ⟨.trk⟩
/-- inside(first, second): slots 0 first, 1 second -/
def d_inside : FDef where
  np := 2
  nl := 2
  keep := false
  body := [
    .iff (.or (.cmp .lt (.idx (.var 0) (.cn (.int 0))) (.idx (.var 1) (.cn (.int 0)))) (.cmp .lt (.idx (.var 0) (.cn (.int 1))) (.idx (.var 1) (.cn (.int 1))))) [.ret (.cn (.bl false))] [],
    .ret (.and (.cmp .le (.bin .add (.idx (.var 0) (.cn (.int 0))) (.idx (.var 0) (.cn (.int 2)))) (.bin .add (.idx (.var 1) (.cn (.int 0))) (.idx (.var 1) (.cn (.int 2))))) (.cmp .le (.bin .add (.idx (.var 0) (.cn (.int 1))) (.idx (.var 0) (.cn (.int 3)))) (.bin .add (.idx (.var 1) (.cn (.int 1))) (.idx (.var 1) (.cn (.int 3))))))]
/-- common(first, second): slots 0 first, 1 second, 2 left, 3 top, 4 right, 5 lower -/
def d_common : FDef where
  np := 2
  nl := 6
  keep := false
  body := [
    .set 2 (.blt "max" [(.idx (.var 0) (.cn (.int 0))), (.idx (.var 1) (.cn (.int 0)))]),
    .set 3 (.blt "max" [(.idx (.var 0) (.cn (.int 1))), (.idx (.var 1) (.cn (.int 1)))]),
    .set 4 (.blt "min" [(.bin .add (.idx (.var 0) (.cn (.int 0))) (.idx (.var 0) (.cn (.int 2)))), (.bin .add (.idx (.var 1) (.cn (.int 0))) (.idx (.var 1) (.cn (.int 2))))]),
    .set 5 (.blt "min" [(.bin .add (.idx (.var 0) (.cn (.int 1))) (.idx (.var 0) (.cn (.int 3)))), (.bin .add (.idx (.var 1) (.cn (.int 1))) (.idx (.var 1) (.cn (.int 3))))]),
    .iff (.or (.cmp .le (.var 4) (.var 2)) (.cmp .le (.var 5) (.var 3))) [.ret (.cn .non)] [],
    .ret (.tup [(.var 2), (.var 3), (.bin .sub (.var 4) (.var 2)), (.bin .sub (.var 5) (.var 3))])]
/-- overlap(first, second): slots 0 first, 1 second -/
def d_overlap : FDef where
  np := 2
  nl := 2
  keep := false
  body := [
    .ret (.notN (.call "common" [(.var 0), (.var 1)]))]
/-- chosen_rectangle(problem, choice): slots 0 problem, 1 choice -/
def d_chosen_rectangle : FDef where
  np := 2
  nl := 2
  keep := false
  body := [
    .ret (.idx (.idx (.idx (.var 0) (.cn (.int 2))) (.idx (.var 1) (.cn (.int 0)))) (.idx (.var 1) (.cn (.int 1))))]
/-- other_choice(choice): slots 0 choice -/
def d_other_choice : FDef where
  np := 1
  nl := 1
  keep := false
  body := [
    .ret (.tup [(.idx (.var 0) (.cn (.int 0))), (.bin .sub (.cn (.int 1)) (.idx (.var 0) (.cn (.int 1))))])]
/-- is_free(problem, choice): slots 0 problem, 1 choice, 2 box, 3 obstacle -/
def d_is_free : FDef where
  np := 2
  nl := 4
  keep := false
  body := [
    .set 2 (.call "chosen_rectangle" [(.var 0), (.var 1)]),
    .iff (.nt (.call "inside" [(.var 2), (.idx (.var 0) (.cn (.int 0)))])) [.ret (.cn (.bl false))] [],
    .for_ (.v 3) .seq [(.idx (.var 0) (.cn (.int 1)))] [.iff (.call "overlap" [(.var 2), (.var 3)]) [.ret (.cn (.bl false))] []],
    .ret (.cn (.bl true))]
/-- forces(problem, choice, other): slots 0 problem, 1 choice, 2 other -/
def d_forces : FDef where
  np := 3
  nl := 3
  keep := false
  body := [
    .iff (.cmp .eq (.idx (.var 1) (.cn (.int 0))) (.idx (.var 2) (.cn (.int 0)))) [.ret (.and (.cmp .ne (.idx (.var 1) (.cn (.int 1))) (.idx (.var 2) (.cn (.int 1)))) (.nt (.call "is_free" [(.var 0), (.var 1)])))] [],
    .ret (.call "overlap" [(.call "chosen_rectangle" [(.var 0), (.var 1)]), (.call "chosen_rectangle" [(.var 0), (.call "other_choice" [(.var 2)])])])]
/-- links_of(problem, among): slots 0 problem, 1 among, 2 choices, 3 label, 4 side, 5 choice, 6 other -/
def d_links_of : FDef where
  np := 2
  nl := 7
  keep := true
  body := [
    .set 2 (.lc2 (.v 3) .seq [(.blt "sorted" [(.var 1)])] (.cn (.bl true)) (.v 4) .seq [(.tup [(.cn (.int 0)), (.cn (.int 1))])] (.cn (.bl true)) (.tup [(.var 3), (.var 4)])),
    .ret (.dc (.v 5) .seq [(.var 2)] (.cn (.bl true)) (.var 5) (.lc (.v 6) .seq [(.var 2)] (.call "forces" [(.var 0), (.var 5), (.var 6)]) (.var 6)))]
/-- first_path(links, members, start, goal): slots 0 links, 1 members, 2 start, 3 goal, 4 before, 5 queue, 6 at, 7 chain, 8 choice, 9 other -/
def d_first_path : FDef where
  np := 4
  nl := 10
  keep := false
  body := [
    .set 4 (.dict1 (.var 2) (.var 2)),
    .set 5 (.lst [(.var 2)]),
    .set 6 (.cn (.int 0)),
    .whl (.and (.cmp .lt (.var 6) (.blt "len" [(.var 5)])) (.cmp .notin (.var 3) (.var 4))) [.set 8 (.idx (.var 5) (.var 6)), .set 6 (.bin .add (.var 6) (.cn (.int 1))), .for_ (.v 9) .seq [(.idx (.var 0) (.var 8))] [.iff (.and (.cmp .notin (.var 9) (.var 4)) (.cmp .isin (.idx (.var 9) (.cn (.int 0))) (.var 1))) [.setI (.var 4) (.var 9) (.var 8), .ex (.mth "append" (.var 5) [(.var 9)])] []]],
    .iff (.cmp .notin (.var 3) (.var 4)) [.ret (.cn .non)] [],
    .set 7 (.lst [(.var 3)]),
    .whl (.cmp .ne (.idx (.var 7) (.neg (.cn (.int 1)))) (.var 2)) [.ex (.mth "append" (.var 7) [(.idx (.var 4) (.idx (.var 7) (.neg (.cn (.int 1)))))])],
    .ret (.trev (.var 7))]
/-- reason_over(links, members, label): slots 0 links, 1 members, 2 label, 3 first, 4 second -/
def d_reason_over : FDef where
  np := 3
  nl := 5
  keep := false
  body := [
    .set 3 (.call "first_path" [(.var 0), (.var 1), (.tup [(.var 2), (.cn (.int 0))]), (.tup [(.var 2), (.cn (.int 1))])]),
    .set 4 (.call "first_path" [(.var 0), (.var 1), (.tup [(.var 2), (.cn (.int 1))]), (.tup [(.var 2), (.cn (.int 0))])]),
    .iff (.or (.isN (.var 3)) (.isN (.var 4))) [.ret (.cn .non)] [],
    .ret (.tup [(.var 3), (.var 4)])]
/-- forced(links, members, choice): slots 0 links, 1 members, 2 choice, 3 found, 4 queue, 5 other -/
def d_forced : FDef where
  np := 3
  nl := 6
  keep := false
  body := [
    .set 3 (.dict1 (.var 2) (.cn (.bl true))),
    .set 4 (.lst [(.var 2)]),
    .whl (.var 4) [.for_ (.v 5) .seq [(.idx (.var 0) (.mth0 "pop" (.var 4)))] [.iff (.and (.cmp .notin (.var 5) (.var 3)) (.cmp .isin (.idx (.var 5) (.cn (.int 0))) (.var 1))) [.setI (.var 3) (.var 5) (.cn (.bl true)), .ex (.mth "append" (.var 4) [(.var 5)])] []]],
    .ret (.blt "list" [(.var 3)])]
/-- is_possible(choices): slots 0 choices, 1 choice -/
def d_is_possible : FDef where
  np := 1
  nl := 2
  keep := false
  body := [
    .for_ (.v 1) .seq [(.var 0)] [.iff (.cmp .isin (.call "other_choice" [(.var 1)]) (.var 0)) [.ret (.cn (.bl false))] []],
    .ret (.cn (.bl true))]
/-- sides_over(links, members): slots 0 links, 1 members, 2 sides, 3 label, 4 found, 5 choice -/
def d_sides_over : FDef where
  np := 2
  nl := 6
  keep := false
  body := [
    .set 2 .dnew,
    .for_ (.v 3) .seq [(.var 1)] [.iff (.cmp .isin (.var 3) (.var 2)) [.cont] [], .set 4 (.call "forced" [(.var 0), (.var 1), (.tup [(.var 3), (.cn (.int 0))])]), .iff (.nt (.call "is_possible" [(.var 4)])) [.set 4 (.call "forced" [(.var 0), (.var 1), (.tup [(.var 3), (.cn (.int 1))])]), .iff (.nt (.call "is_possible" [(.var 4)])) [.ret (.cn .non)] []] [], .for_ (.v 5) .seq [(.var 4)] [.setI (.var 2) (.idx (.var 5) (.cn (.int 0))) (.idx (.var 5) (.cn (.int 1)))]],
    .ret (.blt "tuple" [(.lc (.v 3) .seq [(.var 1)] (.cn (.bl true)) (.idx (.var 2) (.var 3)))])]
/-- kept_over(links, count): slots 0 links, 1 count, 2 kept, 3 label -/
def d_kept_over : FDef where
  np := 2
  nl := 4
  keep := false
  body := [
    .set 2 (.lst []),
    .for_ (.v 3) .rng [(.var 1)] [.iff (.tr (.isN (.call "reason_over" [(.var 0), (.bin .add (.var 2) (.lst [(.var 3)])), (.var 3)]))) [.ex (.mth "append" (.var 2) [(.var 3)])] []],
    .ret (.var 2)]
/-- place_labels(problem): slots 0 problem, 1 count, 2 links, 3 kept, 4 placement, 5 label, 6 members, 7 other -/
def d_place_labels : FDef where
  np := 1
  nl := 8
  keep := false
  body := [
    .set 1 (.blt "len" [(.idx (.var 0) (.cn (.int 2)))]),
    .set 2 (.call "links_of" [(.var 0), (.lrng (.var 1))]),
    .set 3 (.call "kept_over" [(.var 2), (.var 1)]),
    .set 4 (.dzip (.var 3) (.call "sides_over" [(.var 2), (.var 3)])),
    .for_ (.v 5) .rng [(.var 1)] [.iff (.cmp .notin (.var 5) (.var 4)) [.set 6 (.bin .add (.lc (.v 7) .seq [(.var 3)] (.cmp .lt (.var 7) (.var 5)) (.var 7)) (.lst [(.var 5)])), .setI (.var 4) (.var 5) (.call "reason_over" [(.var 2), (.var 6), (.var 5)])] []],
    .ret (.blt "tuple" [(.lc (.v 5) .rng [(.var 1)] (.cn (.bl true)) (.idx (.var 4) (.var 5)))])]
/-- _law_tape(_law_script): slots 0 _law_script, 1 _law_total, 2 _law_cell -/
def d_law_tape : FDef where
  np := 1
  nl := 3
  keep := true
  body := [
    .set 1 (.cn (.int 7)),
    .for_ (.v 2) .seq [(.var 0)] [.set 1 (.bin .mod (.blt "int" [(.bin .add (.bin .mul (.var 1) (.cn (.int 31))) (.blt "abs" [(.blt "int" [(.var 2)])]))]) (.cn (.int 2147483647)))],
    .ret (.lst [(.blt "list" [(.var 0)]), (.cn (.int 0)), (.cn (.int 0)), (.var 1)])]
/-- _law_draw(_law_tape_here, _law_many): slots 0 _law_tape_here, 1 _law_many, 2 _law_number, 3 _law_place -/
def d_law_draw : FDef where
  np := 2
  nl := 4
  keep := false
  body := [
    .iff (.cmp .eq (.idx (.var 0) (.cn (.int 2))) (.cn (.int 0))) [.set 3 (.idx (.var 0) (.cn (.int 1))), .set 2 (.cn (.int 0)), .iff (.cmp .lt (.var 3) (.blt "len" [(.idx (.var 0) (.cn (.int 0)))])) [.set 2 (.blt "abs" [(.blt "int" [(.idx (.idx (.var 0) (.cn (.int 0))) (.var 3))])])] [.setI (.var 0) (.cn (.int 3)) (.bin .mod (.blt "int" [(.bin .add (.bin .add (.bin .mul (.idx (.var 0) (.cn (.int 3))) (.cn (.int 48271))) (.var 3)) (.cn (.int 1)))]) (.cn (.int 2147483647))), .set 2 (.idx (.var 0) (.cn (.int 3)))], .setI (.var 0) (.cn (.int 1)) (.bin .add (.var 3) (.cn (.int 1))), .iff (.cmp .lt (.var 2) (.bin .pow (.cn (.int 10)) (.cn (.int 18)))) [.set 2 (.bin .mod (.blt "int" [(.bin .add (.bin .add (.bin .mul (.var 2) (.cn (.int 48271))) (.bin .mul (.var 3) (.cn (.int 69621)))) (.cn (.int 5)))]) (.cn (.int 2147483647))), .set 2 (.bin .mod (.blt "int" [(.bin .mul (.var 2) (.cn (.int 69621)))]) (.cn (.int 2147483629))), .ret (.bin .mod (.blt "int" [(.var 2)]) (.blt "max" [(.var 1), (.cn (.int 1))]))] [], .setI (.var 0) (.cn (.int 2)) (.var 2)] [],
    .set 2 (.idx (.var 0) (.cn (.int 2))),
    .setI (.var 0) (.cn (.int 2)) (.bin .fdiv (.var 2) (.blt "max" [(.var 1), (.cn (.int 2))])),
    .ret (.bin .mod (.blt "int" [(.var 2)]) (.blt "max" [(.var 1), (.cn (.int 1))]))]
/-- _law_inside(_law_one, _law_area): slots 0 _law_one, 1 _law_area -/
def d_law_inside : FDef where
  np := 2
  nl := 2
  keep := false
  body := [
    .iff (.or (.cmp .lt (.idx (.var 0) (.cn (.int 0))) (.idx (.var 1) (.cn (.int 0)))) (.cmp .lt (.idx (.var 0) (.cn (.int 1))) (.idx (.var 1) (.cn (.int 1))))) [.ret (.cn (.bl false))] [],
    .iff (.cmp .gt (.bin .add (.idx (.var 0) (.cn (.int 0))) (.idx (.var 0) (.cn (.int 2)))) (.bin .add (.idx (.var 1) (.cn (.int 0))) (.idx (.var 1) (.cn (.int 2))))) [.ret (.cn (.bl false))] [],
    .ret (.cmp .le (.bin .add (.idx (.var 0) (.cn (.int 1))) (.idx (.var 0) (.cn (.int 3)))) (.bin .add (.idx (.var 1) (.cn (.int 1))) (.idx (.var 1) (.cn (.int 3)))))]
/-- _law_overlap(_law_one, _law_other): slots 0 _law_one, 1 _law_other, 2 _law_left, 3 _law_top, 4 _law_right, 5 _law_low -/
def d_law_overlap : FDef where
  np := 2
  nl := 6
  keep := false
  body := [
    .set 2 (.blt "max" [(.idx (.var 0) (.cn (.int 0))), (.idx (.var 1) (.cn (.int 0)))]),
    .set 3 (.blt "max" [(.idx (.var 0) (.cn (.int 1))), (.idx (.var 1) (.cn (.int 1)))]),
    .set 4 (.blt "min" [(.bin .add (.idx (.var 0) (.cn (.int 0))) (.idx (.var 0) (.cn (.int 2)))), (.bin .add (.idx (.var 1) (.cn (.int 0))) (.idx (.var 1) (.cn (.int 2))))]),
    .set 5 (.blt "min" [(.bin .add (.idx (.var 0) (.cn (.int 1))) (.idx (.var 0) (.cn (.int 3)))), (.bin .add (.idx (.var 1) (.cn (.int 1))) (.idx (.var 1) (.cn (.int 3))))]),
    .ret (.and (.cmp .lt (.var 2) (.var 4)) (.cmp .lt (.var 3) (.var 5)))]
/-- _law_spot(_law_tape_here, _law_low, _law_size, _law_room): slots 0 _law_tape_here, 1 _law_low, 2 _law_size, 3 _law_room -/
def d_law_spot : FDef where
  np := 4
  nl := 4
  keep := false
  body := [
    .iff (.cmp .eq (.call "_law_draw" [(.var 0), (.cn (.int 6))]) (.cn (.int 0))) [.ret (.idx (.lst [(.bin .sub (.var 1) (.cn (.int 1))), (.bin .add (.bin .sub (.bin .add (.var 1) (.var 3)) (.var 2)) (.cn (.int 1)))]) (.call "_law_draw" [(.var 0), (.cn (.int 2))]))] [],
    .ret (.bin .add (.var 1) (.call "_law_draw" [(.var 0), (.blt "max" [(.bin .add (.bin .sub (.var 3) (.var 2)) (.cn (.int 1))), (.cn (.int 1))])]))]
/-- _law_rectangle(_law_tape_here, _law_area, _law_size): slots 0 _law_tape_here, 1 _law_area, 2 _law_size, 3 _law_left -/
def d_law_rectangle : FDef where
  np := 3
  nl := 4
  keep := false
  body := [
    .set 3 (.call "_law_spot" [(.var 0), (.idx (.var 1) (.cn (.int 0))), (.idx (.var 2) (.cn (.int 0))), (.idx (.var 1) (.cn (.int 2)))]),
    .ret (.tup [(.var 3), (.call "_law_spot" [(.var 0), (.idx (.var 1) (.cn (.int 1))), (.idx (.var 2) (.cn (.int 1))), (.idx (.var 1) (.cn (.int 3)))]), (.idx (.var 2) (.cn (.int 0))), (.idx (.var 2) (.cn (.int 1)))])]
/-- _law_label(_law_tape_here, _law_area, _law_form, _law_labels): slots 0 _law_tape_here, 1 _law_area, 2 _law_form, 3 _law_labels, 4 _law_size, 5 _law_first, 6 _law_move, 7 _law_left, 8 _law_high, 9 _law_low -/
def d_law_label : FDef where
  np := 4
  nl := 10
  keep := false
  body := [
    .set 4 (.tup [(.idx (.lst [(.cn (.int 10)), (.cn (.int 7)), (.cn (.int 12)), (.cn (.int 4)), (.cn (.int 1)), (.cn (.int 15)), (.cn (.int 0))]) (.call "_law_draw" [(.var 0), (.cn (.int 7))])), (.idx (.lst [(.cn (.int 7)), (.cn (.int 7)), (.cn (.int 5)), (.cn (.int 3)), (.cn (.int 8)), (.cn (.int 1)), (.cn (.int 0))]) (.call "_law_draw" [(.var 0), (.cn (.int 7))]))]),
    .iff (.cmp .eq (.var 2) (.cn (.int 0))) [.ret (.tup [(.call "_law_rectangle" [(.var 0), (.var 1), (.var 4)]), (.call "_law_rectangle" [(.var 0), (.var 1), (.var 4)])])] [],
    .iff (.cmp .eq (.var 2) (.cn (.int 1))) [.set 5 (.call "_law_rectangle" [(.var 0), (.var 1), (.tup [(.bin .add (.cn (.int 4)) (.idx (.var 4) (.cn (.int 0)))), (.cn (.int 7))])]), .set 6 (.idx (.lst [(.tup [(.cn (.int 0)), (.cn (.int 9))]), (.tup [(.cn (.int 0)), (.neg (.cn (.int 9)))]), (.tup [(.bin .add (.idx (.var 5) (.cn (.int 2))) (.cn (.int 2))), (.cn (.int 0))]), (.tup [(.bin .sub (.neg (.cn (.int 2))) (.idx (.var 5) (.cn (.int 2)))), (.cn (.int 0))])]) (.call "_law_draw" [(.var 0), (.cn (.int 4))])), .ret (.tup [(.var 5), (.tup [(.bin .add (.idx (.var 5) (.cn (.int 0))) (.idx (.var 6) (.cn (.int 0)))), (.bin .add (.idx (.var 5) (.cn (.int 1))) (.idx (.var 6) (.cn (.int 1)))), (.idx (.var 5) (.cn (.int 2))), (.cn (.int 7))])])] [],
    .iff (.cmp .eq (.var 2) (.cn (.int 2))) [.set 7 (.bin .add (.idx (.var 1) (.cn (.int 0))) (.bin .mul (.idx (.lst [(.cn (.int 4)), (.cn (.int 5)), (.cn (.int 3))]) (.call "_law_draw" [(.var 0), (.cn (.int 3))])) (.blt "len" [(.var 3)]))), .set 8 (.tup [(.var 7), (.idx (.var 1) (.cn (.int 1))), (.cn (.int 6)), (.cn (.int 5))]), .set 9 (.tup [(.var 7), (.bin .add (.idx (.var 1) (.cn (.int 1))) (.idx (.lst [(.cn (.int 5)), (.cn (.int 4)), (.cn (.int 6))]) (.call "_law_draw" [(.var 0), (.cn (.int 3))]))), (.cn (.int 6)), (.cn (.int 5))]), .ret (.idx (.lst [(.tup [(.var 8), (.var 9)]), (.tup [(.var 9), (.var 8)]), (.tup [(.var 8), (.var 9)]), (.tup [(.var 8), (.var 8)])]) (.call "_law_draw" [(.var 0), (.cn (.int 4))]))] [],
    .set 5 (.call "_law_rectangle" [(.var 0), (.var 1), (.var 4)]),
    .iff (.and (.var 3) (.cmp .gt (.call "_law_draw" [(.var 0), (.cn (.int 3))]) (.cn (.int 0)))) [.set 5 (.idx (.idx (.var 3) (.call "_law_draw" [(.var 0), (.blt "len" [(.var 3)])])) (.call "_law_draw" [(.var 0), (.cn (.int 2))]))] [],
    .ret (.idx (.lst [(.tup [(.var 5), (.var 5)]), (.tup [(.var 5), (.call "_law_rectangle" [(.var 0), (.var 1), (.var 4)])])]) (.blt "min" [(.call "_law_draw" [(.var 0), (.cn (.int 4))]), (.cn (.int 1))]))]
/-- _law_problem(_law_tape_here, _law_most): slots 0 _law_tape_here, 1 _law_most, 2 _law_size, 3 _law_area, 4 _law_form, 5 _law_labels, 6 _law_k, 7 _law_obstacles, 8 _law_one -/
def d_law_problem : FDef where
  np := 2
  nl := 9
  keep := false
  body := [
    .set 2 (.tup [(.idx (.lst [(.cn (.int 30)), (.cn (.int 24)), (.cn (.int 16)), (.cn (.int 40)), (.cn (.int 13)), (.cn (.int 0))]) (.call "_law_draw" [(.var 0), (.cn (.int 6))])), (.idx (.lst [(.cn (.int 20)), (.cn (.int 16)), (.cn (.int 14)), (.cn (.int 9)), (.cn (.int 30)), (.cn (.int 7))]) (.call "_law_draw" [(.var 0), (.cn (.int 6))]))]),
    .set 3 (.tup [(.bin .sub (.call "_law_draw" [(.var 0), (.cn (.int 40))]) (.cn (.int 20))), (.bin .sub (.call "_law_draw" [(.var 0), (.cn (.int 40))]) (.cn (.int 20))), (.idx (.var 2) (.cn (.int 0))), (.idx (.var 2) (.cn (.int 1)))]),
    .set 4 (.call "_law_draw" [(.var 0), (.cn (.int 4))]),
    .set 5 (.lst []),
    .for_ (.v 6) .rng [(.call "_law_draw" [(.var 0), (.bin .add (.var 1) (.cn (.int 1)))])] [.ex (.mth "append" (.var 5) [(.call "_law_label" [(.var 0), (.var 3), (.var 4), (.var 5)])])],
    .set 7 (.lst []),
    .for_ (.v 6) .rng [(.idx (.lst [(.cn (.int 0)), (.cn (.int 0)), (.cn (.int 1)), (.cn (.int 3))]) (.call "_law_draw" [(.var 0), (.cn (.int 4))]))] [.set 8 (.call "_law_rectangle" [(.var 0), (.var 3), (.tup [(.call "_law_draw" [(.var 0), (.cn (.int 7))]), (.call "_law_draw" [(.var 0), (.cn (.int 7))])])]), .iff (.and (.var 5) (.cmp .eq (.call "_law_draw" [(.var 0), (.cn (.int 4))]) (.cn (.int 0)))) [.set 8 (.idx (.idx (.var 5) (.call "_law_draw" [(.var 0), (.blt "len" [(.var 5)])])) (.call "_law_draw" [(.var 0), (.cn (.int 2))]))] [], .ex (.mth "append" (.var 7) [(.var 8)])],
    .ret (.tup [(.var 3), (.blt "tuple" [(.var 7)]), (.blt "tuple" [(.var 5)])])]
/-- _law_free(_law_problem_here, _law_one): slots 0 _law_problem_here, 1 _law_one, 2 _law_other -/
def d_law_free : FDef where
  np := 2
  nl := 3
  keep := false
  body := [
    .iff (.nt (.call "_law_inside" [(.var 1), (.idx (.var 0) (.cn (.int 0)))])) [.ret (.cn (.bl false))] [],
    .for_ (.v 2) .seq [(.idx (.var 0) (.cn (.int 1)))] [.iff (.call "_law_overlap" [(.var 1), (.var 2)]) [.ret (.cn (.bl false))] []],
    .ret (.cn (.bl true))]
/-- _law_renumbered(_law_placement, _law_at): slots 0 _law_placement, 1 _law_at, 2 _law_later, 3 _law_value, 4 _law_chains, 5 _law_chain, 6 _law_choice -/
def d_law_renumbered : FDef where
  np := 2
  nl := 7
  keep := false
  body := [
    .set 2 (.lst []),
    .for_ (.v 3) .seq [(.var 0)] [.iff (.isi (.var 3) "tuple") [.set 4 (.lst []), .for_ (.v 5) .seq [(.var 3)] [.ex (.mth "append" (.var 4) [(.blt "tuple" [(.lc (.v 6) .seq [(.var 5)] (.cn (.bl true)) (.tup [(.bin .add (.idx (.var 6) (.cn (.int 0))) (.blt "int" [(.cmp .ge (.idx (.var 6) (.cn (.int 0))) (.var 1))])), (.idx (.var 6) (.cn (.int 1)))]))])])], .set 3 (.blt "tuple" [(.var 4)])] [], .ex (.mth "append" (.var 2) [(.var 3)])],
    .ret (.var 2)]
/-- _law_sides(_law_placement): slots 0 _law_placement, 1 _law_place -/
def d_law_sides : FDef where
  np := 1
  nl := 2
  keep := false
  body := [
    .ret (.lc (.v 1) .seq [(.var 0)] (.cn (.bl true)) (.idx (.lst [(.var 1), (.cn .non)]) (.blt "int" [(.isi (.var 1) "tuple")])))]
/-- _law_alone(_law_problem_here, _law_at): slots 0 _law_problem_here, 1 _law_at, 2 _law_others -/
def d_law_alone : FDef where
  np := 2
  nl := 3
  keep := false
  body := [
    .set 2 (.bin .add (.slc (.idx (.var 0) (.cn (.int 1))) (.cn .non) (.var 1)) (.slc (.idx (.var 0) (.cn (.int 1))) (.bin .add (.var 1) (.cn (.int 1))) (.cn .non))),
    .ret (.call "_law_free" [(.tup [(.idx (.var 0) (.cn (.int 0))), (.var 2), (.tup [])]), (.idx (.idx (.var 0) (.cn (.int 1))) (.var 1))])]
/-- law(_law_script): slots 0 _law_script, 1 _law_tape_here, 2 _law_old, 3 _law_labels, 4 _law_problem_here, 5 _law_told, 6 _law_at, 7 _law_x, 8 _law_first, 9 _law_second, 10 _law_due, 11 _law_wider, 12 _law_again, 13 _law_k, 14 _law_block, 15 _law_others, 16 _law_turned -/
def d_law : FDef where
  np := 1
  nl := 17
  keep := false
  body := [
    .set 1 (.call "_law_tape" [(.var 0)]),
    .set 2 (.call "_law_problem" [(.var 1), (.cn (.int 7))]),
    .set 3 (.idx (.var 2) (.cn (.int 2))),
    .set 4 (.tup [(.tup [(.idx (.idx (.var 2) (.cn (.int 0))) (.cn (.int 0))), (.idx (.idx (.var 2) (.cn (.int 0))) (.cn (.int 1))), (.bin .add (.idx (.idx (.var 2) (.cn (.int 0))) (.cn (.int 2))) (.cn (.int 110))), (.idx (.idx (.var 2) (.cn (.int 0))) (.cn (.int 3)))]), (.idx (.var 2) (.cn (.int 1))), (.var 3)]),
    .set 5 (.call "place_labels" [(.var 4)]),
    .set 6 (.call "_law_draw" [(.var 1), (.bin .add (.blt "len" [(.var 3)]) (.cn (.int 1)))]),
    .set 7 (.bin .add (.bin .add (.bin .add (.idx (.idx (.var 2) (.cn (.int 0))) (.cn (.int 0))) (.idx (.idx (.var 2) (.cn (.int 0))) (.cn (.int 2)))) (.cn (.int 100))) (.call "_law_draw" [(.var 1), (.cn (.int 5))])),
    .set 8 (.tup [(.var 7), (.bin .add (.idx (.idx (.var 2) (.cn (.int 0))) (.cn (.int 1))) (.call "_law_draw" [(.var 1), (.bin .sub (.idx (.idx (.var 2) (.cn (.int 0))) (.cn (.int 3))) (.cn (.int 5)))])), (.call "_law_draw" [(.var 1), (.cn (.int 6))]), (.cn (.int 6))]),
    .set 9 (.call "_law_rectangle" [(.var 1), (.idx (.var 2) (.cn (.int 0))), (.tup [(.call "_law_draw" [(.var 1), (.cn (.int 12))]), (.call "_law_draw" [(.var 1), (.cn (.int 9))])])]),
    .iff (.and (.var 3) (.cmp .eq (.call "_law_draw" [(.var 1), (.cn (.int 2))]) (.cn (.int 0)))) [.set 9 (.idx (.idx (.var 3) (.call "_law_draw" [(.var 1), (.blt "len" [(.var 3)])])) (.call "_law_draw" [(.var 1), (.cn (.int 2))]))] [],
    .set 10 (.call "_law_renumbered" [(.var 5), (.var 6)]),
    .ex (.mth "insert" (.var 10) [(.var 6), (.cn (.int 0))]),
    .set 11 (.tup [(.idx (.var 4) (.cn (.int 0))), (.idx (.var 4) (.cn (.int 1))), (.bin .add (.bin .add (.slc (.var 3) (.cn .non) (.var 6)) (.tup [(.tup [(.var 8), (.var 9)])])) (.slc (.var 3) (.var 6) (.cn .non)))]),
    .iff (.cmp .ne (.blt "repr" [(.call "place_labels" [(.var 11)])]) (.blt "repr" [(.blt "tuple" [(.var 10)])])) [.ret (.cn (.bl false))] [],
    .set 12 (.bin .add (.trev (.idx (.var 4) (.cn (.int 1)))) (.slc (.idx (.var 4) (.cn (.int 1))) (.cn .non) (.cn (.int 1)))),
    .iff (.cmp .ne (.blt "repr" [(.call "place_labels" [(.tup [(.idx (.var 4) (.cn (.int 0))), (.var 12), (.var 3)])])]) (.blt "repr" [(.var 5)])) [.ret (.cn (.bl false))] [],
    .for_ (.v 13) .rng [(.blt "len" [(.idx (.var 4) (.cn (.int 1)))])] [.iff (.call "_law_alone" [(.var 4), (.var 13)]) [.set 14 (.idx (.idx (.var 4) (.cn (.int 1))) (.var 13)), .set 15 (.bin .add (.slc (.idx (.var 4) (.cn (.int 1))) (.cn .non) (.var 13)) (.slc (.idx (.var 4) (.cn (.int 1))) (.bin .add (.var 13) (.cn (.int 1))) (.cn .non))), .set 16 (.call "place_labels" [(.tup [(.idx (.var 4) (.cn (.int 0))), (.var 15), (.bin .add (.tup [(.tup [(.var 14), (.var 14)])]) (.var 3))])]), .ret (.cmp .eq (.blt "repr" [(.call "_law_sides" [(.var 16)])]) (.blt "repr" [(.bin .add (.lst [(.cn (.int 0))]) (.call "_law_sides" [(.var 5)]))]))] []],
    .ret (.cn (.bl true))]
def tab : String → Option FDef
  | "inside" => some d_inside
  | "common" => some d_common
  | "overlap" => some d_overlap
  | "chosen_rectangle" => some d_chosen_rectangle
  | "other_choice" => some d_other_choice
  | "is_free" => some d_is_free
  | "forces" => some d_forces
  | "links_of" => some d_links_of
  | "first_path" => some d_first_path
  | "reason_over" => some d_reason_over
  | "forced" => some d_forced
  | "is_possible" => some d_is_possible
  | "sides_over" => some d_sides_over
  | "kept_over" => some d_kept_over
  | "place_labels" => some d_place_labels
  | "_law_tape" => some d_law_tape
  | "_law_draw" => some d_law_draw
  | "_law_inside" => some d_law_inside
  | "_law_overlap" => some d_law_overlap
  | "_law_spot" => some d_law_spot
  | "_law_rectangle" => some d_law_rectangle
  | "_law_label" => some d_law_label
  | "_law_problem" => some d_law_problem
  | "_law_free" => some d_law_free
  | "_law_renumbered" => some d_law_renumbered
  | "_law_sides" => some d_law_sides
  | "_law_alone" => some d_law_alone
  | "law" => some d_law
  | _ => none
def topS (i : Nat) : Stmt := PySem.Challenge.pw_chartspec_k74_labels_in_the_clear_and_ob.main.body.getD i (.Pass ⟨0, 0, 0, 0⟩)
abbrev fs : List String := ["_law_alone", "_law_draw", "_law_free", "_law_inside", "_law_label", "_law_overlap", "_law_problem", "_law_rectangle", "_law_renumbered", "_law_sides", "_law_spot", "_law_tape", "chosen_rectangle", "common", "first_path", "forced", "forces", "inside", "is_free", "is_possible", "kept_over", "links_of", "other_choice", "overlap", "place_labels", "reason_over", "sides_over"]
abbrev gs : List String := []
abbrev ds : List String := []
abbrev ed_inside : Cs.Entry := ⟨"inside", topS 1, ["first", "second"], ["first", "second"], d_inside⟩
abbrev ed_common : Cs.Entry := ⟨"common", topS 2, ["first", "second", "left", "top", "right", "lower"], ["first", "second"], d_common⟩
abbrev ed_overlap : Cs.Entry := ⟨"overlap", topS 3, ["first", "second"], ["first", "second"], d_overlap⟩
abbrev ed_chosen_rectangle : Cs.Entry := ⟨"chosen_rectangle", topS 5, ["problem", "choice"], ["problem", "choice"], d_chosen_rectangle⟩
abbrev ed_other_choice : Cs.Entry := ⟨"other_choice", topS 6, ["choice"], ["choice"], d_other_choice⟩
abbrev ed_is_free : Cs.Entry := ⟨"is_free", topS 7, ["problem", "choice", "box", "obstacle"], ["problem", "choice"], d_is_free⟩
abbrev ed_forces : Cs.Entry := ⟨"forces", topS 8, ["problem", "choice", "other"], ["problem", "choice", "other"], d_forces⟩
abbrev ed_links_of : Cs.Entry := ⟨"links_of", topS 10, ["problem", "among", "choices", "label", "side", "choice", "other"], ["problem", "among"], d_links_of⟩
abbrev ed_first_path : Cs.Entry := ⟨"first_path", topS 11, ["links", "members", "start", "goal", "before", "queue", "at", "chain", "choice", "other"], ["links", "members", "start", "goal"], d_first_path⟩
abbrev ed_reason_over : Cs.Entry := ⟨"reason_over", topS 12, ["links", "members", "label", "first", "second"], ["links", "members", "label"], d_reason_over⟩
abbrev ed_forced : Cs.Entry := ⟨"forced", topS 14, ["links", "members", "choice", "found", "queue", "other"], ["links", "members", "choice"], d_forced⟩
abbrev ed_is_possible : Cs.Entry := ⟨"is_possible", topS 15, ["choices", "choice"], ["choices"], d_is_possible⟩
abbrev ed_sides_over : Cs.Entry := ⟨"sides_over", topS 16, ["links", "members", "sides", "label", "found", "choice"], ["links", "members"], d_sides_over⟩
abbrev ed_kept_over : Cs.Entry := ⟨"kept_over", topS 17, ["links", "count", "kept", "label"], ["links", "count"], d_kept_over⟩
abbrev ed_place_labels : Cs.Entry := ⟨"place_labels", topS 18, ["problem", "count", "links", "kept", "placement", "label", "members", "other"], ["problem"], d_place_labels⟩
abbrev ed_law_tape : Cs.Entry := ⟨"_law_tape", topS 20, ["_law_script", "_law_total", "_law_cell"], ["_law_script"], d_law_tape⟩
abbrev ed_law_draw : Cs.Entry := ⟨"_law_draw", topS 21, ["_law_tape_here", "_law_many", "_law_number", "_law_place"], ["_law_tape_here", "_law_many"], d_law_draw⟩
abbrev ed_law_inside : Cs.Entry := ⟨"_law_inside", topS 22, ["_law_one", "_law_area"], ["_law_one", "_law_area"], d_law_inside⟩
abbrev ed_law_overlap : Cs.Entry := ⟨"_law_overlap", topS 23, ["_law_one", "_law_other", "_law_left", "_law_top", "_law_right", "_law_low"], ["_law_one", "_law_other"], d_law_overlap⟩
abbrev ed_law_spot : Cs.Entry := ⟨"_law_spot", topS 24, ["_law_tape_here", "_law_low", "_law_size", "_law_room"], ["_law_tape_here", "_law_low", "_law_size", "_law_room"], d_law_spot⟩
abbrev ed_law_rectangle : Cs.Entry := ⟨"_law_rectangle", topS 25, ["_law_tape_here", "_law_area", "_law_size", "_law_left"], ["_law_tape_here", "_law_area", "_law_size"], d_law_rectangle⟩
abbrev ed_law_label : Cs.Entry := ⟨"_law_label", topS 26, ["_law_tape_here", "_law_area", "_law_form", "_law_labels", "_law_size", "_law_first", "_law_move", "_law_left", "_law_high", "_law_low"], ["_law_tape_here", "_law_area", "_law_form", "_law_labels"], d_law_label⟩
abbrev ed_law_problem : Cs.Entry := ⟨"_law_problem", topS 27, ["_law_tape_here", "_law_most", "_law_size", "_law_area", "_law_form", "_law_labels", "_law_k", "_law_obstacles", "_law_one"], ["_law_tape_here", "_law_most"], d_law_problem⟩
abbrev ed_law_free : Cs.Entry := ⟨"_law_free", topS 28, ["_law_problem_here", "_law_one", "_law_other"], ["_law_problem_here", "_law_one"], d_law_free⟩
abbrev ed_law_renumbered : Cs.Entry := ⟨"_law_renumbered", topS 29, ["_law_placement", "_law_at", "_law_later", "_law_value", "_law_chains", "_law_chain", "_law_choice"], ["_law_placement", "_law_at"], d_law_renumbered⟩
abbrev ed_law_sides : Cs.Entry := ⟨"_law_sides", topS 30, ["_law_placement", "_law_place"], ["_law_placement"], d_law_sides⟩
abbrev ed_law_alone : Cs.Entry := ⟨"_law_alone", topS 31, ["_law_problem_here", "_law_at", "_law_others"], ["_law_problem_here", "_law_at"], d_law_alone⟩
abbrev ed_law : Cs.Entry := ⟨"law", topS 32, ["_law_script", "_law_tape_here", "_law_old", "_law_labels", "_law_problem_here", "_law_told", "_law_at", "_law_x", "_law_first", "_law_second", "_law_due", "_law_wider", "_law_again", "_law_k", "_law_block", "_law_others", "_law_turned"], ["_law_script"], d_law⟩
theorem okd_inside : ed_inside.Ok fs gs ds := ⟨⟨rfl, rfl, rfl, by decide +kernel, rfl, by decide +kernel, by decide +kernel⟩, by decide +kernel, rfl, rfl⟩
theorem okd_common : ed_common.Ok fs gs ds := ⟨⟨rfl, rfl, rfl, by decide +kernel, rfl, by decide +kernel, by decide +kernel⟩, by decide +kernel, rfl, rfl⟩
theorem okd_overlap : ed_overlap.Ok fs gs ds := ⟨⟨rfl, rfl, rfl, by decide +kernel, rfl, by decide +kernel, by decide +kernel⟩, by decide +kernel, rfl, rfl⟩
theorem okd_chosen_rectangle : ed_chosen_rectangle.Ok fs gs ds := ⟨⟨rfl, rfl, rfl, by decide +kernel, rfl, by decide +kernel, by decide +kernel⟩, by decide +kernel, rfl, rfl⟩
theorem okd_other_choice : ed_other_choice.Ok fs gs ds := ⟨⟨rfl, rfl, rfl, by decide +kernel, rfl, by decide +kernel, by decide +kernel⟩, by decide +kernel, rfl, rfl⟩
theorem okd_is_free : ed_is_free.Ok fs gs ds := ⟨⟨rfl, rfl, rfl, by decide +kernel, rfl, by decide +kernel, by decide +kernel⟩, by decide +kernel, rfl, rfl⟩
theorem okd_forces : ed_forces.Ok fs gs ds := ⟨⟨rfl, rfl, rfl, by decide +kernel, rfl, by decide +kernel, by decide +kernel⟩, by decide +kernel, rfl, rfl⟩
theorem okd_links_of : ed_links_of.Ok fs gs ds := ⟨⟨rfl, rfl, rfl, by decide +kernel, rfl, by decide +kernel, by decide +kernel⟩, by decide +kernel, rfl, rfl⟩
theorem okd_first_path : ed_first_path.Ok fs gs ds := ⟨⟨rfl, rfl, rfl, by decide +kernel, rfl, by decide +kernel, by decide +kernel⟩, by decide +kernel, rfl, rfl⟩
theorem okd_reason_over : ed_reason_over.Ok fs gs ds := ⟨⟨rfl, rfl, rfl, by decide +kernel, rfl, by decide +kernel, by decide +kernel⟩, by decide +kernel, rfl, rfl⟩
theorem okd_forced : ed_forced.Ok fs gs ds := ⟨⟨rfl, rfl, rfl, by decide +kernel, rfl, by decide +kernel, by decide +kernel⟩, by decide +kernel, rfl, rfl⟩
theorem okd_is_possible : ed_is_possible.Ok fs gs ds := ⟨⟨rfl, rfl, rfl, by decide +kernel, rfl, by decide +kernel, by decide +kernel⟩, by decide +kernel, rfl, rfl⟩
theorem okd_sides_over : ed_sides_over.Ok fs gs ds := ⟨⟨rfl, rfl, rfl, by decide +kernel, rfl, by decide +kernel, by decide +kernel⟩, by decide +kernel, rfl, rfl⟩
theorem okd_kept_over : ed_kept_over.Ok fs gs ds := ⟨⟨rfl, rfl, rfl, by decide +kernel, rfl, by decide +kernel, by decide +kernel⟩, by decide +kernel, rfl, rfl⟩
theorem okd_place_labels : ed_place_labels.Ok fs gs ds := ⟨⟨rfl, rfl, rfl, by decide +kernel, rfl, by decide +kernel, by decide +kernel⟩, by decide +kernel, rfl, rfl⟩
theorem okd_law_tape : ed_law_tape.Ok fs gs ds := ⟨⟨rfl, rfl, rfl, by decide +kernel, rfl, by decide +kernel, by decide +kernel⟩, by decide +kernel, rfl, rfl⟩
theorem okd_law_draw : ed_law_draw.Ok fs gs ds := ⟨⟨rfl, rfl, rfl, by decide +kernel, rfl, by decide +kernel, by decide +kernel⟩, by decide +kernel, rfl, rfl⟩
theorem okd_law_inside : ed_law_inside.Ok fs gs ds := ⟨⟨rfl, rfl, rfl, by decide +kernel, rfl, by decide +kernel, by decide +kernel⟩, by decide +kernel, rfl, rfl⟩
theorem okd_law_overlap : ed_law_overlap.Ok fs gs ds := ⟨⟨rfl, rfl, rfl, by decide +kernel, rfl, by decide +kernel, by decide +kernel⟩, by decide +kernel, rfl, rfl⟩
theorem okd_law_spot : ed_law_spot.Ok fs gs ds := ⟨⟨rfl, rfl, rfl, by decide +kernel, rfl, by decide +kernel, by decide +kernel⟩, by decide +kernel, rfl, rfl⟩
theorem okd_law_rectangle : ed_law_rectangle.Ok fs gs ds := ⟨⟨rfl, rfl, rfl, by decide +kernel, rfl, by decide +kernel, by decide +kernel⟩, by decide +kernel, rfl, rfl⟩
theorem okd_law_label : ed_law_label.Ok fs gs ds := ⟨⟨rfl, rfl, rfl, by decide +kernel, rfl, by decide +kernel, by decide +kernel⟩, by decide +kernel, rfl, rfl⟩
theorem okd_law_problem : ed_law_problem.Ok fs gs ds := ⟨⟨rfl, rfl, rfl, by decide +kernel, rfl, by decide +kernel, by decide +kernel⟩, by decide +kernel, rfl, rfl⟩
theorem okd_law_free : ed_law_free.Ok fs gs ds := ⟨⟨rfl, rfl, rfl, by decide +kernel, rfl, by decide +kernel, by decide +kernel⟩, by decide +kernel, rfl, rfl⟩
theorem okd_law_renumbered : ed_law_renumbered.Ok fs gs ds := ⟨⟨rfl, rfl, rfl, by decide +kernel, rfl, by decide +kernel, by decide +kernel⟩, by decide +kernel, rfl, rfl⟩
theorem okd_law_sides : ed_law_sides.Ok fs gs ds := ⟨⟨rfl, rfl, rfl, by decide +kernel, rfl, by decide +kernel, by decide +kernel⟩, by decide +kernel, rfl, rfl⟩
theorem okd_law_alone : ed_law_alone.Ok fs gs ds := ⟨⟨rfl, rfl, rfl, by decide +kernel, rfl, by decide +kernel, by decide +kernel⟩, by decide +kernel, rfl, rfl⟩
theorem okd_law : ed_law.Ok fs gs ds := ⟨⟨rfl, rfl, rfl, by decide +kernel, rfl, by decide +kernel, by decide +kernel⟩, by decide +kernel, rfl, rfl⟩
abbrev ents : List Cs.Entry := [ed_inside, ed_common, ed_overlap, ed_chosen_rectangle, ed_other_choice, ed_is_free, ed_forces, ed_links_of, ed_first_path, ed_reason_over, ed_forced, ed_is_possible, ed_sides_over, ed_kept_over, ed_place_labels, ed_law_tape, ed_law_draw, ed_law_inside, ed_law_overlap, ed_law_spot, ed_law_rectangle, ed_law_label, ed_law_problem, ed_law_free, ed_law_renumbered, ed_law_sides, ed_law_alone, ed_law]
theorem entsOk : ∀ e ∈ ents, e.Ok fs gs ds ∧ e.f ≠ "gcd" ∧ tab e.f = some e.d := by
  intro e h
  simp only [List.mem_cons, List.not_mem_nil, or_false] at h
  rcases h with rfl | rfl | rfl | rfl | rfl | rfl | rfl | rfl | rfl | rfl | rfl | rfl | rfl | rfl | rfl | rfl | rfl | rfl | rfl | rfl | rfl | rfl | rfl | rfl | rfl | rfl | rfl | rfl
  · exact ⟨okd_inside, by decide, rfl⟩
  · exact ⟨okd_common, by decide, rfl⟩
  · exact ⟨okd_overlap, by decide, rfl⟩
  · exact ⟨okd_chosen_rectangle, by decide, rfl⟩
  · exact ⟨okd_other_choice, by decide, rfl⟩
  · exact ⟨okd_is_free, by decide, rfl⟩
  · exact ⟨okd_forces, by decide, rfl⟩
  · exact ⟨okd_links_of, by decide, rfl⟩
  · exact ⟨okd_first_path, by decide, rfl⟩
  · exact ⟨okd_reason_over, by decide, rfl⟩
  · exact ⟨okd_forced, by decide, rfl⟩
  · exact ⟨okd_is_possible, by decide, rfl⟩
  · exact ⟨okd_sides_over, by decide, rfl⟩
  · exact ⟨okd_kept_over, by decide, rfl⟩
  · exact ⟨okd_place_labels, by decide, rfl⟩
  · exact ⟨okd_law_tape, by decide, rfl⟩
  · exact ⟨okd_law_draw, by decide, rfl⟩
  · exact ⟨okd_law_inside, by decide, rfl⟩
  · exact ⟨okd_law_overlap, by decide, rfl⟩
  · exact ⟨okd_law_spot, by decide, rfl⟩
  · exact ⟨okd_law_rectangle, by decide, rfl⟩
  · exact ⟨okd_law_label, by decide, rfl⟩
  · exact ⟨okd_law_problem, by decide, rfl⟩
  · exact ⟨okd_law_free, by decide, rfl⟩
  · exact ⟨okd_law_renumbered, by decide, rfl⟩
  · exact ⟨okd_law_sides, by decide, rfl⟩
  · exact ⟨okd_law_alone, by decide, rfl⟩
  · exact ⟨okd_law, by decide, rfl⟩
theorem fsOk : ∀ f ∈ fs, (∃ e ∈ ents, e.f = f) ∨ (f = "gcd" ∧ false = true) := by
  intro f h
  simp only [List.mem_cons, List.not_mem_nil, or_false] at h
  rcases h with rfl | rfl | rfl | rfl | rfl | rfl | rfl | rfl | rfl | rfl | rfl | rfl | rfl | rfl | rfl | rfl | rfl | rfl | rfl | rfl | rfl | rfl | rfl | rfl | rfl | rfl | rfl
  · exact .inl ⟨ed_law_alone, by simp, rfl⟩
  · exact .inl ⟨ed_law_draw, by simp, rfl⟩
  · exact .inl ⟨ed_law_free, by simp, rfl⟩
  · exact .inl ⟨ed_law_inside, by simp, rfl⟩
  · exact .inl ⟨ed_law_label, by simp, rfl⟩
  · exact .inl ⟨ed_law_overlap, by simp, rfl⟩
  · exact .inl ⟨ed_law_problem, by simp, rfl⟩
  · exact .inl ⟨ed_law_rectangle, by simp, rfl⟩
  · exact .inl ⟨ed_law_renumbered, by simp, rfl⟩
  · exact .inl ⟨ed_law_sides, by simp, rfl⟩
  · exact .inl ⟨ed_law_spot, by simp, rfl⟩
  · exact .inl ⟨ed_law_tape, by simp, rfl⟩
  · exact .inl ⟨ed_chosen_rectangle, by simp, rfl⟩
  · exact .inl ⟨ed_common, by simp, rfl⟩
  · exact .inl ⟨ed_first_path, by simp, rfl⟩
  · exact .inl ⟨ed_forced, by simp, rfl⟩
  · exact .inl ⟨ed_forces, by simp, rfl⟩
  · exact .inl ⟨ed_inside, by simp, rfl⟩
  · exact .inl ⟨ed_is_free, by simp, rfl⟩
  · exact .inl ⟨ed_is_possible, by simp, rfl⟩
  · exact .inl ⟨ed_kept_over, by simp, rfl⟩
  · exact .inl ⟨ed_links_of, by simp, rfl⟩
  · exact .inl ⟨ed_other_choice, by simp, rfl⟩
  · exact .inl ⟨ed_overlap, by simp, rfl⟩
  · exact .inl ⟨ed_place_labels, by simp, rfl⟩
  · exact .inl ⟨ed_reason_over, by simp, rfl⟩
  · exact .inl ⟨ed_sides_over, by simp, rfl⟩
end K74

set_option Elab.async false
set_option linter.all false
set_option maxRecDepth 100000
namespace Cs
open PySem PySem.Spec PyProof.Rows L2

/-! ### what a run gives -/
def wp {α : Type} (m : Option (α × Sto)) (Q : α → Sto → Prop) : Prop := ∃ a S, m = some (a, S) ∧ Q a S
@[simp] theorem wp_some {α : Type} (a : α) (S : Sto) (Q : α → Sto → Prop) : wp (some (a, S)) Q ↔ Q a S :=
  ⟨fun ⟨_, _, e, q⟩ => by cases e; exact q, fun q => ⟨a, S, rfl, q⟩⟩
@[simp] theorem wp_none {α : Type} (Q : α → Sto → Prop) : wp none Q ↔ False := ⟨fun ⟨_, _, e, _⟩ => (by cases e), False.elim⟩
@[simp] theorem wp_bnd {α β : Type} (m : Option (α × Sto)) (f : α → Sto → Option (β × Sto)) (Q : β → Sto → Prop) : wp (bnd m f) Q ↔ wp m fun a S => wp (f a S) Q :=
  ⟨fun ⟨r, S', e, q⟩ => by
    obtain ⟨a, S, e1, e2⟩ := bnd_inv e
    exact ⟨a, S, e1, r, S', e2, q⟩,
  fun ⟨a, S, e1, r, S', e2, q⟩ => ⟨r, S', by rw [e1]; exact e2, q⟩⟩
theorem wp.mono {α : Type} {m : Option (α × Sto)} {Q R : α → Sto → Prop} (h : wp m Q) (w : ∀ a S, Q a S → R a S) : wp m R := by
  obtain ⟨a, S, e, q⟩ := h
  exact ⟨a, S, e, w a S q⟩
theorem wp_eq {α : Type} {m : Option (α × Sto)} {a : α} {S : Sto} (h : m = some (a, S)) {Q : α → Sto → Prop} (q : Q a S) : wp m Q := ⟨a, S, h, q⟩
@[simp] theorem lift_some {α : Type} (a : α) (S : Sto) : lift (some a) S = some (a, S) := rfl
theorem wp_ite {α : Type} {p : Prop} [Decidable p] {a b : Option (α × Sto)} {Q : α → Sto → Prop} (h1 : p → wp a Q) (h2 : ¬p → wp b Q) : wp (if p then a else b) Q := by
  split
  · exact h1 (by assumption)
  · exact h2 (by assumption)

/-! ### loops -/
theorem wp_forL {w : Watch} {t : Tg} {body : X1} {Q : Fl → Sto → Prop} (I : List D → Ev → Sto → Prop) (hs : ∀ xs env S, I xs env S → still w S)
    (step : ∀ x xs env S, I (x :: xs) env S → ∃ env1, asg t x env = some env1 ∧ wp (body env1 S) fun f S1 => match f with
      | .nx e => I xs e S1
      | .ct e => I xs e S1
      | .bk e => Q (.nx e) S1
      | .rt d => Q (.rt d) S1)
    (done : ∀ env S, I [] env S → Q (.nx env) S) : ∀ xs env S, I xs env S → wp (forL w t body xs env S) Q
  | [], env, S, h => by
    rw [forL, if_pos (hs _ _ _ h)]
    exact wp_some _ _ _ |>.mpr (done _ _ h)
  | x :: xs, env, S, h => by
    obtain ⟨env1, e1, f, S1, e2, q⟩ := step x xs env S h
    rw [forL, if_pos (hs _ _ _ h), e1]
    simp only [wp_bnd]
    refine ⟨f, S1, e2, ?_⟩
    cases f with
    | nx e => exact wp_forL I hs step done xs e S1 q
    | ct e => exact wp_forL I hs step done xs e S1 q
    | bk e => exact wp_some _ _ _ |>.mpr q
    | rt d => exact wp_some _ _ _ |>.mpr q
theorem wp_lcL {cond : Ev → Sto → Option (Bool × Sto)} {elt : Ev → Sto → Option (D × Sto)} {w : Watch} {t : Tg} {n0 : Nat} {env : Ev} {Q : Sto → Prop} (I : List D → Sto → Prop) (hs : ∀ xs S, I xs S → still w S)
    (step : ∀ x xs S, I (x :: xs) S → ∃ env1, asg t x env = some env1 ∧ wp (cond env1 S) fun k S1 => if k = true then wp (elt env1 S1) fun y S2 => ∃ acc, getM S2 n0 = some acc ∧ acc.length < sizeLine ∧ I xs (S2.set n0 (.lst (acc ++ [y]))) else I xs S1)
    (done : ∀ S, I [] S → Q S) : ∀ xs S, I xs S → wp (lcL cond elt w t n0 env xs S) fun _ S => Q S
  | [], S, h => by
    rw [lcL, if_pos (hs _ _ h)]
    exact wp_some _ _ _ |>.mpr (done _ h)
  | x :: xs, S, h => by
    obtain ⟨env1, e1, k, S1, e2, q⟩ := step x xs S h
    rw [lcL, if_pos (hs _ _ h), e1]
    simp only [wp_bnd]
    refine ⟨k, S1, e2, ?_⟩
    cases k with
    | true =>
      rw [if_pos rfl] at q ⊢
      obtain ⟨y, S2, e3, acc, e4, l, q⟩ := q
      simp only [wp_bnd]
      refine ⟨y, S2, e3, ?_⟩
      simp only [e4]
      rw [if_pos l]
      exact wp_lcL I hs step done xs _ q
    | false =>
      rw [if_neg (by simp)] at q ⊢
      exact wp_lcL I hs step done xs _ q
theorem wp_lc2L {cond : Ev → Sto → Option (Bool × Sto)} {inner : Ev → Sto → Option (Unit × Sto)} {w : Watch} {t : Tg} {env : Ev} {Q : Sto → Prop} (I : List D → Sto → Prop) (hs : ∀ xs S, I xs S → still w S)
    (step : ∀ x xs S, I (x :: xs) S → ∃ env1, asg t x env = some env1 ∧ wp (cond env1 S) fun k S1 => if k = true then wp (inner env1 S1) fun _ S2 => I xs S2 else I xs S1)
    (done : ∀ S, I [] S → Q S) : ∀ xs S, I xs S → wp (lc2L cond inner w t env xs S) fun _ S => Q S
  | [], S, h => by
    rw [lc2L, if_pos (hs _ _ h)]
    exact wp_some _ _ _ |>.mpr (done _ h)
  | x :: xs, S, h => by
    obtain ⟨env1, e1, k, S1, e2, q⟩ := step x xs S h
    rw [lc2L, if_pos (hs _ _ h), e1]
    simp only [wp_bnd]
    refine ⟨k, S1, e2, ?_⟩
    cases k with
    | true =>
      rw [if_pos rfl] at q ⊢
      obtain ⟨y, S2, e3, q⟩ := q
      simp only [wp_bnd]
      exact ⟨y, S2, e3, wp_lc2L I hs step done xs _ q⟩
    | false =>
      rw [if_neg (by simp)] at q ⊢
      exact wp_lc2L I hs step done xs _ q
theorem whN_succ {c : Ev → Sto → Option (Bool × Sto)} {body : X1} : ∀ (n : Nat) (env : Ev) (S : Sto) (r : Fl × Sto), whN c body n env S = some r → whN c body (n + 1) env S = some r
  | 0, env, S, r, h => by cases h
  | n + 1, env, S, r, h => by
    rw [whN] at h
    obtain ⟨k, S1, e1, h⟩ := bnd_inv h
    rw [whN, e1, bnd_some]
    by_cases hk : k = true
    · rw [if_pos hk] at h ⊢
      obtain ⟨f, S2, e2, h⟩ := bnd_inv h
      rw [e2, bnd_some]
      cases f with
      | nx e => exact whN_succ n _ _ _ h
      | ct e => exact whN_succ n _ _ _ h
      | bk e => exact h
      | rt d => exact h
    · rw [if_neg hk] at h ⊢
      exact h
theorem whN_mono {c : Ev → Sto → Option (Bool × Sto)} {body : X1} {n m : Nat} (h : n ≤ m) {env : Ev} {S : Sto} {r : Fl × Sto} (e : whN c body n env S = some r) : whN c body m env S = some r := by
  induction h with
  | refl => exact e
  | step _ ih => exact whN_succ _ _ _ _ ih
theorem whE_of {c : Ev → Sto → Option (Bool × Sto)} {body : X1} {n : Nat} {env : Ev} {S : Sto} {r : Fl × Sto} (e : whN c body n env S = some r) : whE c body env S = some r := by
  have ex : ∃ n, (whN c body n env S).isSome = true := ⟨n, by rw [e]; rfl⟩
  unfold whE
  rw [dif_pos ex]
  obtain ⟨r', e'⟩ := Option.isSome_iff_exists.mp ex.choose_spec
  rw [e']
  rcases Nat.le_total n ex.choose with h | h
  · rw [whN_mono h e] at e'; cases e'; rfl
  · rw [whN_mono h e'] at e; cases e; rfl
theorem wp_whN {c : Ev → Sto → Option (Bool × Sto)} {body : X1} {Q : Fl → Sto → Prop} (I : Nat → Ev → Sto → Prop)
    (step : ∀ n env S, I n env S → wp (c env S) fun k S1 => if k = true then wp (body env S1) fun f S2 => match f with
      | .nx e => ∃ m, m < n ∧ I m e S2
      | .ct e => ∃ m, m < n ∧ I m e S2
      | .bk e => Q (.nx e) S2
      | .rt d => Q (.rt d) S2
      else Q (.nx env) S1) : ∀ N n env S, n < N → I n env S → wp (whN c body N env S) Q
  | 0, n, env, S, h, _ => absurd h (Nat.not_lt_zero _)
  | N + 1, n, env, S, h, i => by
    obtain ⟨k, S1, e1, q⟩ := step n env S i
    rw [whN, e1, bnd_some]
    by_cases hk : k = true
    · rw [if_pos hk] at q ⊢
      obtain ⟨f, S2, e2, q⟩ := q
      rw [e2, bnd_some]
      cases f with
      | nx e => obtain ⟨m, l, q⟩ := q; exact wp_whN I step N m e S2 (by omega) q
      | ct e => obtain ⟨m, l, q⟩ := q; exact wp_whN I step N m e S2 (by omega) q
      | bk e => exact wp_some _ _ _ |>.mpr q
      | rt d => exact wp_some _ _ _ |>.mpr q
    · rw [if_neg hk] at q ⊢
      exact wp_some _ _ _ |>.mpr q
theorem wp_whE {c : Ev → Sto → Option (Bool × Sto)} {body : X1} {Q : Fl → Sto → Prop} (I : Nat → Ev → Sto → Prop)
    (step : ∀ n env S, I n env S → wp (c env S) fun k S1 => if k = true then wp (body env S1) fun f S2 => match f with
      | .nx e => ∃ m, m < n ∧ I m e S2
      | .ct e => ∃ m, m < n ∧ I m e S2
      | .bk e => Q (.nx e) S2
      | .rt d => Q (.rt d) S2
      else Q (.nx env) S1) {n : Nat} {env : Ev} {S : Sto} (i : I n env S) : wp (whE c body env S) Q := by
  obtain ⟨f, S', e, q⟩ := wp_whN I step (n + 1) n env S (Nat.lt_succ_self n) i
  exact ⟨f, S', whE_of e, q⟩

/-! ### data without places -/
mutual
theorem und_pure (n : Nat) : ∀ d : D, d.pure = true → d.und n
  | .non, _ => trivial
  | .bl _, _ => trivial
  | .int _, _ => trivial
  | .str _, _ => trivial
  | .tup xs, h => by
    have h : D.pureL xs = true := by simpa [D.pure] using h
    simpa [D.und] using und_pureL n xs h
  | .loc _, h => by simp [D.pure] at h
theorem und_pureL (n : Nat) : ∀ ds : List D, D.pureL ds = true → D.undL n ds
  | [], _ => trivial
  | d :: ds, h => by
    have h : d.pure = true ∧ D.pureL ds = true := by simpa [D.pureL] using h
    exact ⟨und_pure n d h.1, und_pureL n ds h.2⟩
end
theorem pureL_iff {ds : List D} : D.pureL ds = true ↔ ∀ d ∈ ds, d.pure = true := by
  induction ds with
  | nil => simp [D.pureL]
  | cons d ds ih => simp [D.pureL, ih]
/-! ### a call's end -/
theorem Pre.app (S J : Sto) : Pre S (S ++ J) := ⟨by simp, fun i so h e => .inl (by rwa [List.getElem?_append_left h] at e)⟩
theorem wp_fin_p {S S1 : Sto} {d : D} {Q : D → Sto → Prop} (hp : d.pure = true) (pre : Pre S S1) (q : Q d (S1.take S.length)) : wp (fin S (d, S1)) Q := by
  unfold fin
  rw [if_pos pre, if_pos (und_pure _ _ hp)]
  exact wp_some _ _ _ |>.mpr q
theorem wp_fin_g {S S1 : Sto} {m : Nat} {so : SO} {Q : D → Sto → Prop} (pre : Pre S S1) (hm : S.length ≤ m) (e : S1[m]? = some so) (hx : so.mut = true ∧ so.und S.length) (q : Q (.loc S.length) (S1.take S.length ++ [so])) : wp (fin S (.loc m, S1)) Q := by
  unfold fin
  have h : ¬ (D.loc m).und S.length := by show ¬ m < S.length; omega
  rw [if_pos pre, if_neg h]
  simp only [e]
  rw [if_pos hx]
  exact wp_some _ _ _ |>.mpr q
theorem wp_fin_l {S S1 : Sto} {m : Nat} {xs : List D} {Q : D → Sto → Prop} (pre : Pre S S1) (hm : S.length ≤ m) (e : S1[m]? = some (.lst xs)) (hx : D.pureL xs = true) (q : Q (.loc S.length) (S1.take S.length ++ [.lst xs])) : wp (fin S (.loc m, S1)) Q :=
  wp_fin_g pre hm e ⟨rfl, und_pureL _ _ hx⟩ q
theorem wp_fin_app {S J : Sto} {d : D} {Q : D → Sto → Prop} (hp : d.pure = true) (q : Q d S) : wp (fin S (d, S ++ J)) Q :=
  wp_fin_p hp (.app S J) (by simpa using q)
theorem wp_fin_same {S : Sto} {d : D} {Q : D → Sto → Prop} (hp : d.pure = true) (q : Q d S) : wp (fin S (d, S)) Q := by
  have := wp_fin_app (J := []) hp q
  rwa [List.append_nil] at this
theorem wp_fin_appL {S J : Sto} {i : Nat} {xs : List D} {Q : D → Sto → Prop} (e : J[i]? = some (.lst xs)) (hx : D.pureL xs = true) (q : Q (.loc S.length) (S ++ [.lst xs])) : wp (fin S (.loc (S.length + i), S ++ J)) Q :=
  wp_fin_l (.app S J) (by omega) (by rw [List.getElem?_append_right (by omega)]; simpa using e) hx (by simpa using q)

/-! ### the tape -/
structure Tp where
  p : Int
  r : Int
  s : Int
def tp (sc : List D) (t : Tp) : Sto := [.ro sc, .lst sc, .lst [.loc 1, .int t.p, .int t.r, .int t.s]]
/-- n draws are still allowed for -/
structure Tp.ok (n : Nat) (t : Tp) : Prop where
  p0 : 0 ≤ t.p
  pn : t.p + n ≤ 1000000
  r0 : 0 ≤ t.r
  s0 : 0 ≤ t.s
  sn : t.s < 2147483647
theorem Tp.ok.mono {n m : Nat} {t : Tp} (h : t.ok n) (l : m ≤ n) : t.ok m := ⟨h.p0, by have := h.pn; omega, h.r0, h.s0, h.sn⟩
def ad (W : Sto) (i : Nat) : Nat := W.length + i + 3
@[simp] theorem ad_app (W J : Sto) (i : Nat) : ad (W ++ J) i = ad W (J.length + i) := by simp only [ad, List.length_append]; omega
@[simp high] theorem tp_len (sc : List D) (t : Tp) (W : Sto) : (tp sc t ++ W).length = ad W 0 := by simp [tp, ad]
@[simp] theorem tp_app (sc : List D) (t : Tp) (W J : Sto) : tp sc t ++ W ++ J = tp sc t ++ (W ++ J) := List.append_assoc ..
@[simp] theorem tp_get1 (sc : List D) (t : Tp) (W : Sto) : getL (tp sc t ++ W) 1 = some sc := rfl
@[simp] theorem tp_get2 (sc : List D) (t : Tp) (W : Sto) : getL (tp sc t ++ W) 2 = some [.loc 1, .int t.p, .int t.r, .int t.s] := rfl
@[simp] theorem tp_getM2 (sc : List D) (t : Tp) (W : Sto) : getM (tp sc t ++ W) 2 = some [.loc 1, .int t.p, .int t.r, .int t.s] := rfl
@[simp] theorem tp_set2 (sc : List D) (t : Tp) (W : Sto) (p r s : Int) : (tp sc t ++ W).set 2 (.lst [.loc 1, .int p, .int r, .int s]) = tp sc ⟨p, r, s⟩ ++ W := rfl
@[simp] theorem tp_get (sc : List D) (t : Tp) (W J : Sto) (i : Nat) : (tp sc t ++ (W ++ J))[ad W i]? = J[i]? := by
  rw [List.getElem?_append_right (by simp only [tp, ad, List.length_cons, List.length_nil]; omega), List.getElem?_append_right (by simp only [tp, ad, List.length_cons, List.length_nil]; omega)]
  congr 1
  simp only [tp, ad, List.length_cons, List.length_nil]; omega
@[simp] theorem tp_getL (sc : List D) (t : Tp) (W J : Sto) (i : Nat) : getL (tp sc t ++ (W ++ J)) (ad W i) = getL J i := by
  unfold getL; rw [tp_get]
@[simp] theorem tp_getK (sc : List D) (t : Tp) (W J : Sto) (i : Nat) : getK (tp sc t ++ (W ++ J)) (ad W i) = getK J i := by
  unfold getK; rw [tp_get]
@[simp] theorem tp_getT (sc : List D) (t : Tp) (W J : Sto) (i : Nat) : getT (tp sc t ++ (W ++ J)) (ad W i) = getT J i := by
  unfold getT; rw [tp_get]
@[simp] theorem tp_getM (sc : List D) (t : Tp) (W J : Sto) (i : Nat) : getM (tp sc t ++ (W ++ J)) (ad W i) = getM J i := by
  unfold getM; rw [tp_get]
@[simp] theorem tp_set (sc : List D) (t : Tp) (W J : Sto) (i : Nat) (x : SO) : (tp sc t ++ (W ++ J)).set (ad W i) x = tp sc t ++ (W ++ J.set i x) := by
  rw [List.set_append_right _ _ (by simp only [tp, ad, List.length_cons, List.length_nil]; omega), List.set_append_right _ _ (by simp only [tp, ad, List.length_cons, List.length_nil]; omega)]
  congr 3
  simp only [tp, ad, List.length_cons, List.length_nil]; omega
theorem Pre.tp (sc : List D) (t t' : Tp) (W J : Sto) : Pre (tp sc t ++ W) (tp sc t' ++ (W ++ J)) := by
  refine ⟨by simp [Cs.tp], fun i so h e => ?_⟩
  match i with
  | 0 => exact .inl e
  | 1 => exact .inl e
  | 2 =>
    cases e
    refine .inr ⟨?_, trivial, trivial, trivial, trivial⟩
    show 1 < _
    simp [Cs.tp]
  | i + 3 =>
    left
    have e : (W ++ J)[i]? = some so := e
    have h : i < W.length := by simp [Cs.tp] at h; omega
    show W[i]? = some so
    rwa [List.getElem?_append_left h] at e
theorem tp_take (sc : List D) (t t' : Tp) (W J : Sto) : (tp sc t' ++ (W ++ J)).take (tp sc t ++ W).length = tp sc t' ++ W := by
  have : (tp sc t ++ W).length = (tp sc t' ++ W).length := by simp [tp]
  rw [this, ← List.append_assoc, List.take_left' rfl]
theorem wp_fin_tp {sc : List D} {t t' : Tp} {W J : Sto} {d : D} {Q : D → Sto → Prop} (hp : d.pure = true) (q : Q d (tp sc t' ++ W)) : wp (fin (tp sc t ++ W) (d, tp sc t' ++ (W ++ J))) Q :=
  wp_fin_p hp (.tp ..) (by rw [tp_take]; exact q)
theorem wp_fin_tp0 {sc : List D} {t t' : Tp} {W : Sto} {d : D} {Q : D → Sto → Prop} (hp : d.pure = true) (q : Q d (tp sc t' ++ W)) : wp (fin (tp sc t ++ W) (d, tp sc t' ++ W)) Q := by
  have := wp_fin_tp (J := []) (t := t) hp q
  rwa [List.append_nil] at this
theorem wp_fin_tpL {sc : List D} {t t' : Tp} {W J : Sto} {i : Nat} {xs : List D} {Q : D → Sto → Prop} (e : J[i]? = some (.lst xs)) (hx : D.pureL xs = true) (q : Q (.loc (ad W 0)) (tp sc t' ++ (W ++ [.lst xs]))) :
    wp (fin (tp sc t ++ W) (.loc (ad W i), tp sc t' ++ (W ++ J))) Q :=
  wp_fin_l (.tp ..) (by simp only [tp, ad, List.length_append, List.length_cons, List.length_nil]; omega) (by rw [tp_get]; exact e) hx (by rw [tp_take, tp_app, tp_len]; exact q)

/-! ### a def's run -/
theorem wp_runF {c : Cfg} {fd : FDef} {vs : List D} {S : Sto} {Q : D → Sto → Prop} (hl : vs.length = fd.np) (hk : fd.keep = false)
    (h : wp (exSs c fd.body (start' fd vs) S) fun f S1 => match f with
      | .rt d => wp (fin S (d, S1)) Q
      | .nx _ => wp (fin S (.non, S1)) Q
      | _ => False) : wp (runF c fd vs S) Q := by
  obtain ⟨f, S1, e, q⟩ := h
  rw [runF, if_pos hl, e, bnd_some]
  cases f with
  | rt d => simp only [hk]; exact q
  | nx env => simp only [hk]; exact q
  | bk e => cases q
  | ct e => cases q
theorem callF_succ {Γ : String → Option FDef} {G : String → Option D} {k : Nat} {f : String} {fd : FDef} (hf : f ≠ "gcd") (h : Γ f = some fd) (vs : List D) (S : Sto) : callF Γ G (k + 1) f vs S = runF ⟨callF Γ G k, G⟩ fd vs S := by
  rw [callF, if_neg hf, h]
end Cs

set_option Elab.async false
set_option linter.all false
set_option maxRecDepth 100000
namespace Cs
open PySem PySem.Spec PyProof.Rows L2
section
variable (c : Cfg)
@[simp] theorem evE_var {i} (env : Ev) (S : Sto) : evE c (.var i : E) env S = (evVar i env S) := by
  first | (rw [evE]; done) | (rw [evE]; rfl)
@[simp] theorem evE_cn {k} (env : Ev) (S : Sto) : evE c (.cn k : E) env S = (some (k.d, S)) := by
  first | (rw [evE]; done) | (rw [evE]; rfl)
@[simp] theorem evE_glb {x} (env : Ev) (S : Sto) : evE c (.glb x : E) env S = (lift (c.G x) S) := by
  first | (rw [evE]; done) | (rw [evE]; rfl)
@[simp] theorem evE_bin {op a b} (env : Ev) (S : Sto) : evE c (.bin op a b : E) env S = (bnd (evE c a env S) fun x S1 => bnd (evE c b env S1) fun y S2 => bop op x y S2) := by
  first | (rw [evE]; done) | (rw [evE]; rfl)
@[simp] theorem evE_neg {a} (env : Ev) (S : Sto) : evE c (.neg a : E) env S = (bnd (evE c a env S) fun x S1 => match x with | .int i => some (.int (-i), S1) | _ => none) := by
  first | (rw [evE]; done) | (rw [evE]; rfl)
@[simp] theorem evE_cmp {op a b} (env : Ev) (S : Sto) : evE c (.cmp op a b : E) env S = (bnd (evE c a env S) fun x S1 => bnd (evE c b env S1) fun y S2 => cop op x y S2) := by
  first | (rw [evE]; done) | (rw [evE]; rfl)
@[simp] theorem evE_isN {a} (env : Ev) (S : Sto) : evE c (.isN a : E) env S = (bnd (evE c a env S) fun x S1 => some (.bl (isN x), S1)) := by
  first | (rw [evE]; done) | (rw [evE]; rfl)
@[simp] theorem evE_notN {a} (env : Ev) (S : Sto) : evE c (.notN a : E) env S = (bnd (evE c a env S) fun x S1 => some (.bl (!isN x), S1)) := by
  first | (rw [evE]; done) | (rw [evE]; rfl)
@[simp] theorem evE_isB {a b} (env : Ev) (S : Sto) : evE c (.isB a b : E) env S = (bnd (evE c a env S) fun x S1 => match x with | .bl k => some (.bl (decide (k = b)), S1) | _ => none) := by
  first | (rw [evE]; done) | (rw [evE]; rfl)
@[simp] theorem evE_isi {a T} (env : Ev) (S : Sto) : evE c (.isi a T : E) env S = (bnd (evE c a env S) fun x S1 => if noDk S1 x = true then some (.bl (isiB T x), S1) else none) := by
  first | (rw [evE]; done) | (rw [evE]; rfl)
@[simp] theorem evE_nt {a} (env : Ev) (S : Sto) : evE c (.nt a : E) env S = (bnd (evE c a env S) fun x S1 => (truth S1 x).map fun k => (.bl (!k), S1)) := by
  first | (rw [evE]; done) | (rw [evE]; rfl)
@[simp] theorem evE_and {a b} (env : Ev) (S : Sto) : evE c (.and a b : E) env S = (bnd (evE c a env S) fun x S1 => bnd (lift (truth S1 x) S1) fun k S1 => if k = true then evE c b env S1 else some (x, S1)) := by
  first | (rw [evE]; done) | (rw [evE]; rfl)
@[simp] theorem evE_or {a b} (env : Ev) (S : Sto) : evE c (.or a b : E) env S = (bnd (evE c a env S) fun x S1 => bnd (lift (truth S1 x) S1) fun k S1 => if k = true then some (x, S1) else evE c b env S1) := by
  first | (rw [evE]; done) | (rw [evE]; rfl)
@[simp] theorem evE_ife {t a b} (env : Ev) (S : Sto) : evE c (.ife t a b : E) env S = (ifT (tst (evE c t env S)) (evE c a env) (evE c b env)) := by
  first | (rw [evE]; done) | (rw [evE]; rfl)
@[simp] theorem evE_tup {es} (env : Ev) (S : Sto) : evE c (.tup es : E) env S = (bnd (evEs c es env S) fun xs S1 => some (.tup xs, S1)) := by
  first | (rw [evE]; done) | (rw [evE]; rfl)
@[simp] theorem evE_lst {es} (env : Ev) (S : Sto) : evE c (.lst es : E) env S = (bnd (evEs c es env S) fun xs S1 => some (.loc S1.length, S1 ++ [.lst xs])) := by
  first | (rw [evE]; done) | (rw [evE]; rfl)
@[simp] theorem evE_idx {a i} (env : Ev) (S : Sto) : evE c (.idx a i : E) env S = (bnd (evE c a env S) fun x S1 => bnd (evE c i env S1) fun y S2 => iop x y S2) := by
  first | (rw [evE]; done) | (rw [evE]; rfl)
@[simp] theorem evE_slc {a lo hi} (env : Ev) (S : Sto) : evE c (.slc a lo hi : E) env S = (bnd (evE c a env S) fun x S1 => bnd (evE c lo env S1) fun l S2 => bnd (evE c hi env S2) fun h S3 => match bndE lo l, bndE hi h with | some l, some h => slop x l h S3 | _, _ => none) := by
  first | (rw [evE]; done) | (rw [evE]; rfl)
@[simp] theorem evE_call {f es} (env : Ev) (S : Sto) : evE c (.call f es : E) env S = (bnd (evEs c es env S) fun xs S1 => c.C f xs S1) := by
  first | (rw [evE]; done) | (rw [evE]; rfl)
@[simp] theorem evE_blt {f es} (env : Ev) (S : Sto) : evE c (.blt f es : E) env S = (bnd (evEs c es env S) fun xs S1 => blt f xs S1) := by
  first | (rw [evE]; done) | (rw [evE]; rfl)
@[simp] theorem evE_mth {m o es} (env : Ev) (S : Sto) : evE c (.mth m o es : E) env S = (bnd (evE c o env S) fun x S1 => if mTy m x S1 = true then bnd (evEs c es env S1) fun xs S2 => mth m x xs S2 else none) := by
  first | (rw [evE]; done) | (rw [evE]; rfl)
@[simp] theorem evE_lc {t k es cnd e} (env : Ev) (S : Sto) : evE c (.lc t k es cnd e : E) env S = (bnd (evEs c es env S) fun xs S1 => bnd (lift (items k xs S1) S1) fun iw S1 =>
      bnd (lcL (fun env S => tst (evE c cnd env S)) (evE c e) iw.2 t S1.length (wipeE env t.slots) iw.1 (S1 ++ [.lst []])) fun _ S2 => some (.loc S1.length, S2)) := by
  first | (rw [evE]; done) | (rw [evE]; rfl)
@[simp] theorem evE_lc2 {t k es cnd t1 k1 es1 cnd1 e} (env : Ev) (S : Sto) : evE c (.lc2 t k es cnd t1 k1 es1 cnd1 e : E) env S = (bnd (evEs c es env S) fun xs S1 => bnd (lift (items k xs S1) S1) fun iw S1 =>
      bnd (lc2L (fun env S => tst (evE c cnd env S)) (fun env1 S2 => bnd (evEs c es1 env1 S2) fun ys S3 => bnd (lift (items k1 ys S3) S3) fun iw1 S3 =>
          lcL (fun env S => tst (evE c cnd1 env S)) (evE c e) iw1.2 t1 S1.length (wipeE env1 t1.slots) iw1.1 S3) iw.2 t (wipeE env (t.slots ++ t1.slots)) iw.1 (S1 ++ [.lst []])) fun _ S2 => some (.loc S1.length, S2)) := by
  first | (rw [evE]; done) | (rw [evE]; rfl)
@[simp] theorem evE_tr {e} (env : Ev) (S : Sto) : evE c (.tr e : E) env S = (bnd (evE c e env S) fun x S1 => fin S (x, S1)) := by
  first | (rw [evE]; done) | (rw [evE]; rfl)
@[simp] theorem evE_dnew (env : Ev) (S : Sto) : evE c (.dnew : E) env S = (some (.loc S.length, S ++ [.dk []])) := by
  first | (rw [evE]; done) | (rw [evE]; rfl)
@[simp] theorem evE_mth0 {m o} (env : Ev) (S : Sto) : evE c (.mth0 m o : E) env S = (bnd (evE c o env S) fun x S1 => mth0 m x S1) := by
  first | (rw [evE]; done) | (rw [evE]; rfl)
@[simp] theorem evE_dict1 {k v} (env : Ev) (S : Sto) : evE c (.dict1 k v : E) env S = (bnd (evE c k env (S ++ [.dt []])) fun x S1 => bnd (evE c v env S1) fun y S2 =>
      match getT S2 S.length, keyT x with
      | some [], some kt => some (.loc S.length, S2.set S.length (.dt [(kt, y)]))
      | _, _ => none) := by
  first | (rw [evE]; done) | (rw [evE]; rfl)
@[simp] theorem evE_dc {t k es cnd ke ve} (env : Ev) (S : Sto) : evE c (.dc t k es cnd ke ve : E) env S = (bnd (evEs c es env S) fun xs S1 => bnd (lift (items k xs S1) S1) fun iw S1 =>
      bnd (dcL (fun env S => tst (evE c cnd env S)) (evE c ke) (evE c ve) iw.2 t S1.length (wipeE env t.slots) iw.1 (S1 ++ [.dt []])) fun _ S2 => some (.loc S1.length, S2)) := by
  first | (rw [evE]; done) | (rw [evE]; rfl)
@[simp] theorem evE_gget {g i} (env : Ev) (S : Sto) : evE c (.gget g i : E) env S = (bnd (evE c i env S) fun y S1 => match c.G g, y with
      | some tb, .str z => lift (tabAt tb z) S1
      | _, _ => none) := by
  first | (rw [evE]; done) | (rw [evE]; rfl)
@[simp] theorem evE_gin {neg g a} (env : Ev) (S : Sto) : evE c (.gin neg g a : E) env S = (bnd (evE c a env S) fun x S1 => match c.G g, x with
      | some tb, .str z => some (.bl (neg != (tabAt tb z).isSome), S1)
      | _, _ => none) := by
  first | (rw [evE]; done) | (rw [evE]; rfl)
@[simp] theorem evE_dzip {a b} (env : Ev) (S : Sto) : evE c (.dzip a b : E) env S = (bnd (evE c a env S) fun x S1 => bnd (evE c b env S1) fun y S2 => dzOp x y S2) := by
  first | (rw [evE]; done) | (rw [evE]; rfl)
@[simp] theorem evE_trev {a} (env : Ev) (S : Sto) : evE c (.trev a : E) env S = (bnd (evE c a env S) fun x S1 => trOp x S1) := by
  first | (rw [evE]; done) | (rw [evE]; rfl)
@[simp] theorem evE_lrng {a} (env : Ev) (S : Sto) : evE c (.lrng a : E) env S = (bnd (evE c a env S) fun x S1 => lrOp x S1) := by
  first | (rw [evE]; done) | (rw [evE]; rfl)
@[simp] theorem exS_set {i e} (env : Ev) (S : Sto) : exS c (.set i e : Cs.S) env S = (bnd (evE c e env S) fun x S1 => some (.nx (env.set i (some x)), S1)) := by
  first | (rw [exS]; done) | (rw [exS]; rfl)
@[simp] theorem exS_setT {is e} (env : Ev) (S : Sto) : exS c (.setT is e : Cs.S) env S = (bnd (evE c e env S) fun x S1 => bnd (lift (asg (.t is) x env) S1) fun env1 S1 => some (.nx env1, S1)) := by
  first | (rw [exS]; done) | (rw [exS]; rfl)
@[simp] theorem exS_par {i j a b} (env : Ev) (S : Sto) : exS c (.par i j a b : Cs.S) env S = (bnd (evE c a env S) fun x S1 => bnd (evE c b env S1) fun y S2 => some (.nx ((env.set i (some x)).set j (some y)), S2)) := by
  first | (rw [exS]; done) | (rw [exS]; rfl)
@[simp] theorem exS_setI {o k v} (env : Ev) (S : Sto) : exS c (.setI o k v : Cs.S) env S = (bnd (evE c v env S) fun z S1 => bnd (evE c o env S1) fun x S2 => bnd (evE c k env S2) fun y S3 => bnd (setOp z x y S3) fun _ S4 => some (.nx env, S4)) := by
  first | (rw [exS]; done) | (rw [exS]; rfl)
@[simp] theorem exS_ex {e} (env : Ev) (S : Sto) : exS c (.ex e : Cs.S) env S = (bnd (evE c e env S) fun _ S1 => some (.nx env, S1)) := by
  first | (rw [exS]; done) | (rw [exS]; rfl)
@[simp] theorem exS_ret {e} (env : Ev) (S : Sto) : exS c (.ret e : Cs.S) env S = (bnd (evE c e env S) fun x S1 => some (.rt x, S1)) := by
  first | (rw [exS]; done) | (rw [exS]; rfl)
@[simp] theorem exS_iff {t a b} (env : Ev) (S : Sto) : exS c (.iff t a b : Cs.S) env S = (ifT (tst (evE c t env S)) (exSs c a env) (exSs c b env)) := by
  first | (rw [exS]; done) | (rw [exS]; rfl)
@[simp] theorem exS_whl {t b} (env : Ev) (S : Sto) : exS c (.whl t b : Cs.S) env S = (whE (fun env S => tst (evE c t env S)) (exSs c b) env S) := by
  first | (rw [exS]; done) | (rw [exS]; rfl)
@[simp] theorem exS_for {t k es b} (env : Ev) (S : Sto) : exS c (.for_ t k es b : Cs.S) env S = (bnd (evEs c es env S) fun xs S1 => bnd (lift (items k xs S1) S1) fun iw S1 => forL iw.2 t (exSs c b) iw.1 env S1) := by
  first | (rw [exS]; done) | (rw [exS]; rfl)
@[simp] theorem exS_brk (env : Ev) (S : Sto) : exS c (.brk : Cs.S) env S = (some (.bk env, S)) := by
  first | (rw [exS]; done) | (rw [exS]; rfl)
@[simp] theorem exS_cont (env : Ev) (S : Sto) : exS c (.cont : Cs.S) env S = (some (.ct env, S)) := by
  first | (rw [exS]; done) | (rw [exS]; rfl)
@[simp] theorem exS_pass (env : Ev) (S : Sto) : exS c (.pass : Cs.S) env S = (some (.nx env, S)) := by
  first | (rw [exS]; done) | (rw [exS]; rfl)
@[simp] theorem evEs_nil (env : Ev) (S : Sto) : evEs c [] env S = some ([], S) := by rw [evEs]
@[simp] theorem evEs_cons {e es} (env : Ev) (S : Sto) : evEs c (e :: es) env S = bnd (evE c e env S) fun x S1 => bnd (evEs c es env S1) fun xs S2 => some (x :: xs, S2) := by rw [evEs]
@[simp] theorem exSs_nil (env : Ev) (S : Sto) : exSs c [] env S = some (.nx env, S) := by rw [exSs]
@[simp] theorem exSs_cons {s ss} (env : Ev) (S : Sto) : exSs c (s :: ss) env S = sqn (exS c s env S) (exSs c ss) := by rw [exSs]
end

@[simp] theorem tst_def (m : Option (D × Sto)) : tst m = bnd m fun x S => lift (truth S x) S := rfl
@[simp] theorem ifT_def {α : Type} (m : Option (Bool × Sto)) (f g : Sto → Option (α × Sto)) : ifT m f g = bnd m fun k S => if k = true then f S else g S := rfl
/-- what comes after a statement -/
def seqQ (k : X1) (Q : Fl → Sto → Prop) : Fl → Sto → Prop
  | .nx env, S => wp (k env S) Q
  | f, S => Q f S
@[simp] theorem seqQ_nx (k : X1) (Q : Fl → Sto → Prop) (env : Ev) (S : Sto) : seqQ k Q (.nx env) S = wp (k env S) Q := rfl
@[simp] theorem seqQ_rt (k : X1) (Q : Fl → Sto → Prop) (d : D) (S : Sto) : seqQ k Q (.rt d) S = Q (.rt d) S := rfl
@[simp] theorem seqQ_bk (k : X1) (Q : Fl → Sto → Prop) (d : Ev) (S : Sto) : seqQ k Q (.bk d) S = Q (.bk d) S := rfl
@[simp] theorem seqQ_ct (k : X1) (Q : Fl → Sto → Prop) (d : Ev) (S : Sto) : seqQ k Q (.ct d) S = Q (.ct d) S := rfl
@[simp] theorem wp_sqn (m : Option (Fl × Sto)) (k : X1) (Q : Fl → Sto → Prop) : wp (sqn m k) Q ↔ wp m (seqQ k Q) := by
  unfold sqn
  rw [wp_bnd]
  constructor <;> intro h <;> refine h.mono fun f S q => ?_ <;> cases f <;> simpa [seqQ] using q
/-- what a loop's body must give -/
def loopQ (P : Ev → Sto → Prop) (Q : Fl → Sto → Prop) : Fl → Sto → Prop
  | .nx e, S => P e S
  | .ct e, S => P e S
  | .bk e, S => Q (.nx e) S
  | .rt d, S => Q (.rt d) S
@[simp] theorem loopQ_nx (P : Ev → Sto → Prop) (Q : Fl → Sto → Prop) (e : Ev) (S : Sto) : loopQ P Q (.nx e) S = P e S := rfl
@[simp] theorem loopQ_ct (P : Ev → Sto → Prop) (Q : Fl → Sto → Prop) (e : Ev) (S : Sto) : loopQ P Q (.ct e) S = P e S := rfl
@[simp] theorem loopQ_bk (P : Ev → Sto → Prop) (Q : Fl → Sto → Prop) (e : Ev) (S : Sto) : loopQ P Q (.bk e) S = Q (.nx e) S := rfl
@[simp] theorem loopQ_rt (P : Ev → Sto → Prop) (Q : Fl → Sto → Prop) (d : D) (S : Sto) : loopQ P Q (.rt d) S = Q (.rt d) S := rfl
theorem wp_forQ {w : Watch} {t : Tg} {body : X1} {Q : Fl → Sto → Prop} (I : List D → Ev → Sto → Prop) (hs : ∀ xs env S, I xs env S → still w S)
    (step : ∀ x xs env S, I (x :: xs) env S → ∃ env1, asg t x env = some env1 ∧ wp (body env1 S) (loopQ (I xs) Q))
    (done : ∀ env S, I [] env S → Q (.nx env) S) (xs : List D) (env : Ev) (S : Sto) (h : I xs env S) : wp (forL w t body xs env S) Q :=
  wp_forL I hs (fun x xs env S h => by
    obtain ⟨env1, e, q⟩ := step x xs env S h
    exact ⟨env1, e, q.mono fun f S1 h => by cases f <;> exact h⟩) done xs env S h
/-- what a call makes of its end -/
def retQ (S0 : Sto) (Q : D → Sto → Prop) : Fl → Sto → Prop
  | .rt d, S => wp (fin S0 (d, S)) Q
  | .nx _, S => wp (fin S0 (.non, S)) Q
  | _, _ => False
@[simp] theorem retQ_rt (S0 : Sto) (Q : D → Sto → Prop) (d : D) (S : Sto) : retQ S0 Q (.rt d) S = wp (fin S0 (d, S)) Q := rfl
@[simp] theorem retQ_nx (S0 : Sto) (Q : D → Sto → Prop) (d : Ev) (S : Sto) : retQ S0 Q (.nx d) S = wp (fin S0 (.non, S)) Q := rfl
theorem wp_run {c : Cfg} {fd : FDef} {vs : List D} {S : Sto} {Q : D → Sto → Prop} (hl : vs.length = fd.np) (hk : fd.keep = false)
    (h : wp (exSs c fd.body (start' fd vs) S) (retQ S Q)) : wp (runF c fd vs S) Q :=
  wp_runF hl hk (h.mono fun f S1 q => by cases f <;> exact q)
@[simp] theorem setOp_1 (a : Int) (sc : List D) (t : Tp) (W : Sto) : setOp (.int a) (.loc 2) (.int 1) (tp sc t ++ W) = some ((), tp sc ⟨a, t.r, t.s⟩ ++ W) := rfl
@[simp] theorem setOp_2 (a : Int) (sc : List D) (t : Tp) (W : Sto) : setOp (.int a) (.loc 2) (.int 2) (tp sc t ++ W) = some ((), tp sc ⟨t.p, a, t.s⟩ ++ W) := rfl
@[simp] theorem setOp_3 (a : Int) (sc : List D) (t : Tp) (W : Sto) : setOp (.int a) (.loc 2) (.int 3) (tp sc t ++ W) = some ((), tp sc ⟨t.p, t.r, a⟩ ++ W) := rfl
@[simp] theorem tp_i0 (sc : List D) (t : Tp) (W : Sto) : iop (.loc 2) (.int 0) (tp sc t ++ W) = some (.loc 1, tp sc t ++ W) := rfl
@[simp] theorem tp_i1 (sc : List D) (t : Tp) (W : Sto) : iop (.loc 2) (.int 1) (tp sc t ++ W) = some (.int t.p, tp sc t ++ W) := rfl
@[simp] theorem tp_i2 (sc : List D) (t : Tp) (W : Sto) : iop (.loc 2) (.int 2) (tp sc t ++ W) = some (.int t.r, tp sc t ++ W) := rfl
@[simp] theorem tp_i3 (sc : List D) (t : Tp) (W : Sto) : iop (.loc 2) (.int 3) (tp sc t ++ W) = some (.int t.s, tp sc t ++ W) := rfl
@[simp] theorem tp_n1 (sc : List D) (t : Tp) (W : Sto) : bLen [.loc 1] (tp sc t ++ W) = some (.int sc.length, tp sc t ++ W) := rfl
@[simp] theorem tp_j1 (sc : List D) (t : Tp) (W : Sto) (k : Int) : iop (.loc 1) (.int k) (tp sc t ++ W) = lift (atI sc k) (tp sc t ++ W) := rfl
@[simp] theorem map_lift (o : Option Bool) (S : Sto) : (o.map fun k => (k, S)) = lift o S := rfl
@[simp] theorem Cn_non : Cn.non.d = .non := rfl
@[simp] theorem Cn_bl (b : Bool) : (Cn.bl b).d = .bl b := rfl
@[simp] theorem Cn_int (i : Int) : (Cn.int i).d = .int i := rfl
@[simp] theorem Cn_str (s : String) : (Cn.str s).d = .str (Str.ofString s) := rfl
@[simp] theorem evVar_0 (d : D) (l : Ev) (S : Sto) : evVar 0 (some d :: l) S = some (d, S) := rfl
@[simp] theorem evVar_s (i : Nat) (o : Option D) (l : Ev) (S : Sto) : evVar (i + 1) (o :: l) S = evVar i l S := by
  unfold evVar; simp
@[simp] theorem truth_non (S : Sto) : truth S .non = some false := rfl
@[simp] theorem truth_bl (S : Sto) (b : Bool) : truth S (.bl b) = some b := rfl
@[simp] theorem truth_int (S : Sto) (i : Int) : truth S (.int i) = some (i != 0) := rfl
@[simp] theorem truth_tup (S : Sto) (xs : List D) : truth S (.tup xs) = some (!xs.isEmpty) := rfl
@[simp] theorem bop_add (i j : Int) (S : Sto) : bop .add (.int i) (.int j) S = some (.int (i + j), S) := rfl
@[simp] theorem bop_sub (i j : Int) (S : Sto) : bop .sub (.int i) (.int j) S = some (.int (i - j), S) := rfl
theorem bop_mul {i j : Int} (h : mulOk i j) (S : Sto) : bop .mul (.int i) (.int j) S = some (.int (i * j), S) := if_pos h
theorem bop_fdiv {i j : Int} (h : divOk j) (S : Sto) : bop .fdiv (.int i) (.int j) S = some (.int (i / j), S) := if_pos h
theorem bop_mod {i j : Int} (h : 0 < j) (S : Sto) : bop .mod (.int i) (.int j) S = some (.int (i % j), S) := if_pos h
theorem bop_str {a b : Str} (h : a.length + b.length ≤ sizeLine) (S : Sto) : bop .add (.str a) (.str b) S = some (.str (a ++ b), S) := if_pos h
theorem bop_tup {a b : List D} (h : a.length + b.length ≤ sizeLine) (S : Sto) : bop .add (.tup a) (.tup b) S = some (.tup (a ++ b), S) := if_pos h
theorem bop_loc {n m : Nat} {a b : List D} {S : Sto} (h1 : getM S n = some a) (h2 : getM S m = some b) (h : a.length + b.length ≤ sizeLine) : bop .add (.loc n) (.loc m) S = some (.loc S.length, S ++ [.lst (a ++ b)]) := by
  simp only [bop, h1, h2]; exact if_pos h
@[simp] theorem iop_tup (xs : List D) (k : Int) (S : Sto) : iop (.tup xs) (.int k) S = lift (atI xs k) S := rfl
theorem getK_none {n : Nat} {S : Sto} {xs : List D} (h : getL S n = some xs) : getK S n = none := by
  unfold getL at h
  unfold getK
  cases e : S[n]? with
  | none => rfl
  | some so => cases so with
    | lst _ => rfl
    | ro _ => rfl
    | dk _ => first | rfl | (rw [e] at h; cases h)
    | dt _ => first | rfl | (rw [e] at h; cases h)
theorem getK_noneM {n : Nat} {S : Sto} {xs : List D} (h : getM S n = some xs) : getK S n = none := by
  unfold getM at h
  unfold getK
  cases e : S[n]? with
  | none => rfl
  | some so => cases so with
    | lst _ => rfl
    | ro _ => rfl
    | dk _ => first | rfl | (rw [e] at h; cases h)
    | dt _ => first | rfl | (rw [e] at h; cases h)
theorem getT_none {n : Nat} {S : Sto} {xs : List D} (h : getL S n = some xs) : getT S n = none := by
  unfold getL at h
  unfold getT
  cases e : S[n]? with
  | none => rfl
  | some so => cases so with
    | lst _ => rfl
    | ro _ => rfl
    | dk _ => first | rfl | (rw [e] at h; cases h)
    | dt _ => first | rfl | (rw [e] at h; cases h)
theorem getT_noneM {n : Nat} {S : Sto} {xs : List D} (h : getM S n = some xs) : getT S n = none := by
  unfold getM at h
  unfold getT
  cases e : S[n]? with
  | none => rfl
  | some so => cases so with
    | lst _ => rfl
    | ro _ => rfl
    | dk _ => first | rfl | (rw [e] at h; cases h)
    | dt _ => first | rfl | (rw [e] at h; cases h)
theorem dkAt_loc (n : Nat) (y : D) (S : Sto) : dkAt (.loc n) y S = match getK S n with
    | some kvs => (keyD y).map (valD kvs)
    | none => match getT S n with
      | some kvs => (keyT y).map (valD kvs)
      | none => none := by
  unfold dkAt getK getT
  simp only
  cases S[n]? with
  | none => rfl
  | some so => cases so <;> rfl
theorem bList_at (n : Nat) (S : Sto) : bList [.loc n] S = match getK S n with
    | some kvs => some (.loc S.length, S ++ [.lst (kvs.map fun kv => kD kv.1)])
    | none => match getT S n with
      | some kvs => some (.loc S.length, S ++ [.lst (kvs.map fun kv => .tup (kv.1.map kD))])
      | none => (getL S n).map fun xs => (.loc S.length, S ++ [.lst xs]) := by
  unfold bList getK getT getL
  simp only
  cases S[n]? with
  | none => rfl
  | some so => cases so <;> rfl
theorem dkAt_list {n : Nat} {S : Sto} {xs : List D} (h : getL S n = some xs) (y : D) : dkAt (.loc n) y S = none := by
  simp only [dkAt_loc, getK_none h, getT_none h]
theorem dkAt_dict {n : Nat} {S : Sto} {kvs : List (Key × D)} (h : getK S n = some kvs) (y : D) : dkAt (.loc n) y S = (keyD y).map (valD kvs) := by
  simp only [dkAt_loc, h]
theorem iop_loc {n : Nat} {S : Sto} {xs : List D} (h : getL S n = some xs) (k : Int) : iop (.loc n) (.int k) S = lift (atI xs k) S := by
  simp only [iop, dkAt_list h, iopL, h]; rfl
@[simp] theorem cop_eq_int (i j : Int) (S : Sto) : cop .eq (.int i) (.int j) S = some (.bl (decide (i = j)), S) := rfl
@[simp] theorem cop_ne_int (i j : Int) (S : Sto) : cop .ne (.int i) (.int j) S = some (.bl (!decide (i = j)), S) := rfl
@[simp] theorem cop_eq_str (i j : Str) (S : Sto) : cop .eq (.str i) (.str j) S = some (.bl (decide (i = j)), S) := rfl
@[simp] theorem cop_ne_str (i j : Str) (S : Sto) : cop .ne (.str i) (.str j) S = some (.bl (!decide (i = j)), S) := rfl
@[simp] theorem cop_lt (i j : Int) (S : Sto) : cop .lt (.int i) (.int j) S = some (.bl (decide (i < j)), S) := rfl
@[simp] theorem cop_le (i j : Int) (S : Sto) : cop .le (.int i) (.int j) S = some (.bl (decide (i ≤ j)), S) := rfl
@[simp] theorem cop_gt (i j : Int) (S : Sto) : cop .gt (.int i) (.int j) S = some (.bl (decide (j < i)), S) := rfl
@[simp] theorem cop_ge (i j : Int) (S : Sto) : cop .ge (.int i) (.int j) S = some (.bl (decide (j ≤ i)), S) := rfl
@[simp] theorem blt_len : blt "len" = bLen := rfl
@[simp] theorem blt_abs : blt "abs" = bAbs := rfl
@[simp] theorem blt_int : blt "int" = bInt := rfl
@[simp] theorem blt_max : blt "max" = bMax := rfl
@[simp] theorem blt_min : blt "min" = bMin := rfl
@[simp] theorem blt_list : blt "list" = bList := rfl
@[simp] theorem blt_tuple : blt "tuple" = bTuple := rfl
@[simp] theorem blt_all : blt "all" = bAll := rfl
@[simp] theorem blt_any : blt "any" = bAny := rfl
@[simp] theorem blt_sorted : blt "sorted" = bSorted := rfl
@[simp] theorem blt_repr : blt "repr" = bRepr := rfl
@[simp] theorem mth_append : mth "append" = mAppend := rfl
@[simp] theorem mth_index : mth "index" = mIndex := rfl
@[simp] theorem bInt_int (i : Int) (S : Sto) : bInt [.int i] S = some (.int i, S) := rfl
@[simp] theorem bInt_bl (b : Bool) (S : Sto) : bInt [.bl b] S = some (.int (if b then 1 else 0), S) := rfl
@[simp] theorem bAbs_int (i : Int) (S : Sto) : bAbs [.int i] S = some (.int (if i < 0 then -i else i), S) := rfl
@[simp] theorem bMax_int (i j : Int) (S : Sto) : bMax [.int i, .int j] S = some (.int (if j > i then j else i), S) := rfl
@[simp] theorem bMin_int (i j : Int) (S : Sto) : bMin [.int i, .int j] S = some (.int (if j < i then j else i), S) := rfl
@[simp] theorem bLen_tup (xs : List D) (S : Sto) : bLen [.tup xs] S = some (.int xs.length, S) := rfl
theorem bLen_loc {n : Nat} {S : Sto} {xs : List D} (h : getL S n = some xs) : bLen [.loc n] S = some (.int xs.length, S) := by
  simp only [bLen, h]; rfl
theorem bList_loc {n : Nat} {S : Sto} {xs : List D} (h : getL S n = some xs) : bList [.loc n] S = some (.loc S.length, S ++ [.lst xs]) := by
  simp only [bList_at, getK_none h, getT_none h, h]; rfl
@[simp] theorem bList_tup (xs : List D) (S : Sto) : bList [.tup xs] S = some (.loc S.length, S ++ [.lst xs]) := rfl
theorem bTuple_loc {n : Nat} {S : Sto} {xs : List D} (h : getL S n = some xs) : bTuple [.loc n] S = some (.tup xs, S) := by
  simp only [bTuple, h]; rfl
@[simp] theorem bTuple_tup (xs : List D) (S : Sto) : bTuple [.tup xs] S = some (.tup xs, S) := rfl
@[simp] theorem mTy_append {n : Nat} {S : Sto} : mTy "append" (.loc n) S = (getL S n).isSome := rfl
theorem mAppend_loc {n : Nat} {S : Sto} {xs : List D} (h : getM S n = some xs) (hl : xs.length < sizeLine) (y : D) : mAppend (.loc n) [y] S = some (.non, S.set n (.lst (xs ++ [y]))) := by
  simp only [mAppend, h]; exact if_pos hl
@[simp] theorem getL_0 (xs : List D) (J : Sto) : getL (.lst xs :: J) 0 = some xs := rfl
@[simp] theorem getL_0r (xs : List D) (J : Sto) : getL (.ro xs :: J) 0 = some xs := rfl
@[simp] theorem getL_s (x : SO) (J : Sto) (i : Nat) : getL (x :: J) (i + 1) = getL J i := by unfold getL; simp
@[simp] theorem getK_0 (xs : List D) (J : Sto) : getK (.lst xs :: J) 0 = none := rfl
@[simp] theorem getK_0r (xs : List D) (J : Sto) : getK (.ro xs :: J) 0 = none := rfl
@[simp] theorem getK_0k (kvs : List (Key × D)) (J : Sto) : getK (.dk kvs :: J) 0 = some kvs := rfl
@[simp] theorem getL_0k (kvs : List (Key × D)) (J : Sto) : getL (.dk kvs :: J) 0 = none := rfl
@[simp] theorem getK_s (x : SO) (J : Sto) (i : Nat) : getK (x :: J) (i + 1) = getK J i := by unfold getK; simp
@[simp] theorem getM_0 (xs : List D) (J : Sto) : getM (.lst xs :: J) 0 = some xs := rfl
@[simp] theorem getM_s (x : SO) (J : Sto) (i : Nat) : getM (x :: J) (i + 1) = getM J i := by unfold getM; simp
@[simp] theorem getK_0t (kvs : List (List Key × D)) (J : Sto) : getK (.dt kvs :: J) 0 = none := rfl
@[simp] theorem getL_0t (kvs : List (List Key × D)) (J : Sto) : getL (.dt kvs :: J) 0 = none := rfl
@[simp] theorem getT_0t (kvs : List (List Key × D)) (J : Sto) : getT (.dt kvs :: J) 0 = some kvs := rfl
@[simp] theorem getT_0 (xs : List D) (J : Sto) : getT (.lst xs :: J) 0 = none := rfl
@[simp] theorem getT_0r (xs : List D) (J : Sto) : getT (.ro xs :: J) 0 = none := rfl
@[simp] theorem getT_0k (kvs : List (Key × D)) (J : Sto) : getT (.dk kvs :: J) 0 = none := rfl
@[simp] theorem getT_s (x : SO) (J : Sto) (i : Nat) : getT (x :: J) (i + 1) = getT J i := by unfold getT; simp
@[simp] theorem getM_0k (kvs : List (Key × D)) (J : Sto) : getM (.dk kvs :: J) 0 = none := rfl
@[simp] theorem getM_0t (kvs : List (List Key × D)) (J : Sto) : getM (.dt kvs :: J) 0 = none := rfl
@[simp] theorem blt_dict : blt "dict" = bDict := rfl
@[simp] theorem mth_insert : mth "insert" = mInsert := rfl
@[simp] theorem mth_sindex : mth "sindex" = mSindex := rfl
@[simp] theorem mth0_pop : mth0 "pop" = mPop := rfl
@[simp] theorem mth0_reverse : mth0 "reverse" = mReverse := rfl
@[simp] theorem mTy_sindex (z : Str) (S : Sto) : mTy "sindex" (.str z) S = true := rfl
@[simp] theorem mTy_insert {n : Nat} {S : Sto} : mTy "insert" (.loc n) S = (getL S n).isSome := rfl
@[simp] theorem mTy_index {n : Nat} {S : Sto} : mTy "index" (.loc n) S = (getL S n).isSome := rfl
@[simp] theorem items_enum (ds : List D) (S : Sto) : items .enum [.tup ds] S = some (enumD 0 ds, []) := rfl
end Cs

set_option Elab.async false
set_option linter.all false
set_option maxRecDepth 100000
namespace Cs
open PySem PySem.Spec PyProof.Rows L2

/-! ### texts -/
theorem ofString_inj {a b : String} : Str.ofString a = Str.ofString b ↔ a = b := by
  constructor
  · intro h
    rw [Str.ofString_eq_toList, Str.ofString_eq_toList] at h
    have h1 : (a.toList.map Char.toNat) = (b.toList.map Char.toNat) := by simpa using h
    have h2 : a.toList = b.toList := (List.map_inj_right (fun x y e => Char.ext (UInt32.toNat_inj.mp e))).mp h1
    exact String.toList_inj.mp h2
  · rintro rfl; rfl
theorem strOk_ofString (s : String) : PyData.strOk (Str.ofString s) = true := by
  rw [Str.ofString_eq_toList]
  simp only [PyData.strOk, List.all_toArray', List.all_map, List.all_eq_true]
  intro c _
  have := c.valid
  simp only [Function.comp, decide_eq_true_eq]
  show c.val.toNat < 0x110000
  rcases this with h | ⟨_, h⟩
  · have : c.val.toNat < 0xd800 := h
    omega
  · exact h
/-! ### items -/
theorem atI_0 {α : Type} (a : α) (l : List α) : atI (a :: l) 0 = some a := atI_nat (j := 0) rfl
theorem atI_1 {α : Type} (a b : α) (l : List α) : atI (a :: b :: l) 1 = some b := atI_nat (j := 1) rfl
theorem atI_2 {α : Type} (a b c : α) (l : List α) : atI (a :: b :: c :: l) 2 = some c := atI_nat (j := 2) rfl
theorem atI_3 {α : Type} (a b c d : α) (l : List α) : atI (a :: b :: c :: d :: l) 3 = some d := atI_nat (j := 3) rfl
theorem atI_in {α : Type} {xs : List α} {i : Int} (h0 : 0 ≤ i) (h1 : i < xs.length) : ∃ x ∈ xs, atI xs i = some x := by
  obtain ⟨n, rfl⟩ := Int.eq_ofNat_of_zero_le h0
  have h : n < xs.length := by omega
  exact ⟨xs[n], List.getElem_mem h, atI_nat (List.getElem?_eq_getElem h)⟩
theorem mulOk_small {i j : Int} (hi : i.natAbs < 2 ^ 64) (hj : j.natAbs < 2 ^ 64) : mulOk i j := by
  have f : ∀ n : Nat, n < 2 ^ 64 → n.log2 < 64 := fun n h => by
    by_cases z : n = 0
    · subst z; decide
    · exact (Nat.log2_lt z).mpr h
  have := f _ hi
  have := f _ hj
  unfold mulOk; omega
theorem divOk_small {j : Int} (h0 : 0 < j) (hj : j.natAbs < 2 ^ 64) : divOk j := by
  refine ⟨h0, ?_⟩
  have : j.natAbs.log2 < 64 := (Nat.log2_lt (by omega)).mpr hj
  omega

/-! ### drawing -/
def dDraw : FDef where
  np := 2
  nl := 4
  keep := false
  body := [
    .iff (.cmp .eq (.idx (.var 0) (.cn (.int 2))) (.cn (.int 0))) [.set 3 (.idx (.var 0) (.cn (.int 1))), .set 2 (.cn (.int 0)), .iff (.cmp .lt (.var 3) (.blt "len" [(.idx (.var 0) (.cn (.int 0)))])) [.set 2 (.blt "abs" [(.blt "int" [(.idx (.idx (.var 0) (.cn (.int 0))) (.var 3))])])] [.setI (.var 0) (.cn (.int 3)) (.bin .mod (.blt "int" [(.bin .add (.bin .add (.bin .mul (.idx (.var 0) (.cn (.int 3))) (.cn (.int 48271))) (.var 3)) (.cn (.int 1)))]) (.cn (.int 2147483647))), .set 2 (.idx (.var 0) (.cn (.int 3)))], .setI (.var 0) (.cn (.int 1)) (.bin .add (.var 3) (.cn (.int 1))), .iff (.cmp .lt (.var 2) (.bin .pow (.cn (.int 10)) (.cn (.int 18)))) [.set 2 (.bin .mod (.blt "int" [(.bin .add (.bin .add (.bin .mul (.var 2) (.cn (.int 48271))) (.bin .mul (.var 3) (.cn (.int 69621)))) (.cn (.int 5)))]) (.cn (.int 2147483647))), .set 2 (.bin .mod (.blt "int" [(.bin .mul (.var 2) (.cn (.int 69621)))]) (.cn (.int 2147483629))), .ret (.bin .mod (.blt "int" [(.var 2)]) (.blt "max" [(.var 1), (.cn (.int 1))]))] [], .setI (.var 0) (.cn (.int 2)) (.var 2)] [],
    .set 2 (.idx (.var 0) (.cn (.int 2))),
    .setI (.var 0) (.cn (.int 2)) (.bin .fdiv (.var 2) (.blt "max" [(.var 1), (.cn (.int 2))])),
    .ret (.bin .mod (.blt "int" [(.var 2)]) (.blt "max" [(.var 1), (.cn (.int 1))]))]
theorem draw_ok (c : Cfg) {ns : List Int} {t : Tp} {n : Nat} {m : Int} {W : Sto} {Q : D → Sto → Prop} (ht : t.ok (n + 1)) (hm : 1 ≤ m) (hm2 : m < 2 ^ 60)
    (h : ∀ r t', 0 ≤ r → r < m → t'.ok n → Q (.int r) (tp (ns.map .int) t' ++ W)) : wp (runF c dDraw [.loc 2, .int m] (tp (ns.map .int) t ++ W)) Q := by
  have hmax : (if m < 1 then 1 else m) = m := if_neg (by omega)
  have hmod : ∀ z : Int, 0 ≤ z % m ∧ z % m < m := fun z => ⟨Int.emod_nonneg _ (by omega), Int.emod_lt_of_pos _ (by omega)⟩
  have bm := fun i : Int => bop_mod (i := i) (j := m) (by omega)
  have bm1 := fun i : Int => bop_mod (i := i) (j := 2147483647) (by omega)
  have bm2 := fun i : Int => bop_mod (i := i) (j := 2147483629) (by omega)
  have hp : ∀ S, bop .pow (.int 10) (.int 18) S = some (.int 1000000000000000000, S) := fun S => by
    show (if powOk 10 18 then some (D.int (10 ^ (18 : Int).toNat), S) else none) = _
    rw [if_pos (by decide)]; rfl
  obtain ⟨p0, pn, r0, s0, sn⟩ := ht
  refine wp_run rfl rfl ?_
  have m1 := bop_mul (mulOk_small (i := t.s) (j := 48271) (by omega) (by omega))
  have m2 := bop_mul (mulOk_small (i := t.p) (j := 69621) (by omega) (by omega))
  have bf := fun i : Int => bop_fdiv (i := i) (j := if m < 2 then 2 else m) (divOk_small (by split <;> omega) (by split <;> omega))
  have tail : ∀ (t1 : Tp) (num : Int) (o : Option D), t1.ok n → 0 ≤ num → t1.r = num → wp (exSs c (dDraw.body.drop 1) [some (.loc 2), some (.int m), some (.int num), o] (tp (ns.map .int) t1 ++ W)) (retQ (tp (ns.map .int) t ++ W) Q) := by
    intro t1 num o ok h0 e
    subst e
    simp [dDraw, bf, hmax, bm]
    refine wp_fin_tp0 rfl (h _ _ (hmod _).1 (hmod _).2 ⟨ok.p0, ok.pn, ?_, ok.s0, ok.sn⟩)
    exact Int.ediv_nonneg h0 (by split <;> omega)
  have rest : ∀ (t1 : Tp) (num : Int), t1.p = t.p → t1.r = 0 → 0 ≤ t1.s ∧ t1.s < 2147483647 → 0 ≤ num → wp (exSs c [.setI (.var 0) (.cn (.int 1)) (.bin .add (.var 3) (.cn (.int 1))), .iff (.cmp .lt (.var 2) (.bin .pow (.cn (.int 10)) (.cn (.int 18)))) [.set 2 (.bin .mod (.blt "int" [(.bin .add (.bin .add (.bin .mul (.var 2) (.cn (.int 48271))) (.bin .mul (.var 3) (.cn (.int 69621)))) (.cn (.int 5)))]) (.cn (.int 2147483647))), .set 2 (.bin .mod (.blt "int" [(.bin .mul (.var 2) (.cn (.int 69621)))]) (.cn (.int 2147483629))), .ret (.bin .mod (.blt "int" [(.var 2)]) (.blt "max" [(.var 1), (.cn (.int 1))]))] [], .setI (.var 0) (.cn (.int 2)) (.var 2)]
      [some (.loc 2), some (.int m), some (.int num), some (.int t.p)] (tp (ns.map .int) t1 ++ W)) (seqQ (exSs c (dDraw.body.drop 1)) (retQ (tp (ns.map .int) t ++ W) Q)) := by
    intro t1 num e1 e2 e3 h0
    by_cases hl : num < 1000000000000000000
    · have m3 := bop_mul (mulOk_small (i := num) (j := 48271) (by omega) (by omega))
      have m4 : ∀ z : Int, ∀ S, bop .mul (.int (z % 2147483647)) (.int 69621) S = _ := fun z => bop_mul (mulOk_small (by omega) (by omega))
      simp [hp, hl, m3, m2, m4, bm1, bm2, bm, hmax]
      refine wp_fin_tp0 rfl (h _ _ (hmod _).1 (hmod _).2 ⟨?_, ?_, ?_, e3.1, e3.2⟩)
      · show 0 ≤ t.p + 1; omega
      · show t.p + 1 + n ≤ _; omega
      · show 0 ≤ t1.r; omega
    · simp [hp, hl]
      refine tail _ _ _ ⟨?_, ?_, h0, e3.1, e3.2⟩ h0 rfl
      · show 0 ≤ t.p + 1; omega
      · show t.p + 1 + n ≤ _; omega
  by_cases hr : t.r = 0
  · by_cases hl : t.p < ns.length
    · obtain ⟨x, hx, ex⟩ := atI_in (xs := ns.map D.int) p0 (by simpa using hl)
      obtain ⟨i, _, rfl⟩ := List.mem_map.mp hx
      have := rest t (if i < 0 then -i else i) rfl hr ⟨s0, sn⟩ (by split <;> omega)
      simp [dDraw, start', hr, hl, ex]
      simpa [dDraw, hr] using this
    · have hl' : ¬ t.p < (ns.map D.int).length := by simpa using hl
      have := rest ⟨t.p, t.r, (t.s * 48271 + t.p + 1) % 2147483647⟩ ((t.s * 48271 + t.p + 1) % 2147483647) rfl hr ⟨Int.emod_nonneg _ (by omega), Int.emod_lt_of_pos _ (by omega)⟩ (Int.emod_nonneg _ (by omega))
      simp [dDraw, start', hr, hl, m1, bm1]
      simpa [dDraw, hr] using this
  · have := tail t t.r none ⟨p0, by omega, r0, s0, sn⟩ r0 rfl
    simp [dDraw, start', hr]
    simpa [dDraw] using this
end Cs

set_option Elab.async false
set_option linter.all false
set_option maxRecDepth 100000
namespace Cs
open PySem PySem.Spec PyProof.Rows L2

def dTape : FDef where
  np := 1
  nl := 3
  keep := true
  body := [
    .set 1 (.cn (.int 7)),
    .for_ (.v 2) .seq [(.var 0)] [.set 1 (.bin .mod (.blt "int" [(.bin .add (.bin .mul (.var 1) (.cn (.int 31))) (.blt "abs" [(.blt "int" [(.var 2)])]))]) (.cn (.int 2147483647)))],
    .ret (.lst [(.blt "list" [(.var 0)]), (.cn (.int 0)), (.cn (.int 0)), (.var 1)])]
@[simp] theorem items_loc {n : Nat} {S : Sto} {xs : List D} (h : getL S n = some xs) : items .seq [.loc n] S = some (xs, [(n, xs)]) := by simp only [items, h]; rfl
@[simp] theorem items_tup (xs : List D) (S : Sto) : items .seq [.tup xs] S = some (xs, []) := rfl
theorem items_rng {j : Int} (h : smallI j) (S : Sto) : items .rng [.int j] S = some (rngD 0 j.toNat, []) := if_pos h
theorem items_rng2 {i j : Int} (h : smallI i) (h2 : smallI j) (S : Sto) : items .rng [.int i, .int j] S = some (rngD i (j - i).toNat, []) := if_pos ⟨h, h2⟩
theorem still_nil (S : Sto) : still [] S := fun _ h => nomatch h
theorem still_one {n : Nat} {xs : List D} {S : Sto} (h : getL S n = some xs) : still [(n, xs)] S := fun p hp => by
  rcases List.mem_singleton.mp hp with rfl
  exact h
@[simp] theorem asg_v (i : Nat) (d : D) (env : Ev) : asg (.v i) d env = some (env.set i (some d)) := rfl
inductive TapeI (sc : List D) : List D → Ev → Sto → Prop where
  | mk {xs : List D} {v : Int} {o : Option D} (hx : ∀ x ∈ xs, ∃ i, x = D.int i) (h0 : 0 ≤ v) (h1 : v < 2147483647) : TapeI sc xs [some (.loc 0), some (.int v), o] [.ro sc]
theorem tape_ok (c : Cfg) (ns : List Int) {Q : D → Sto → Prop} (h : ∀ t, t.ok 900000 → Q (.loc 2) (tp (ns.map .int) t ++ [])) : wp (runF c dTape [.loc 0] [.ro (ns.map .int)]) Q := by
  have core : wp (exSs c dTape.body (start' dTape [.loc 0]) [.ro (ns.map .int)]) fun f S => ∃ t, t.ok 900000 ∧ f = .rt (.loc 2) ∧ S = tp (ns.map .int) t ++ [] := by
    have bm1 := fun i : Int => bop_mod (i := i) (j := 2147483647) (by omega)
    simp [dTape, start', items_loc (n := 0) (S := [.ro (ns.map D.int)]) rfl]
    refine wp_forL (I := TapeI (ns.map .int)) ?_ ?_ ?_ _ _ _ (.mk (by simp) (by omega) (by omega))
    · rintro xs env S ⟨⟩
      exact still_one rfl
    · rintro x xs env S ⟨hx, h0, h1⟩
      refine ⟨_, rfl, ?_⟩
      obtain ⟨i, rfl⟩ := hx _ (List.mem_cons_self ..)
      rename_i v o
      have m1 := bop_mul (mulOk_small (i := v) (j := 31) (by omega) (by omega))
      simp [m1, bm1]
      exact .mk (fun x hm => hx x (List.mem_cons_of_mem _ hm)) (Int.emod_nonneg _ (by omega)) (Int.emod_lt_of_pos _ (by omega))
    · rintro env S ⟨hx, h0, h1⟩
      rename_i v o
      simp [bList_loc (n := 0) (S := [.ro (ns.map D.int)]) rfl]
      exact ⟨⟨0, 0, v⟩, ⟨by simp, by simp, by simp, h0, h1⟩, rfl⟩
  obtain ⟨f, S, e, t, ok, rfl, rfl⟩ := core
  exact ⟨.loc 2, _, by rw [runF, if_pos (show [D.loc 0].length = dTape.np from rfl), e]; rfl, h t ok⟩

def dLowest : FDef where
  np := 2
  nl := 5
  keep := false
  body := [
    .set 2 (.blt "abs" [(.var 0)]),
    .set 3 (.blt "abs" [(.var 1)]),
    .whl (.cmp .gt (.var 3) (.cn (.int 0))) [.set 4 (.bin .mod (.blt "int" [(.var 2)]) (.var 3)), .set 2 (.var 3), .set 3 (.var 4)],
    .iff (.cmp .lt (.var 1) (.cn (.int 0))) [.set 2 (.bin .sub (.cn (.int 0)) (.var 2))] [],
    .ret (.tup [(.bin .fdiv (.var 0) (.var 2)), (.bin .fdiv (.var 1) (.var 2))])]
theorem abs_nat (i : Int) : (if i < 0 then -i else i) = (i.natAbs : Int) := by split <;> omega
inductive LowI (n d : Int) (S : Sto) (g : Nat) : Nat → Ev → Sto → Prop where
  | mk {a b : Nat} {o : Option D} (hg : Nat.gcd a b = g) : LowI n d S g b [some (.int n), some (.int d), some (.int (a : Nat)), some (.int (b : Nat)), o] S
theorem lowest_ok (c : Cfg) {n d : Int} {S : Sto} {Q : D → Sto → Prop} (hd : 0 < d) (hd2 : d < 2 ^ 64)
    (h : Q (.tup [.int (n / (Nat.gcd n.natAbs d.natAbs : Nat)), .int (d / (Nat.gcd n.natAbs d.natAbs : Nat))]) S) : wp (runF c dLowest [.int n, .int d] S) Q := by
  refine wp_run rfl rfl ?_
  simp [dLowest, start', abs_nat]
  refine wp_whE (I := LowI n d S (Nat.gcd n.natAbs d.natAbs)) ?_ (.mk rfl)
  rintro k env S' ⟨hg⟩
  rename_i a o
  by_cases hb : 0 < k
  · have bm := bop_mod (i := (a : Int)) (j := (k : Int)) (by omega)
    simp [hb, bm]
    refine ⟨a % k, Nat.mod_lt a hb, ?_⟩
    have := LowI.mk (n := n) (d := d) (S := S) (g := Nat.gcd n.natAbs d.natAbs) (a := k) (b := a % k) (o := some (.int (a % k : Nat))) (by rw [← hg, Nat.gcd_comm a k, Nat.gcd_rec k a, Nat.gcd_comm])
    simpa using this
  · have : k = 0 := by omega
    subst this
    rw [Nat.gcd_zero_right] at hg
    subst hg
    have g0 : 0 < Nat.gcd n.natAbs d.natAbs := Nat.gcd_pos_of_pos_right _ (by omega)
    have gd : Nat.gcd n.natAbs d.natAbs ≤ d.natAbs := Nat.le_of_dvd (by omega) (Nat.gcd_dvd_right _ _)
    have bf := fun i : Int => bop_fdiv (i := i) (j := ((Nat.gcd n.natAbs d.natAbs : Nat) : Int)) (divOk_small (by omega) (by omega))
    have hd' : ¬ d < 0 := by omega
    simp [hd', bf]
    exact wp_fin_same rfl h
end Cs

set_option Elab.async false
set_option linter.all false
set_option maxRecDepth 100000
namespace Cs
open PySem PySem.Spec PyProof.Rows L2

/-! ### data that may be compared and shown -/
structure Nc (n w : Nat) (d : D) : Prop where
  pure : d.pure = true
  lay : d.py.canLay0 = true
  sho : d.py.showable = true
  itn : d.py.intsShort 13 = true
  dep : d.py.depth ≤ n
  wt : d.py.weight ≤ w
theorem Nc.mono {n w n' w' : Nat} {d : D} (h : Nc n w d) (l1 : n ≤ n') (l2 : w ≤ w') : Nc n' w' d := ⟨h.pure, h.lay, h.sho, h.itn, Nat.le_trans h.dep l1, Nat.le_trans h.wt l2⟩
theorem Nc.bl (b : Bool) (n w : Nat) : Nc n w (.bl b) := ⟨rfl, by simp [D.py, PyData.canLay0], by simp [D.py, PyData.showable], by simp [D.py, PyData.intsShort], by simp [D.py, PyData.depth], by simp [D.py, PyData.weight]⟩
theorem Nc.int {i : Int} (h : i.natAbs < 10 ^ 12) (n : Nat) : Nc n 40 (.int i) := by
  have l : i.natAbs = 0 ∨ i.natAbs.log2 < 40 := by
    by_cases z : i.natAbs = 0
    · exact .inl z
    · exact .inr ((Nat.log2_lt z).mpr (by omega))
  refine ⟨rfl, by simp [D.py, PyData.canLay0], ?_, ?_, by simp [D.py, PyData.depth], ?_⟩
  · simp only [D.py, PyData.showable, decide_eq_true_eq]
    rcases l with z | z
    · rw [z]; decide
    · omega
  · simp only [D.py, PyData.intsShort, decide_eq_true_eq]
    exact PyData.shown_int_le h
  · simp only [D.py, PyData.weight]
    split
    · omega
    · rename_i z
      have : i ≠ 0 := by simpa using z
      rcases l with z | z
      · omega
      · omega
theorem Nc.str {z : Str} (h : PyData.strOk z = true) {w : Nat} (hw : z.length ≤ w) (n : Nat) : Nc n w (.str z) :=
  ⟨rfl, by simpa [D.py, PyData.canLay0] using h, by simp [D.py, PyData.showable], by simp [D.py, PyData.intsShort], by simp [D.py, PyData.depth], by simp only [D.py, PyData.weight]; exact hw⟩
theorem Nc.lit (s : String) {w : Nat} (hw : s.length ≤ w) (n : Nat) : Nc n w (.str (Str.ofString s)) := .str (strOk_ofString s) (by rw [PySem.ofString_length]; exact hw) n
theorem NcL_facts {n w : Nat} : ∀ {ds : List D}, (∀ d ∈ ds, Nc n w d) → D.pureL ds = true ∧ PyData.canLayAll0 (D.pyL ds) = true ∧ PyData.showableAll (D.pyL ds) = true ∧ PyData.intsShortAll 13 (D.pyL ds) = true ∧ PyData.depthAll (D.pyL ds) ≤ n ∧ PyData.weightAll (D.pyL ds) ≤ ds.length * (w + 1)
  | [], _ => by simp [D.pureL, D.pyL, PyData.canLayAll0, PyData.showableAll, PyData.intsShortAll, PyData.depthAll, PyData.weightAll]
  | d :: ds, h => by
    obtain ⟨h1, h2, h3, h4, h5, h6⟩ := NcL_facts (ds := ds) fun x hx => h x (List.mem_cons_of_mem _ hx)
    have hd := h d (List.mem_cons_self ..)
    have := hd.wt
    have e : (ds.length + 1) * (w + 1) = ds.length * (w + 1) + (w + 1) := by rw [Nat.add_mul]; omega
    refine ⟨by simp [D.pureL, hd.pure, h1], by simp [D.pyL, PyData.canLayAll0, hd.lay, h2], by simp [D.pyL, PyData.showableAll, hd.sho, h3], by simp [D.pyL, PyData.intsShortAll, hd.itn, h4], ?_, ?_⟩
    · simp only [D.pyL, PyData.depthAll]; have := hd.dep; omega
    · simp only [D.pyL, PyData.weightAll, List.length_cons]; omega
theorem Nc.tup {n w : Nat} {ds : List D} (h : ∀ d ∈ ds, Nc n w d) : Nc (n + 1) (ds.length * (w + 1)) (.tup ds) := by
  obtain ⟨h1, h2, h3, h4, h5, h6⟩ := NcL_facts h
  exact ⟨by simpa [D.pure] using h1, by simpa [D.py, PyData.canLay0] using h2, by simpa [D.py, PyData.showable] using h3, by simpa [D.py, PyData.intsShort] using h4, by simp only [D.py, PyData.depth]; omega, by simpa [D.py, PyData.weight] using h6⟩
theorem Nc.okD {n w : Nat} {d : D} (h : Nc n w d) (hn : n ≤ 64) : d.ok := ⟨h.pure, by simp only [SeqAt.shaped, h.lay, Bool.true_and, decide_eq_true_eq]; have := h.dep; omega⟩
theorem Nc.okL {n w : Nat} {ds : List D} (h : ∀ d ∈ ds, Nc n w d) (hn : n < 64) : okL ds := by
  obtain ⟨h1, h2, h3, h4, h5, h6⟩ := NcL_facts h
  refine ⟨h1, ?_⟩
  have e : PyData.depth (.list (D.pyL ds)) = PyData.depthAll (D.pyL ds) + 1 := by simp [PyData.depth]
  simp only [SeqAt.shaped, PyData.canLay0, h2, Bool.true_and, decide_eq_true_eq, e]
  omega
theorem Nc.sh {n w : Nat} {d : D} (h : Nc n w d) (hn : n ≤ 64) (hw : w ≤ 1000000) : shOk d.py := by
  refine ⟨h.sho, PyData.hasDict_of_canLay _ h.lay, by have := h.dep; omega, ?_⟩
  have := PyData.shown_le 13 (by decide) d.py (PyData.leavesShort_of_canLay0 13 _ h.lay h.itn)
  have := h.wt
  rw [sizeLine_eq]; omega
theorem cmpd_nc {n w : Nat} {d : D} (h : Nc n w d) (hn : n ≤ 64) (S : Sto) : cmpd S d = some d.py := by
  have o := h.okD hn
  cases d with
  | loc m => have := h.pure; simp [D.pure] at this
  | _ => simp only [cmpd]; exact if_pos o
theorem repr_nc {n w : Nat} {xs : List D} (h : Nc n w (.tup xs)) (hn : n ≤ 64) (hw : w ≤ 1000000) (S : Sto) : bRepr [.tup xs] S = some (.str (D.py (.tup xs)).shown, S) :=
  if_pos ⟨by simpa [D.pure] using h.pure, h.sh hn hw⟩
@[simp] theorem repr_bl (b : Bool) (S : Sto) : bRepr [.bl b] S = some (.str (if b then ("True" : String) else "False"), S) := rfl
theorem in_tup {n w : Nat} {x : D} {ys : List D} (hx : Nc n w x) (hy : ∀ d ∈ ys, Nc n w d) (hn : n < 64) (S : Sto) : cop .isin x (.tup ys) S = some (.bl ((D.pyL ys).any fun z => PyData.eqv z x.py), S) := by
  show copL .isin x (.tup ys) S = _
  simp only [copL, cmpd_nc hx (Nat.le_of_lt hn)]
  exact if_pos (Nc.okL hy hn)
theorem in_loc {n w m : Nat} {x : D} {ys : List D} {S : Sto} (hx : Nc n w x) (e : getL S m = some ys) (hy : ∀ d ∈ ys, Nc n w d) (hn : n < 64) : cop .isin x (.loc m) S = some (.bl ((D.pyL ys).any fun z => PyData.eqv z x.py), S) := by
  simp only [cop, dkAt_list e, copL, cmpd_nc hx (Nat.le_of_lt hn), e]
  exact if_pos (Nc.okL hy hn)
theorem notin_loc {n w m : Nat} {x : D} {ys : List D} {S : Sto} (hx : Nc n w x) (e : getL S m = some ys) (hy : ∀ d ∈ ys, Nc n w d) (hn : n < 64) : cop .notin x (.loc m) S = some (.bl (!(D.pyL ys).any fun z => PyData.eqv z x.py), S) := by
  simp only [cop, dkAt_list e, copL, cmpd_nc hx (Nat.le_of_lt hn), e]
  exact if_pos (Nc.okL hy hn)
theorem eq_loc {n w m m' : Nat} {xs ys : List D} {S : Sto} (e1 : getL S m = some xs) (e2 : getL S m' = some ys) (hx : ∀ d ∈ xs, Nc n w d) (hy : ∀ d ∈ ys, Nc n w d) (hn : n < 64) : cop .eq (.loc m) (.loc m') S = some (.bl (PyData.eqvAll (D.pyL xs) (D.pyL ys)), S) := by
  have h1 : cmpd S (.loc m) = some (.list (D.pyL xs)) := by simp only [cmpd, e1]; exact if_pos (Nc.okL hx hn)
  have h2 : cmpd S (.loc m') = some (.list (D.pyL ys)) := by simp only [cmpd, e2]; exact if_pos (Nc.okL hy hn)
  simp only [cop, copL, copEq, scD, h1, h2, PyData.eqv]; rfl
@[simp] theorem str_beq (a b : String) : (Str.ofString a == Str.ofString b) = (a == b) := by
  rw [Bool.eq_iff_iff]
  simp [ofString_inj]
/-! ### words -/
theorem strOk_app {a b : Str} (ha : PyData.strOk a = true) (hb : PyData.strOk b = true) : PyData.strOk (a ++ b) = true := by
  show ((a.cps ++ b.cps).all _) = true
  rw [Array.all_append]
  exact Bool.and_eq_true_iff.mpr ⟨ha, hb⟩
theorem strOk_one {z : Str} (h : PyData.strOk z = true) {c : Nat} (hc : c ∈ z.cps.toList) : PyData.strOk ⟨#[c]⟩ = true := by
  have := Array.all_eq_true_iff_forall_mem.mp h c (Array.mem_toList_iff.mp hc)
  simpa [PyData.strOk] using this
theorem iop_str {z : Str} (hz : z.length ≤ sizeLine) {k : Int} (h0 : 0 ≤ k) (h1 : k < z.length) (hs : PyData.strOk z = true) (S : Sto) : ∃ y : Str, iop (.str z) (.int k) S = some (.str y, S) ∧ y.length = 1 ∧ PyData.strOk y = true := by
  obtain ⟨c, hc, e⟩ := atI_in (xs := z.cps.toList) h0 (by simpa [Str.length] using h1)
  refine ⟨⟨#[c]⟩, ?_, rfl, strOk_one hs hc⟩
  show iopL (.str z) (.int k) S = _
  simp only [iopL, if_pos hz, e]
  rfl
end Cs
namespace Cs
open PySem PySem.Spec PyProof.Rows L2
/-! ### lists made in a call -/
section
variable (sc : List D) (t : Tp) (W J : Sto) (i : Nat)
@[simp] theorem iop_ad (k : Int) : iop (.loc (ad W i)) (.int k) (tp sc t ++ (W ++ J)) = match getK J i with
    | some kvs => lift (valD kvs (.inl k)) (tp sc t ++ (W ++ J))
    | none => match getL J i with | some xs => lift (atI xs k) (tp sc t ++ (W ++ J)) | none => none := by
  simp only [iop, dkAt_loc, tp_getK, tp_getT, iopL, tp_getL, keyT]
  cases getK J i <;> cases getT J i <;> cases getL J i <;> rfl
@[simp] theorem iop_adS (s : Str) : iop (.loc (ad W i)) (.str s) (tp sc t ++ (W ++ J)) = match getK J i with
    | some kvs => lift (valD kvs (.inr s)) (tp sc t ++ (W ++ J))
    | none => none := by
  simp only [iop, dkAt_loc, tp_getK, tp_getT, iopL, keyT]
  cases getK J i <;> cases getT J i <;> rfl
@[simp] theorem bTuple_ad : bTuple [.loc (ad W i)] (tp sc t ++ (W ++ J)) = match getL J i with | some xs => some (.tup xs, tp sc t ++ (W ++ J)) | none => none := by
  simp only [bTuple, tp_getL]; cases getL J i <;> rfl
@[simp] theorem bLen_ad : bLen [.loc (ad W i)] (tp sc t ++ (W ++ J)) = match getL J i with | some xs => some (.int xs.length, tp sc t ++ (W ++ J)) | none => none := by
  simp only [bLen, tp_getL]; cases getL J i <;> rfl
@[simp] theorem mTy_ad : mTy "append" (.loc (ad W i)) (tp sc t ++ (W ++ J)) = (getL J i).isSome := by
  simp only [mTy_append, tp_getL]
@[simp] theorem mAppend_ad (y : D) : mAppend (.loc (ad W i)) [y] (tp sc t ++ (W ++ J)) = match getM J i with | some xs => if xs.length < sizeLine then some (.non, tp sc t ++ (W ++ J.set i (.lst (xs ++ [y])))) else none | none => none := by
  simp only [mAppend, tp_getM, tp_set] <;> rfl
@[simp] theorem items_ad : items .seq [.loc (ad W i)] (tp sc t ++ (W ++ J)) = match getL J i with | some xs => some (xs, [(ad W i, xs)]) | none => none := by
  simp only [items, tp_getL]; cases getL J i <;> rfl
@[simp] theorem bop_ad (j : Nat) : bop .add (.loc (ad W i)) (.loc (ad W j)) (tp sc t ++ (W ++ J)) = match getM J i, getM J j with
    | some xs, some ys => if xs.length + ys.length ≤ sizeLine then some (.loc (ad W J.length), tp sc t ++ (W ++ (J ++ [.lst (xs ++ ys)]))) else none
    | _, _ => none := by
  simp only [bop, tp_getM, tp_len, ad_app, tp_app, List.append_assoc, Nat.add_zero] <;> rfl
end
theorem wp_atI {xs : List D} {r : Int} {S : Sto} {Q : D → Sto → Prop} (h0 : 0 ≤ r) (h1 : r < xs.length) (h : ∀ x ∈ xs, Q x S) : wp (lift (atI xs r) S) Q := by
  obtain ⟨x, hx, e⟩ := atI_in h0 h1
  rw [e]
  exact wp_some _ _ _ |>.mpr (h x hx)
theorem rngD_mem {i : Int} {n : Nat} {x : D} (h : x ∈ rngD i n) : ∃ j : Int, x = .int j ∧ i ≤ j ∧ j < i + n := by
  obtain ⟨m, hm, rfl⟩ := List.mem_map.mp h
  have := List.mem_range.mp hm
  exact ⟨_, rfl, by omega, by omega⟩
end Cs

set_option Elab.async false
set_option linter.all false
namespace Lbl

/-! ### searches, in plain Lean -/
section
variable {α : Type} [DecidableEq α]
abbrev keys (bf : List (α × α)) : List α := bf.map (·.1)
/-- one node's turn: its neighbors that are let and new -/
def vis (ok : α → Bool) (c : α) : List α → List (α × α) → List (α × α)
  | [], bf => bf
  | o :: os, bf => if o ∉ keys bf ∧ ok o = true then vis ok c os (bf ++ [(o, c)]) else vis ok c os bf
def bfs (nb : α → List α) (ok : α → Bool) (goal : α) : Nat → List (α × α) → Nat → List (α × α)
  | 0, bf, _ => bf
  | f + 1, bf, i => match (keys bf)[i]? with
    | none => bf
    | some c => if goal ∈ keys bf then bf else bfs nb ok goal f (vis ok c (nb c) bf) (i + 1)
def par (bf : List (α × α)) (x : α) : Option α := (bf.find? fun kv => decide (kv.1 = x)).map (·.2)
def back (bf : List (α × α)) (s : α) : Nat → α → List α
  | 0, x => [x]
  | f + 1, x => if x = s then [x] else match par bf x with
    | some p => x :: back bf s f p
    | none => [x]
/-- how many are left -/
def left (nodes : List α) (bf : List α) : Nat := (nodes.filter fun x => decide (x ∉ bf)).length
def path (nb : α → List α) (ok : α → Bool) (nodes : List α) (s g : α) : Option (List α) :=
  let r := bfs nb ok g (1 + nodes.length) [(s, s)] 0
  if g ∈ keys r then some (back r s r.length g).reverse else none

/-- a tree of parents -/
inductive Tree (nb : α → List α) (ok : α → Bool) (s : α) : List (α × α) → Prop where
  | base : Tree nb ok s [(s, s)]
  | step {bf : List (α × α)} {o c : α} (t : Tree nb ok s bf) (hc : c ∈ keys bf) (ho : o ∉ keys bf) (hn : o ∈ nb c) (hk : ok o = true) : Tree nb ok s (bf ++ [(o, c)])
theorem keys_app (bf : List (α × α)) (o c : α) : keys (bf ++ [(o, c)]) = keys bf ++ [o] := by simp [keys]
theorem Tree.root {nb : α → List α} {ok : α → Bool} {s : α} {bf : List (α × α)} (t : Tree nb ok s bf) : s ∈ keys bf := by
  induction t with
  | base => simp [keys]
  | step t hc ho hn hk ih => rw [keys_app]; exact List.mem_append_left _ ih
inductive Rch (nb : α → List α) (ok : α → Bool) (c : α) : α → Prop where
  | refl : Rch nb ok c c
  | step {d e : α} (r : Rch nb ok c d) (h : e ∈ nb d) (k : ok e = true) : Rch nb ok c e
theorem Rch.trans {nb : α → List α} {ok : α → Bool} {a b c : α} (h : Rch nb ok a b) (k : Rch nb ok b c) : Rch nb ok a c := by
  induction k with
  | refl => exact h
  | step r h1 h2 ih => exact .step ih h1 h2
theorem Tree.rch {nb : α → List α} {ok : α → Bool} {s : α} {bf : List (α × α)} (t : Tree nb ok s bf) : ∀ x ∈ keys bf, Rch nb ok s x := by
  induction t with
  | base => intro x hx; simp [keys] at hx; subst hx; exact .refl
  | step t hc ho hn hk ih =>
    intro x hx
    rw [keys_app] at hx
    rcases List.mem_append.mp hx with h | h
    · exact ih x h
    · have e : x = _ := List.mem_singleton.mp h
      subst e
      exact .step (ih _ hc) hn hk
/-- the place of a key -/
theorem par_app {bf : List (α × α)} {o c x : α} (h : x ∈ keys bf) : par (bf ++ [(o, c)]) x = par bf x := by
  unfold par
  rw [List.find?_append]
  cases e : bf.find? fun kv => decide (kv.1 = x) with
  | some y => rfl
  | none =>
    obtain ⟨y, hy, ey⟩ := List.mem_map.mp h
    have := List.find?_eq_none.mp e y hy
    simp [ey] at this
theorem par_new {bf : List (α × α)} {o c : α} (h : o ∉ keys bf) : par (bf ++ [(o, c)]) o = some c := by
  unfold par
  rw [List.find?_append]
  have e : (bf.find? fun kv => decide (kv.1 = o)) = none := by
    rw [List.find?_eq_none]
    intro y hy
    simp only [decide_eq_true_eq]
    rintro rfl
    exact h (List.mem_map.mpr ⟨y, hy, rfl⟩)
  rw [e]
  simp
/-- a chain: each one the next one's neighbor -/
inductive Chn (nb : α → List α) (ok : α → Bool) (s : α) : List α → α → Prop where
  | one : Chn nb ok s [s] s
  | snoc {l : List α} {x y : α} (h : Chn nb ok s l x) (hn : y ∈ nb x) (hk : ok y = true) : Chn nb ok s (l ++ [y]) y
/-- back to the root: depth d -/
inductive Dep (bf : List (α × α)) (s : α) : Nat → α → Prop where
  | root : Dep bf s 0 s
  | up {d : Nat} {x p : α} (hx : x ≠ s) (hp : par bf x = some p) (h : Dep bf s d p) : Dep bf s (d + 1) x
theorem Dep.app {bf : List (α × α)} {s o c : α} (ho : o ∉ keys bf) {d : Nat} {x : α} (h : Dep bf s d x) : Dep (bf ++ [(o, c)]) s d x := by
  induction h with
  | root => exact .root
  | up hx hp h ih =>
    refine .up hx ?_ ih
    rw [par_app ?_]; exact hp
    unfold par at hp
    cases e : bf.find? fun kv => decide (kv.1 = _) with
    | none => rw [e] at hp; cases hp
    | some y =>
      have h1 := List.mem_of_find?_eq_some e
      have h2 := List.find?_some e
      simp only [decide_eq_true_eq] at h2
      exact List.mem_map.mpr ⟨y, h1, h2⟩
theorem Tree.dep {nb : α → List α} {ok : α → Bool} {s : α} {bf : List (α × α)} (t : Tree nb ok s bf) : ∀ x ∈ keys bf, ∃ d, d < bf.length ∧ Dep bf s d x := by
  induction t with
  | base => intro x hx; simp [keys] at hx; subst hx; exact ⟨0, by simp, .root⟩
  | step t hc ho hn hk ih =>
    intro x hx
    rw [keys_app] at hx
    rcases List.mem_append.mp hx with h | h
    · obtain ⟨d, hd, q⟩ := ih x h
      exact ⟨d, by simp; omega, q.app ho⟩
    · have e : x = _ := List.mem_singleton.mp h
      subst e
      obtain ⟨d, hd, q⟩ := ih _ hc
      exact ⟨d + 1, by simp; omega, .up (fun z => ho (by rw [z]; exact t.root)) (par_new ho) (q.app ho)⟩
theorem Tree.edge {nb : α → List α} {ok : α → Bool} {s : α} {bf : List (α × α)} (t : Tree nb ok s bf) : ∀ x ∈ keys bf, x ≠ s → ∃ p, par bf x = some p ∧ p ∈ keys bf ∧ x ∈ nb p ∧ ok x = true := by
  induction t with
  | base => intro x hx h; simp [keys] at hx; exact absurd hx h
  | step t hc ho hn hk ih =>
    intro x hx hs
    rw [keys_app] at hx ⊢
    rcases List.mem_append.mp hx with h | h
    · obtain ⟨p, h1, h2, h3, h4⟩ := ih x h hs
      exact ⟨p, by rw [par_app h]; exact h1, List.mem_append_left _ h2, h3, h4⟩
    · have e : x = _ := List.mem_singleton.mp h
      subst e
      exact ⟨_, par_new ho, List.mem_append_left _ hc, hn, hk⟩
/-- enough fuel: back gives the same -/
theorem back_dep {bf : List (α × α)} {s : α} {d : Nat} {x : α} (h : Dep bf s d x) : ∀ k, d ≤ k → back bf s k x = back bf s d x := by
  induction h with
  | root => intro k _; cases k <;> simp [back]
  | up hx hp h ih =>
    intro k hk
    obtain ⟨k, rfl⟩ : ∃ j, k = j + 1 := ⟨k - 1, by omega⟩
    simp only [back, if_neg hx, hp]
    rw [ih k (by omega)]
theorem back_chn {nb : α → List α} {ok : α → Bool} {s : α} {bf : List (α × α)} (t : Tree nb ok s bf) {d : Nat} {x : α} (h : Dep bf s d x) (hx : x ∈ keys bf) : Chn nb ok s (back bf s d x).reverse x := by
  induction h with
  | root => simp [back]; exact .one
  | up hx' hp h ih =>
    obtain ⟨p, h1, h2, h3, h4⟩ := t.edge _ hx hx'
    rw [hp] at h1; cases h1
    simp only [back, if_neg hx', hp, List.reverse_cons]
    exact .snoc (ih h2) h3 h4

/-! what a turn does -/
theorem vis_tree {nb : α → List α} {ok : α → Bool} {s c : α} : ∀ (os : List α) (bf : List (α × α)), (∀ o ∈ os, o ∈ nb c) → c ∈ keys bf → Tree nb ok s bf → Tree nb ok s (vis ok c os bf)
  | [], bf, _, _, t => t
  | o :: os, bf, h, hc, t => by
    unfold vis
    split
    · rename_i hh
      exact vis_tree os _ (fun x hx => h x (List.mem_cons_of_mem _ hx)) (by rw [keys_app]; exact List.mem_append_left _ hc) (.step t hc hh.1 (h o (List.mem_cons_self ..)) hh.2)
    · exact vis_tree os _ (fun x hx => h x (List.mem_cons_of_mem _ hx)) hc t
theorem vis_pre {ok : α → Bool} {c : α} : ∀ (os : List α) (bf : List (α × α)), bf <+: vis ok c os bf
  | [], bf => List.prefix_refl _
  | o :: os, bf => by
    unfold vis
    split
    · exact (List.prefix_append _ _).trans (vis_pre os _)
    · exact vis_pre os bf
theorem vis_all {ok : α → Bool} {c : α} : ∀ (os : List α) (bf : List (α × α)), ∀ o ∈ os, ok o = true → o ∈ keys (vis ok c os bf)
  | [], bf => fun o h => by simp at h
  | o :: os, bf => by
    unfold vis
    split
    · intro x hx hk
      rcases List.mem_cons.mp hx with rfl | hx
      · exact (List.IsPrefix.map _ (vis_pre os _)).subset (by simp)
      · exact vis_all os _ x hx hk
    · rename_i hh
      intro x hx hk
      rcases List.mem_cons.mp hx with rfl | hx
      · by_cases z : x ∈ keys bf
        · exact (List.IsPrefix.map _ (vis_pre os _)).subset z
        · exact absurd ⟨z, hk⟩ hh
      · exact vis_all os _ x hx hk
theorem left_app {nodes bf : List α} {o : α} (h : o ∈ nodes) (hb : o ∉ bf) : left nodes (bf ++ [o]) + 1 ≤ left nodes bf := by
  unfold left
  induction nodes with
  | nil => simp at h
  | cons x xs ih =>
    have mono : ∀ l : List α, (l.filter fun x => decide (x ∉ bf ++ [o])).length ≤ (l.filter fun x => decide (x ∉ bf)).length := by
      intro l
      induction l with
      | nil => simp
      | cons y ys ih2 =>
        by_cases h1 : y ∈ bf
        · simp [List.filter_cons, h1] at ih2 ⊢; exact ih2
        · by_cases h2 : y = o
          · simp [List.filter_cons, h1, h2, hb] at ih2 ⊢; omega
          · simp [List.filter_cons, h1, h2] at ih2 ⊢; exact ih2
    have mx := mono xs
    rcases List.mem_cons.mp h with rfl | h'
    · simp [List.filter_cons, hb] at mx ⊢; exact mx
    · have := ih h'
      by_cases h1 : x ∈ bf
      · simp [List.filter_cons, h1] at this ⊢; exact this
      · by_cases h2 : x = o
        · simp [List.filter_cons, h1, h2, hb] at this mx ⊢; omega
        · simp [List.filter_cons, h1, h2] at this ⊢; exact this
theorem vis_left {ok : α → Bool} {c : α} {nodes : List α} : ∀ (os : List α) (bf : List (α × α)), (∀ o ∈ os, ok o = true → o ∈ nodes) → (keys (vis ok c os bf)).length + left nodes (keys (vis ok c os bf)) ≤ (keys bf).length + left nodes (keys bf)
  | [], bf, _ => Nat.le_refl _
  | o :: os, bf, h => by
    unfold vis
    split
    · rename_i hh
      have := vis_left (c := c) os (bf ++ [(o, c)]) fun x hx => h x (List.mem_cons_of_mem _ hx)
      have l := left_app (nodes := nodes) (bf := keys bf) (h o (List.mem_cons_self ..) hh.2) hh.1
      rw [keys_app] at this
      simp only [List.length_append, List.length_singleton] at this
      omega
    · exact vis_left os bf fun x hx => h x (List.mem_cons_of_mem _ hx)
/-- what the search keeps -/
structure Sch (nb : α → List α) (ok : α → Bool) (s : α) (bf : List (α × α)) (i : Nat) : Prop where
  t : Tree nb ok s bf
  le : i ≤ (keys bf).length
  cl : ∀ j c, j < i → (keys bf)[j]? = some c → ∀ o ∈ nb c, ok o = true → o ∈ keys bf
theorem keys_get {bf bf' : List (α × α)} (h : bf <+: bf') {i : Nat} {c : α} (e : (keys bf)[i]? = some c) : (keys bf')[i]? = some c := by
  obtain ⟨t, rfl⟩ := h
  have : i < (keys bf).length := (List.getElem?_eq_some_iff.mp e).1
  rw [keys, List.map_append, List.getElem?_append_left this]; exact e
theorem Sch.next {nb : α → List α} {ok : α → Bool} {s : α} {bf : List (α × α)} {i : Nat} {c : α} (h : Sch nb ok s bf i) (e : (keys bf)[i]? = some c) : Sch nb ok s (vis ok c (nb c) bf) (i + 1) := by
  have hc : c ∈ keys bf := List.mem_of_getElem? e
  have hi : i < (keys bf).length := (List.getElem?_eq_some_iff.mp e).1
  have pr := vis_pre (ok := ok) (c := c) (nb c) bf
  have pk : keys bf <+: keys (vis ok c (nb c) bf) := List.IsPrefix.map _ pr
  refine ⟨vis_tree _ _ (fun o h => h) hc h.t, Nat.lt_of_lt_of_le hi pk.length_le, fun j d hj ej o ho hk => ?_⟩
  by_cases z : j = i
  · subst z
    rw [keys_get pr e] at ej
    cases ej
    exact vis_all _ _ o ho hk
  · have hj' : j < i := by omega
    have : (keys bf)[j]? = some d := by
      obtain ⟨t, et⟩ := pk
      rw [← et, List.getElem?_append_left (by omega)] at ej
      exact ej
    exact pk.subset (h.cl j d hj' this o ho hk)
/-- .. to its end -/
theorem bfs_end {nb : α → List α} {ok : α → Bool} {s g : α} {nodes : List α} (hn : ∀ c, ∀ o ∈ nb c, ok o = true → o ∈ nodes) : ∀ (f : Nat) (bf : List (α × α)) (i : Nat), Sch nb ok s bf i → (keys bf).length + left nodes (keys bf) ≤ f + i →
    ∃ j, Sch nb ok s (bfs nb ok g f bf i) j ∧ (g ∈ keys (bfs nb ok g f bf i) ∨ j = (keys (bfs nb ok g f bf i)).length)
  | 0, bf, i, h, hf => ⟨i, h, .inr (by have := h.le; show i = (keys bf).length; omega)⟩
  | f + 1, bf, i, h, hf => by
    unfold bfs
    split
    · rename_i e
      refine ⟨i, h, .inr ?_⟩
      have := List.getElem?_eq_none_iff.mp e
      have := h.le
      omega
    · rename_i c e
      split
      · rename_i hg
        exact ⟨i, h, .inl hg⟩
      · refine bfs_end hn f _ _ (h.next e) ?_
        have := vis_left (c := c) (nb c) bf (hn c)
        omega
theorem Sch.base {nb : α → List α} {ok : α → Bool} {s : α} : Sch nb ok s [(s, s)] 0 := ⟨.base, Nat.zero_le _, fun j c hj => absurd hj (Nat.not_lt_zero _)⟩
theorem left_le {nodes bf : List α} : left nodes bf ≤ nodes.length := List.length_filter_le _ _
theorem path_some {nb : α → List α} {ok : α → Bool} {s g : α} {nodes l : List α} (hn : ∀ c, ∀ o ∈ nb c, ok o = true → o ∈ nodes) (h : path nb ok nodes s g = some l) : Chn nb ok s l g := by
  unfold path at h
  simp only at h
  split at h
  · rename_i hg
    cases h
    obtain ⟨j, hs, _⟩ := bfs_end (g := g) hn (1 + nodes.length) [(s, s)] 0 Sch.base (by have := left_le (nodes := nodes) (bf := keys [(s, s)]); simp [keys] at this ⊢; omega)
    obtain ⟨d, hd, hp⟩ := hs.t.dep g hg
    rw [back_dep hp _ (by omega)]
    exact back_chn hs.t hp hg
  · cases h
theorem Chn.rch {nb : α → List α} {ok : α → Bool} {s g : α} {l : List α} (h : Chn nb ok s l g) : Rch nb ok s g := by
  induction h with
  | one => exact .refl
  | snoc h h1 h2 ih => exact .step ih h1 h2
theorem path_none {nb : α → List α} {ok : α → Bool} {s g : α} {nodes : List α} (hn : ∀ c, ∀ o ∈ nb c, ok o = true → o ∈ nodes) (h : path nb ok nodes s g = none) : ¬ Rch nb ok s g := by
  unfold path at h
  simp only at h
  split at h
  · cases h
  · rename_i hg
    obtain ⟨j, hs, q⟩ := bfs_end (g := g) hn (1 + nodes.length) [(s, s)] 0 Sch.base (by have := left_le (nodes := nodes) (bf := keys [(s, s)]); simp [keys] at this ⊢; omega)
    have ej : j = _ := q.resolve_left hg
    have all : ∀ x, Rch nb ok s x → x ∈ keys (bfs nb ok g (1 + nodes.length) [(s, s)] 0) := by
      intro x hx
      induction hx with
      | refl => exact hs.t.root
      | step r h1 h2 ih =>
        obtain ⟨i, hi⟩ := List.mem_iff_getElem?.mp ih
        exact hs.cl i _ (by rw [ej]; exact (List.getElem?_eq_some_iff.mp hi).1) hi _ h1 h2
    exact fun r => hg (all g r)

/-! the closure -/
def visD (ok : α → Bool) : List α → List α → List α → List α × List α
  | [], fd, st => (fd, st)
  | o :: os, fd, st => if o ∉ fd ∧ ok o = true then visD ok os (fd ++ [o]) (st ++ [o]) else visD ok os fd st
def dfs (nb : α → List α) (ok : α → Bool) : Nat → List α → List α → List α
  | 0, fd, _ => fd
  | f + 1, fd, st => match st.getLast? with
    | none => fd
    | some c => dfs nb ok f (visD ok (nb c) fd st.dropLast).1 (visD ok (nb c) fd st.dropLast).2
def clos (nb : α → List α) (ok : α → Bool) (nodes : List α) (s : α) : List α := dfs nb ok (1 + nodes.length) [s] [s]
theorem visD_sub {ok : α → Bool} : ∀ (os fd st : List α), (∀ x ∈ fd, x ∈ (visD ok os fd st).1) ∧ (∀ x ∈ st, x ∈ (visD ok os fd st).2) ∧ (∀ o ∈ os, ok o = true → o ∈ (visD ok os fd st).1) ∧
    (∀ x ∈ (visD ok os fd st).1, x ∈ fd ∨ (x ∈ os ∧ ok x = true ∧ x ∈ (visD ok os fd st).2)) ∧ (∀ x ∈ (visD ok os fd st).2, x ∈ st ∨ x ∈ (visD ok os fd st).1)
  | [], fd, st => ⟨fun _ h => h, fun _ h => h, fun o h => by simp at h, fun _ h => .inl h, fun _ h => .inl h⟩
  | o :: os, fd, st => by
    unfold visD
    split
    · rename_i hh
      obtain ⟨h1, h2, h3, h4, h5⟩ := visD_sub (ok := ok) os (fd ++ [o]) (st ++ [o])
      refine ⟨fun x hx => h1 x (List.mem_append_left _ hx), fun x hx => h2 x (List.mem_append_left _ hx), fun x hx hk => ?_, fun x hx => ?_, fun x hx => ?_⟩
      · rcases List.mem_cons.mp hx with rfl | hx
        · exact h1 x (by simp)
        · exact h3 x hx hk
      · rcases h4 x hx with q | ⟨q1, q2, q3⟩
        · rcases List.mem_append.mp q with q | q
          · exact .inl q
          · have e : x = o := List.mem_singleton.mp q
            subst e
            exact .inr ⟨List.mem_cons_self .., hh.2, h2 x (by simp)⟩
        · exact .inr ⟨List.mem_cons_of_mem _ q1, q2, q3⟩
      · rcases h5 x hx with q | q
        · rcases List.mem_append.mp q with q | q
          · exact .inl q
          · have e : x = o := List.mem_singleton.mp q
            subst e
            exact .inr (h1 x (by simp))
        · exact .inr q
    · rename_i hh
      obtain ⟨h1, h2, h3, h4, h5⟩ := visD_sub (ok := ok) os fd st
      refine ⟨h1, h2, fun x hx hk => ?_, fun x hx => ?_, h5⟩
      · rcases List.mem_cons.mp hx with rfl | hx
        · by_cases z : x ∈ fd
          · exact h1 x z
          · exact absurd ⟨z, hk⟩ hh
        · exact h3 x hx hk
      · rcases h4 x hx with q | ⟨q1, q2, q3⟩
        · exact .inl q
        · exact .inr ⟨List.mem_cons_of_mem _ q1, q2, q3⟩
theorem visD_left {ok : α → Bool} {nodes : List α} : ∀ (os fd st : List α), (∀ o ∈ os, ok o = true → o ∈ nodes) → (visD ok os fd st).2.length + left nodes (visD ok os fd st).1 ≤ st.length + left nodes fd
  | [], fd, st, _ => Nat.le_refl _
  | o :: os, fd, st, h => by
    unfold visD
    split
    · rename_i hh
      have := visD_left (ok := ok) os (fd ++ [o]) (st ++ [o]) fun x hx => h x (List.mem_cons_of_mem _ hx)
      have l := left_app (nodes := nodes) (bf := fd) (h o (List.mem_cons_self ..) hh.2) hh.1
      simp only [List.length_append, List.length_singleton] at this
      omega
    · exact visD_left os fd st fun x hx => h x (List.mem_cons_of_mem _ hx)
structure Cls (nb : α → List α) (ok : α → Bool) (s : α) (fd st : List α) : Prop where
  root : s ∈ fd
  rch : ∀ x ∈ fd, Rch nb ok s x
  sub : ∀ x ∈ st, x ∈ fd
  cl : ∀ c ∈ fd, c ∈ st ∨ ∀ o ∈ nb c, ok o = true → o ∈ fd
theorem dropLast_mem {l : List α} {c : α} (h : l.getLast? = some c) : ∀ x ∈ l, x ∈ l.dropLast ∨ x = c := by
  intro x hx
  have e : l = l.dropLast ++ [c] := by
    have hne : l ≠ [] := by rintro rfl; simp at h
    have : l.getLast hne = c := by rw [List.getLast?_eq_some_getLast hne] at h; exact Option.some.inj h
    rw [← this]; exact (List.dropLast_concat_getLast hne).symm
  rw [e] at hx
  rcases List.mem_append.mp hx with q | q
  · exact .inl q
  · exact .inr (List.mem_singleton.mp q)
theorem Cls.next {nb : α → List α} {ok : α → Bool} {s c : α} {fd st : List α} (h : Cls nb ok s fd st) (e : st.getLast? = some c) : Cls nb ok s (visD ok (nb c) fd st.dropLast).1 (visD ok (nb c) fd st.dropLast).2 := by
  obtain ⟨h1, h2, h3, h4, h5⟩ := visD_sub (ok := ok) (nb c) fd st.dropLast
  have hc : c ∈ fd := h.sub c (List.mem_of_getLast? e)
  refine ⟨h1 _ h.root, fun x hx => ?_, fun x hx => ?_, fun x hx => ?_⟩
  · rcases h4 x hx with q | ⟨q1, q2, _⟩
    · exact h.rch x q
    · exact .step (h.rch c hc) q1 q2
  · rcases h5 x hx with q | q
    · exact h1 x (h.sub x (List.dropLast_subset _ q))
    · exact q
  · rcases h4 x hx with q | ⟨_, _, q⟩
    · rcases h.cl x q with z | z
      · rcases dropLast_mem e x z with w | rfl
        · exact .inl (h2 x w)
        · exact .inr fun o ho hk => h3 o ho hk
      · exact .inr fun o ho hk => h1 o (z o ho hk)
    · exact .inl q
theorem dfs_end {nb : α → List α} {ok : α → Bool} {s : α} {nodes : List α} (hn : ∀ c, ∀ o ∈ nb c, ok o = true → o ∈ nodes) : ∀ (f : Nat) (fd st : List α), Cls nb ok s fd st → st.length + left nodes fd ≤ f → Cls nb ok s (dfs nb ok f fd st) []
  | 0, fd, st, h, hf => by
    have : st = [] := List.eq_nil_of_length_eq_zero (by omega)
    subst this
    exact h
  | f + 1, fd, st, h, hf => by
    unfold dfs
    split
    · rename_i e
      have : st = [] := List.getLast?_eq_none_iff.mp e
      subst this
      exact h
    · rename_i c e
      refine dfs_end hn f _ _ (h.next e) ?_
      have hl := visD_left (nb c) fd st.dropLast (hn c)
      have : st ≠ [] := by rintro rfl; simp at e
      have : 0 < st.length := List.length_pos_iff.mpr this
      rw [List.length_dropLast] at hl
      omega
theorem clos_iff {nb : α → List α} {ok : α → Bool} {s : α} {nodes : List α} (hn : ∀ c, ∀ o ∈ nb c, ok o = true → o ∈ nodes) (x : α) : x ∈ clos nb ok nodes s ↔ Rch nb ok s x := by
  have h := dfs_end (s := s) hn (1 + nodes.length) [s] [s] ⟨by simp, fun x hx => by simp at hx; subst hx; exact .refl, fun x h => h, fun c hc => .inl hc⟩ (by have := left_le (nodes := nodes) (bf := [s]); simp; omega)
  refine ⟨h.rch x, fun r => ?_⟩
  induction r with
  | refl => exact h.root
  | step r h1 h2 ih => exact ((h.cl _ ih).resolve_left (by simp)) _ h1 h2
end
end Lbl
namespace Lbl
/-! ### choices of labels -/
abbrev Ch := Nat × Bool
def neg (c : Ch) : Ch := (c.1, !c.2)
@[simp] theorem neg_neg (c : Ch) : neg (neg c) = c := by simp [neg]
@[simp] theorem neg_fst (c : Ch) : (neg c).1 = c.1 := rfl
def choices (ls : List Nat) : List Ch := ls.flatMap fun l => [(l, false), (l, true)]
theorem mem_choices {ls : List Nat} {c : Ch} : c ∈ choices ls ↔ c.1 ∈ ls := by
  unfold choices
  rw [List.mem_flatMap]
  constructor
  · rintro ⟨l, hl, h⟩
    simp at h
    rcases h with rfl | rfl <;> exact hl
  · intro h
    refine ⟨c.1, h, ?_⟩
    obtain ⟨l, b⟩ := c
    cases b <;> simp
section
variable (F : Ch → Ch → Bool) (n : Nat)
def nbr (c : Ch) : List Ch := (choices (List.range n)).filter (F c)
def okM (ms : List Nat) (c : Ch) : Bool := decide (c.1 ∈ ms)
def nodes (ms : List Nat) : List Ch := choices ms
def pathM (ms : List Nat) (s g : Ch) : Option (List Ch) := path (nbr F n) (okM ms) (nodes ms) s g
def reason (ms : List Nat) (l : Nat) : Option (List Ch × List Ch) := match pathM F n ms (l, false) (l, true), pathM F n ms (l, true) (l, false) with
  | some a, some b => some (a, b)
  | _, _ => none
def closM (ms : List Nat) (s : Ch) : List Ch := clos (nbr F n) (okM ms) (nodes ms) s
def poss (cs : List Ch) : Bool := cs.all fun c => decide (neg c ∉ cs)
def keptL : List Nat → List Nat → List Nat
  | [], ks => ks
  | l :: ls, ks => if reason F n (ks ++ [l]) l = none then keptL ls (ks ++ [l]) else keptL ls ks
def kept : List Nat := keptL F n (List.range n) []
/-- sides by label, as a dict -/
def putS (sd : List (Nat × Bool)) (c : Ch) : List (Nat × Bool) := if c.1 ∈ sd.map (·.1) then sd.map (fun kv => if kv.1 = c.1 then (kv.1, c.2) else kv) else sd ++ [c]
def sidesL (ms : List Nat) : List Nat → List (Nat × Bool) → Option (List (Nat × Bool))
  | [], sd => some sd
  | l :: ls, sd => if l ∈ sd.map (·.1) then sidesL ms ls sd else
      if poss (closM F n ms (l, false)) = true then sidesL ms ls ((closM F n ms (l, false)).foldl putS sd) else
      if poss (closM F n ms (l, true)) = true then sidesL ms ls ((closM F n ms (l, true)).foldl putS sd) else none
def getS (sd : List (Nat × Bool)) (l : Nat) : Bool := ((sd.find? fun kv => decide (kv.1 = l)).map (·.2)).getD false
def sides (ms : List Nat) : Option (List Bool) := (sidesL F n ms ms []).map fun sd => ms.map (getS sd)
end
theorem nodes_ok {F : Ch → Ch → Bool} {n : Nat} {ms : List Nat} : ∀ c, ∀ o ∈ nbr F n c, okM ms o = true → o ∈ nodes ms := by
  intro c o _ h
  exact mem_choices.mpr (by simpa [okM] using h)
/-- reachable over some labels -/
abbrev R (F : Ch → Ch → Bool) (n : Nat) (ms : List Nat) (c d : Ch) : Prop := Rch (nbr F n) (okM ms) c d
structure Skew (F : Ch → Ch → Bool) (n : Nat) : Prop where
  sk : ∀ c d, c.1 < n → d.1 < n → F c d = true → F (neg d) (neg c) = true
section
variable {F : Ch → Ch → Bool} {n : Nat} {ms : List Nat}
theorem mem_nbr {c d : Ch} : d ∈ nbr F n c ↔ d.1 < n ∧ F c d = true := by
  unfold nbr
  rw [List.mem_filter, mem_choices, List.mem_range]
theorem R.ok {c d : Ch} (h : R F n ms c d) : c = d ∨ d.1 ∈ ms := by
  cases h with
  | refl => exact .inl rfl
  | step r h k => exact .inr (by simpa [okM] using k)
theorem R.one {c d : Ch} (hd : d.1 < n) (hm : d.1 ∈ ms) (h : F c d = true) : R F n ms c d := .step .refl (mem_nbr.mpr ⟨hd, h⟩) (by simpa [okM] using hm)
theorem R.skew (sk : Skew F n) (hn : ∀ l ∈ ms, l < n) {c d : Ch} (hc : c.1 ∈ ms) (h : R F n ms c d) : R F n ms (neg d) (neg c) := by
  induction h with
  | refl => exact .refl
  | @step d e r h k ih =>
    obtain ⟨h1, h2⟩ := mem_nbr.mp h
    have dm : d.1 ∈ ms := by
      rcases R.ok r with rfl | z
      · exact hc
      · exact z
    exact (R.one (by rw [neg_fst]; exact hn _ dm) (by rw [neg_fst]; exact dm) (sk.sk d e (hn _ dm) h1 h2)).trans ih
theorem R.mono {ms' : List Nat} (hs : ∀ l ∈ ms, l ∈ ms') {c d : Ch} (h : R F n ms c d) : R F n ms' c d := by
  induction h with
  | refl => exact .refl
  | step r h k ih => exact .step ih h (by simp [okM] at k ⊢; exact hs _ k)
/-- through a further label, or not -/
theorem R.split {l : Nat} {ms' : List Nat} (hs : ∀ m ∈ ms', m ∈ ms ∨ m = l) {c d : Ch} (h : R F n ms' c d) : R F n ms c d ∨ ∃ b, R F n ms' c (l, b) ∧ R F n ms' (l, b) d := by
  induction h with
  | refl => exact .inl .refl
  | @step d e r h k ih =>
    have em : e.1 ∈ ms' := by simpa [okM] using k
    rcases ih with z | ⟨b, z1, z2⟩
    · rcases hs _ em with q | q
      · exact .inl (.step z h (by simpa [okM] using q))
      · refine .inr ⟨e.2, ?_, ?_⟩
        · rw [← q]; exact .step r h k
        · rw [← q]; exact .refl
    · exact .inr ⟨b, z1, .step z2 h k⟩
/-- no label of them both of whose choices force each other -/
def Fine (F : Ch → Ch → Bool) (n : Nat) (ms : List Nat) : Prop := ∀ l ∈ ms, ¬ (R F n ms (l, false) (l, true) ∧ R F n ms (l, true) (l, false))
theorem neg_mk (l : Nat) (b : Bool) : neg (l, b) = (l, !b) := rfl
theorem Fine.add (sk : Skew F n) {l : Nat} {ms' : List Nat} (h : Fine F n ms) (hs : ∀ m ∈ ms', m ∈ ms ∨ m = l) (hi : ∀ m ∈ ms, m ∈ ms') (hl : l ∈ ms') (hn : ∀ m ∈ ms', m < n)
    (hh : ¬ (R F n ms' (l, false) (l, true) ∧ R F n ms' (l, true) (l, false))) : Fine F n ms' := by
  intro m hm ⟨h1, h2⟩
  rcases hs m hm with hm0 | rfl
  · -- a path through the new label gives both ways for it
    have thru : ∀ (x y : Bool), R F n ms' (m, x) (m, !x) → R F n ms' (m, !x) (m, x) → R F n ms' (m, x) (l, y) → R F n ms' (l, y) (m, !x) → False := by
      intro x y a b c d
      -- l y ⇝ m !x ⇝ m x ⇝ l !y ;  l !y ⇝ m !x ⇝ m x ⇝ l y
      have e1 : R F n ms' (m, x) (l, !y) := by have := R.skew sk hn (by exact hl) d; simpa [neg] using this
      have e2 : R F n ms' (l, !y) (m, !x) := by have := R.skew sk hn (by exact hm) c; simpa [neg] using this
      have f1 : R F n ms' (l, y) (l, !y) := d.trans (b.trans e1)
      have f2 : R F n ms' (l, !y) (l, y) := e2.trans (b.trans c)
      cases y with
      | false => exact hh ⟨f1, f2⟩
      | true => exact hh ⟨f2, f1⟩
    rcases R.split (ms := ms) hs h1 with a | ⟨y, a1, a2⟩
    · rcases R.split (ms := ms) hs h2 with b | ⟨y, b1, b2⟩
      · exact h m hm0 ⟨a, b⟩
      · exact thru true y h2 h1 b1 b2
    · exact thru false y h1 h2 a1 a2
  · exact hh ⟨h1, h2⟩
theorem pathM_none {s g : Ch} (h : pathM F n ms s g = none) : ¬ R F n ms s g := path_none nodes_ok h
theorem pathM_some {s g : Ch} {l : List Ch} (h : pathM F n ms s g = some l) : Chn (nbr F n) (okM ms) s l g := path_some nodes_ok h
theorem reason_none {l : Nat} (h : reason F n ms l = none) : ¬ (R F n ms (l, false) (l, true) ∧ R F n ms (l, true) (l, false)) := by
  unfold reason at h
  rintro ⟨h1, h2⟩
  split at h
  · cases h
  · rename_i hx
    cases e1 : pathM F n ms (l, false) (l, true) with
    | none => exact pathM_none e1 h1
    | some a =>
      cases e2 : pathM F n ms (l, true) (l, false) with
      | none => exact pathM_none e2 h2
      | some b => exact hx a b e1 e2
theorem keptL_fine (sk : Skew F n) : ∀ (ls ks : List Nat), Fine F n ks → (∀ l ∈ ks, l < n) → (∀ l ∈ ls, l < n) → Fine F n (keptL F n ls ks) ∧ (∀ l ∈ keptL F n ls ks, l < n)
  | [], ks, h, h1, _ => ⟨h, h1⟩
  | l :: ls, ks, h, h1, h2 => by
    unfold keptL
    have hn : ∀ m ∈ ks ++ [l], m < n := by
      intro m hm
      rcases List.mem_append.mp hm with q | q
      · exact h1 m q
      · rw [List.mem_singleton.mp q]; exact h2 l (List.mem_cons_self ..)
    split
    · rename_i e
      refine keptL_fine sk ls _ (h.add sk (l := l) ?_ ?_ (by simp) hn (reason_none e)) hn fun m hm => h2 m (List.mem_cons_of_mem _ hm)
      · intro m hm; simpa using hm
      · intro m hm; exact List.mem_append_left _ hm
    · exact keptL_fine sk ls ks h h1 fun m hm => h2 m (List.mem_cons_of_mem _ hm)
theorem kept_fine (sk : Skew F n) : Fine F n (kept F n) ∧ ∀ l ∈ kept F n, l < n :=
  keptL_fine sk _ _ (fun l hl => by simp at hl) (fun l hl => by simp at hl) fun l hl => List.mem_range.mp hl

/-! sides -/
/-- sides that agree: closed under forcing, none forces its contrary -/
structure Agr (F : Ch → Ch → Bool) (n : Nat) (ms : List Nat) (sd : List (Nat × Bool)) : Prop where
  sub : ∀ kv ∈ sd, kv.1 ∈ ms
  nd : (sd.map (·.1)).Nodup
  cl : ∀ kv ∈ sd, ∀ e : Ch, e.1 ∈ ms → F kv e = true → e ∈ sd
theorem mem_closM {s x : Ch} : x ∈ closM F n ms s ↔ R F n ms s x := clos_iff nodes_ok x
theorem poss_iff {cs : List Ch} : poss cs = true ↔ ∀ c ∈ cs, neg c ∉ cs := by simp [poss]
theorem not_poss {s : Ch} (sk : Skew F n) (hn : ∀ l ∈ ms, l < n) (hs : s.1 ∈ ms) (h : ¬ poss (closM F n ms s) = true) : R F n ms s (neg s) := by
  rw [poss_iff] at h
  have h : ∃ c, c ∈ closM F n ms s ∧ neg c ∈ closM F n ms s := Classical.byContradiction fun z => h fun c hc hc2 => z ⟨c, hc, hc2⟩
  obtain ⟨c, h1, h2⟩ := h
  have r1 := mem_closM.mp h1
  have r2 := mem_closM.mp h2
  have := R.skew sk hn hs r2
  rw [neg_neg] at this
  exact r1.trans this
theorem put_mem {sd : List (Nat × Bool)} {c : Ch} (nd : (sd.map (·.1)).Nodup) (h : c.1 ∈ sd.map (·.1) → c ∈ sd) : (∀ kv, kv ∈ putS sd c ↔ kv ∈ sd ∨ kv = c) ∧ ((putS sd c).map (·.1)).Nodup := by
  unfold putS
  split
  · rename_i hc
    have hm := h hc
    have same : sd.map (fun kv => if kv.1 = c.1 then (kv.1, c.2) else kv) = sd := by
      have : ∀ kv ∈ sd, (if kv.1 = c.1 then (kv.1, c.2) else kv) = kv := by
        intro kv hkv
        split
        · rename_i e
          have e2 : kv = c := by
            have inj : ∀ {l : List (Nat × Bool)}, (l.map (·.1)).Nodup → ∀ {a b}, a ∈ l → b ∈ l → a.1 = b.1 → a = b := by
              intro l
              induction l with
              | nil => intro _ a b ha; simp at ha
              | cons x xs ih =>
                intro nd a b ha hb eq
                rw [List.map_cons, List.nodup_cons] at nd
                rcases List.mem_cons.mp ha with rfl | ha'
                · rcases List.mem_cons.mp hb with rfl | hb
                  · rfl
                  · exact absurd (List.mem_map.mpr ⟨b, hb, eq.symm⟩) nd.1
                · rcases List.mem_cons.mp hb with rfl | hb
                  · exact absurd (List.mem_map.mpr ⟨a, ha', eq⟩) nd.1
                  · exact ih nd.2 ha' hb eq
            exact inj nd hkv hm e
          rw [e2]
        · rfl
      exact (List.map_congr_left this).trans (List.map_id _)
    rw [same]
    exact ⟨fun kv => ⟨.inl, fun z => z.elim id fun z => z ▸ hm⟩, nd⟩
  · rename_i hc
    refine ⟨fun kv => by simp, ?_⟩
    rw [List.map_append, List.nodup_append]
    refine ⟨nd, by simp, fun a ha b hb => ?_⟩
    simp at hb
    subst hb
    rintro rfl
    exact hc ha
theorem fold_mem : ∀ (cs : List Ch) (sd : List (Nat × Bool)), (sd.map (·.1)).Nodup → (∀ c ∈ cs, ∀ kv ∈ sd, kv.1 = c.1 → kv = c) → (∀ c ∈ cs, ∀ d ∈ cs, c.1 = d.1 → c = d) → (∀ kv, kv ∈ cs.foldl putS sd ↔ kv ∈ sd ∨ kv ∈ cs) ∧ ((cs.foldl putS sd).map (·.1)).Nodup
  | [], sd, nd, _, _ => ⟨fun kv => by simp, nd⟩
  | c :: cs, sd, nd, h1, h2 => by
    obtain ⟨p1, p2⟩ := put_mem (c := c) nd fun hc => by
      obtain ⟨kv, hkv, e⟩ := List.mem_map.mp hc
      rw [← h1 c (List.mem_cons_self ..) kv hkv e]; exact hkv
    obtain ⟨q1, q2⟩ := fold_mem cs (putS sd c) p2 (fun d hd kv hkv e => by
      rcases (p1 kv).mp hkv with z | z
      · exact h1 d (List.mem_cons_of_mem _ hd) kv z e
      · rw [z] at e ⊢
        exact h2 c (List.mem_cons_self ..) d (List.mem_cons_of_mem _ hd) e) fun d hd e he => h2 d (List.mem_cons_of_mem _ hd) e (List.mem_cons_of_mem _ he)
    refine ⟨fun kv => ?_, q2⟩
    rw [List.foldl_cons, q1, p1, List.mem_cons]
    constructor
    · rintro ((z | z) | z)
      · exact .inl z
      · exact .inr (.inl z)
      · exact .inr (.inr z)
    · rintro (z | z | z)
      · exact .inl (.inl z)
      · exact .inl (.inr z)
      · exact .inr z
theorem Agr.grow (sk : Skew F n) (hn : ∀ l ∈ ms, l < n) {sd : List (Nat × Bool)} (h : Agr F n ms sd) {s : Ch} (hs : s.1 ∈ ms) (hx : s.1 ∉ sd.map (·.1)) (hp : poss (closM F n ms s) = true) :
    Agr F n ms ((closM F n ms s).foldl putS sd) ∧ (∀ kv ∈ sd, kv ∈ (closM F n ms s).foldl putS sd) ∧ s ∈ (closM F n ms s).foldl putS sd := by
  have hp := poss_iff.mp hp
  -- what is reached does not contradict what stands
  have reach : ∀ kv ∈ sd, ∀ x, R F n ms kv x → x ∈ sd := by
    intro kv hkv x r
    induction r with
    | refl => exact hkv
    | step r a b ih => exact h.cl _ ih _ (by simpa [okM] using b) (mem_nbr.mp a).2
  have one : ∀ c ∈ closM F n ms s, ∀ kv ∈ sd, kv.1 = c.1 → kv = c := by
    intro c hc kv hkv e
    refine Classical.byContradiction fun ne => ?_
    have e2 : kv = neg c := by
      obtain ⟨a, b⟩ := kv
      obtain ⟨a', b'⟩ := c
      simp at e
      subst e
      simp [neg]
      cases b <;> cases b' <;> simp_all
    have r := R.skew sk hn hs (mem_closM.mp hc)
    rw [← e2] at r
    have := reach kv hkv _ r
    exact hx (List.mem_map.mpr ⟨_, this, rfl⟩)
  have two : ∀ c ∈ closM F n ms s, ∀ d ∈ closM F n ms s, c.1 = d.1 → c = d := by
    intro c hc d hd e
    refine Classical.byContradiction fun ne => ?_
    have e2 : d = neg c := by
      obtain ⟨a, b⟩ := c
      obtain ⟨a', b'⟩ := d
      simp at e
      subst e
      simp [neg]
      cases b <;> cases b' <;> simp_all
    exact hp c hc (e2 ▸ hd)
  obtain ⟨f1, f2⟩ := fold_mem (closM F n ms s) sd h.nd one two
  refine ⟨⟨fun kv hkv => ?_, f2, fun kv hkv e he hf => ?_⟩, fun kv hkv => (f1 kv).mpr (.inl hkv), (f1 s).mpr (.inr (mem_closM.mpr .refl))⟩
  · rcases (f1 kv).mp hkv with z | z
    · exact h.sub kv z
    · rcases R.ok (mem_closM.mp z) with rfl | q
      · exact hs
      · exact q
  · rcases (f1 kv).mp hkv with z | z
    · exact (f1 e).mpr (.inl (h.cl kv z e he hf))
    · exact (f1 e).mpr (.inr (mem_closM.mpr ((mem_closM.mp z).trans (R.one (hn _ he) he hf))))
theorem sidesL_ok (sk : Skew F n) (hn : ∀ l ∈ ms, l < n) (hf : Fine F n ms) : ∀ (ls : List Nat) (sd : List (Nat × Bool)), (∀ l ∈ ls, l ∈ ms) → Agr F n ms sd →
    ∃ sd', sidesL F n ms ls sd = some sd' ∧ Agr F n ms sd' ∧ (∀ kv ∈ sd, kv ∈ sd') ∧ ∀ l ∈ ls, l ∈ sd'.map (·.1)
  | [], sd, _, h => ⟨sd, rfl, h, fun _ z => z, fun l hl => by simp at hl⟩
  | l :: ls, sd, hl, h => by
    have hm := hl l (List.mem_cons_self ..)
    have ht : ∀ x ∈ ls, x ∈ ms := fun x hx => hl x (List.mem_cons_of_mem _ hx)
    unfold sidesL
    have go : ∀ b, l ∉ sd.map (·.1) → poss (closM F n ms (l, b)) = true → ∃ sd', sidesL F n ms ls ((closM F n ms (l, b)).foldl putS sd) = some sd' ∧ Agr F n ms sd' ∧ (∀ kv ∈ sd, kv ∈ sd') ∧ ∀ x ∈ l :: ls, x ∈ sd'.map (·.1) := by
      intro b hx hp
      obtain ⟨g1, g2, g3⟩ := h.grow sk hn (s := (l, b)) hm hx hp
      obtain ⟨sd', e1, e2, e3, e4⟩ := sidesL_ok sk hn hf ls _ ht g1
      refine ⟨sd', e1, e2, fun kv hkv => e3 kv (g2 kv hkv), fun x hx => ?_⟩
      rcases List.mem_cons.mp hx with rfl | hx
      · exact List.mem_map.mpr ⟨_, e3 _ g3, rfl⟩
      · exact e4 x hx
    split
    · rename_i hx
      obtain ⟨sd', e1, e2, e3, e4⟩ := sidesL_ok sk hn hf ls sd ht h
      refine ⟨sd', e1, e2, e3, fun x hx' => ?_⟩
      rcases List.mem_cons.mp hx' with rfl | hx'
      · obtain ⟨kv, hkv, e⟩ := List.mem_map.mp hx
        exact List.mem_map.mpr ⟨kv, e3 kv hkv, e⟩
      · exact e4 x hx'
    · rename_i hx
      split
      · rename_i hp
        exact go false hx hp
      · rename_i hp
        split
        · rename_i hp2
          exact go true hx hp2
        · rename_i hp2
          exact absurd ⟨not_poss sk hn (s := (l, false)) hm hp, not_poss sk hn (s := (l, true)) hm hp2⟩ (hf l hm)
theorem getS_mem {sd : List (Nat × Bool)} {l : Nat} (h : l ∈ sd.map (·.1)) : (l, getS sd l) ∈ sd := by
  unfold getS
  cases e : sd.find? fun kv => decide (kv.1 = l) with
  | none =>
    obtain ⟨kv, hkv, e2⟩ := List.mem_map.mp h
    have := List.find?_eq_none.mp e kv hkv
    simp [e2] at this
  | some kv =>
    have h1 := List.mem_of_find?_eq_some e
    have h2 := List.find?_some e
    simp at h2
    subst h2
    exact h1
/-- what the kept labels' sides are -/
structure Good (F : Ch → Ch → Bool) (n : Nat) (ms : List Nat) (f : Nat → Bool) : Prop where
  cl : ∀ l ∈ ms, ∀ e : Ch, e.1 ∈ ms → F (l, f l) e = true → f e.1 = e.2
theorem sides_ok (sk : Skew F n) : ∃ f, sides F n (kept F n) = some ((kept F n).map f) ∧ Good F n (kept F n) f := by
  obtain ⟨hf, hn⟩ := kept_fine sk
  obtain ⟨sd, e1, e2, _, e4⟩ := sidesL_ok sk hn hf (kept F n) [] (fun l h => h) ⟨fun kv h => by simp at h, by simp, fun kv h => by simp at h⟩
  refine ⟨getS sd, by unfold sides; rw [e1]; rfl, ⟨fun l hl e he h => ?_⟩⟩
  have m1 := getS_mem (e4 l hl)
  have m2 := e2.cl _ m1 e he h
  have m3 := getS_mem (e4 e.1 he)
  have inj : ∀ {a b : Nat × Bool}, a ∈ sd → b ∈ sd → a.1 = b.1 → a = b := by
    intro a b ha hb eq
    have : ∀ {l : List (Nat × Bool)}, (l.map (·.1)).Nodup → ∀ {a b}, a ∈ l → b ∈ l → a.1 = b.1 → a = b := by
      intro l
      induction l with
      | nil => intro _ a b ha; simp at ha
      | cons x xs ih =>
        intro nd a b ha hb eq
        rw [List.map_cons, List.nodup_cons] at nd
        rcases List.mem_cons.mp ha with rfl | ha'
        · rcases List.mem_cons.mp hb with rfl | hb
          · rfl
          · exact absurd (List.mem_map.mpr ⟨b, hb, eq.symm⟩) nd.1
        · rcases List.mem_cons.mp hb with rfl | hb
          · exact absurd (List.mem_map.mpr ⟨a, ha', eq⟩) nd.1
          · exact ih nd.2 ha' hb eq
    exact this e2.nd ha hb eq
  have := inj m3 m2 rfl
  rw [← this]
end
end Lbl

set_option Elab.async false
set_option linter.all false
namespace Lbl
section
variable {α : Type} [DecidableEq α]
/-! ### searches over renamed nodes -/
def pm (φ : α → α) (kv : α × α) : α × α := (φ kv.1, φ kv.2)
theorem keys_pm (φ : α → α) (bf : List (α × α)) : keys (bf.map (pm φ)) = (keys bf).map φ := by
  unfold keys
  rw [List.map_map, List.map_map]; rfl
theorem mem_inj {φ : α → α} (inj : ∀ a b, φ a = φ b → a = b) {l : List α} {x : α} : φ x ∈ l.map φ ↔ x ∈ l := by
  rw [List.mem_map]
  exact ⟨fun ⟨y, hy, e⟩ => inj _ _ e ▸ hy, fun h => ⟨x, h, rfl⟩⟩
theorem vis_filter {ok : α → Bool} {c : α} : ∀ (os : List α) (bf : List (α × α)), vis ok c (os.filter ok) bf = vis ok c os bf
  | [], _ => rfl
  | o :: os, bf => by
    by_cases h : ok o = true
    · rw [List.filter_cons_of_pos h, vis, vis]
      split
      · exact vis_filter os _
      · exact vis_filter os _
    · rw [List.filter_cons_of_neg h, vis, if_neg (fun z => h z.2)]
      exact vis_filter os _
theorem vis_map {ok ok' : α → Bool} {φ : α → α} (inj : ∀ a b, φ a = φ b → a = b) {c : α} : ∀ (os : List α) (bf : List (α × α)), (∀ o ∈ os, ok' (φ o) = ok o) → vis ok' (φ c) (os.map φ) (bf.map (pm φ)) = (vis ok c os bf).map (pm φ)
  | [], _, _ => rfl
  | o :: os, bf, h => by
    have ih := fun bf => vis_map inj (c := c) os bf fun x hx => h x (List.mem_cons_of_mem _ hx)
    rw [List.map_cons, vis, vis, keys_pm, h o (List.mem_cons_self ..)]
    simp only [mem_inj inj]
    split
    · have : bf.map (pm φ) ++ [(φ o, φ c)] = (bf ++ [(o, c)]).map (pm φ) := by rw [List.map_append]; rfl
      rw [this]; exact ih _
    · exact ih _
structure Ren (nb nb' : α → List α) (ok ok' : α → Bool) (φ : α → α) (P : α → Prop) : Prop where
  inj : ∀ a b, φ a = φ b → a = b
  nb : ∀ c, P c → (nb' (φ c)).filter ok' = ((nb c).filter ok).map φ
  ok : ∀ x, ok x = true → P x
variable {nb nb' : α → List α} {ok ok' : α → Bool} {φ : α → α} {P : α → Prop}
theorem Ren.vis (r : Ren nb nb' ok ok' φ P) {c : α} (hc : P c) (bf : List (α × α)) : vis ok' (φ c) (nb' (φ c)) (bf.map (pm φ)) = (Lbl.vis ok c (nb c) bf).map (pm φ) := by
  rw [← vis_filter (nb' (φ c)), r.nb c hc, vis_map r.inj, vis_filter]
  intro o ho
  have h1 := (List.mem_filter.mp ho).2
  have h2 : φ o ∈ (nb' (φ c)).filter ok' := by rw [r.nb c hc]; exact List.mem_map.mpr ⟨o, ho, rfl⟩
  rw [h1, (List.mem_filter.mp h2).2]
theorem vis_P {c : α} : ∀ (os : List α) (bf : List (α × α)), ∀ x ∈ keys (vis ok c os bf), x ∈ keys bf ∨ ok x = true
  | [], _, _, h => .inl h
  | o :: os, bf, x, h => by
    unfold vis at h
    split at h
    · rename_i z
      rcases vis_P os _ x h with q | q
      · rw [keys_app] at q
        rcases List.mem_append.mp q with q | q
        · exact .inl q
        · have e : x = o := List.mem_singleton.mp q
          exact .inr (e ▸ z.2)
      · exact .inr q
    · exact vis_P os _ x h
theorem Ren.bfs (r : Ren nb nb' ok ok' φ P) {g : α} : ∀ (f : Nat) (bf : List (α × α)) (i : Nat), (∀ x ∈ keys bf, P x) → Lbl.bfs nb' ok' (φ g) f (bf.map (pm φ)) i = (Lbl.bfs nb ok g f bf i).map (pm φ)
  | 0, _, _, _ => rfl
  | f + 1, bf, i, h => by
    rw [Lbl.bfs, Lbl.bfs, keys_pm, List.getElem?_map]
    cases e : (keys bf)[i]? with
    | none => rfl
    | some c =>
      simp only [Option.map_some, mem_inj r.inj]
      split
      · rfl
      · rw [r.vis (h c (List.mem_of_getElem? e))]
        exact Ren.bfs r f _ _ fun x hx => (vis_P _ _ x hx).elim (h x) (r.ok x)
theorem par_map (inj : ∀ a b, φ a = φ b → a = b) (bf : List (α × α)) (x : α) : par (bf.map (pm φ)) (φ x) = (par bf x).map φ := by
  unfold par
  rw [List.find?_map]
  have : ((fun kv : α × α => decide (kv.1 = φ x)) ∘ pm φ) = fun kv => decide (kv.1 = x) := by
    funext kv
    show decide (φ kv.1 = φ x) = decide (kv.1 = x)
    rw [decide_eq_decide]
    exact ⟨inj _ _, fun e => by rw [e]⟩
  rw [this]
  cases bf.find? _ <;> rfl
theorem back_map (inj : ∀ a b, φ a = φ b → a = b) (bf : List (α × α)) (s : α) : ∀ (f : Nat) (x : α), back (bf.map (pm φ)) (φ s) f (φ x) = (back bf s f x).map φ
  | 0, _ => rfl
  | f + 1, x => by
    rw [back, back]
    by_cases e : x = s
    · rw [if_pos e, if_pos (by rw [e])]; rfl
    · rw [if_neg e, if_neg (fun z => e (inj _ _ z)), par_map inj]
      cases par bf x with
      | none => rfl
      | some p => simp only [Option.map_some, List.map_cons, back_map inj bf s f p]
theorem Ren.path (r : Ren nb nb' ok ok' φ P) {s g : α} {nodes nodes' : List α} (hl : nodes'.length = nodes.length) (hs : P s) : Lbl.path nb' ok' nodes' (φ s) (φ g) = (Lbl.path nb ok nodes s g).map (List.map φ) := by
  have h := r.bfs (g := g) (1 + nodes.length) [(s, s)] 0 (by simpa using hs)
  have h' : Lbl.bfs nb' ok' (φ g) (1 + nodes'.length) [(φ s, φ s)] 0 = (Lbl.bfs nb ok g (1 + nodes.length) [(s, s)] 0).map (pm φ) := by rw [hl]; exact h
  unfold Lbl.path
  simp only [h', keys_pm, mem_inj r.inj, List.length_map, back_map r.inj]
  split
  · simp
  · rfl
/-! closures -/
theorem visD_filter : ∀ (os fd st : List α), visD ok (os.filter ok) fd st = visD ok os fd st
  | [], _, _ => rfl
  | o :: os, fd, st => by
    by_cases h : ok o = true
    · rw [List.filter_cons_of_pos h, visD, visD]
      split
      · exact visD_filter os _ _
      · exact visD_filter os _ _
    · rw [List.filter_cons_of_neg h, visD, if_neg (fun z => h z.2)]
      exact visD_filter os _ _
theorem visD_map (inj : ∀ a b, φ a = φ b → a = b) : ∀ (os fd st : List α), (∀ o ∈ os, ok' (φ o) = ok o) → visD ok' (os.map φ) (fd.map φ) (st.map φ) = ((visD ok os fd st).1.map φ, (visD ok os fd st).2.map φ)
  | [], _, _, _ => rfl
  | o :: os, fd, st, h => by
    have ih := fun fd st => visD_map inj os fd st fun x hx => h x (List.mem_cons_of_mem _ hx)
    rw [List.map_cons, visD, visD, h o (List.mem_cons_self ..)]
    simp only [mem_inj inj]
    split
    · have h1 : fd.map φ ++ [φ o] = (fd ++ [o]).map φ := by rw [List.map_append]; rfl
      have h2 : st.map φ ++ [φ o] = (st ++ [o]).map φ := by rw [List.map_append]; rfl
      rw [h1, h2]; exact ih _ _
    · exact ih _ _
theorem Ren.visD (r : Ren nb nb' ok ok' φ P) {c : α} (hc : P c) (fd st : List α) : visD ok' (nb' (φ c)) (fd.map φ) (st.map φ) = ((Lbl.visD ok (nb c) fd st).1.map φ, (Lbl.visD ok (nb c) fd st).2.map φ) := by
  rw [← visD_filter (nb' (φ c)), r.nb c hc, visD_map r.inj, visD_filter]
  intro o ho
  have h1 := (List.mem_filter.mp ho).2
  have h2 : φ o ∈ (nb' (φ c)).filter ok' := by rw [r.nb c hc]; exact List.mem_map.mpr ⟨o, ho, rfl⟩
  rw [h1, (List.mem_filter.mp h2).2]
theorem visD_P : ∀ (os fd st : List α), ∀ x ∈ (visD ok os fd st).2, x ∈ st ∨ ok x = true
  | [], _, _, _, h => .inl h
  | o :: os, fd, st, x, h => by
    unfold visD at h
    split at h
    · rename_i z
      rcases visD_P os _ _ x h with q | q
      · rcases List.mem_append.mp q with q | q
        · exact .inl q
        · have e : x = o := List.mem_singleton.mp q
          exact .inr (e ▸ z.2)
      · exact .inr q
    · exact visD_P os _ _ x h
theorem Ren.dfs (r : Ren nb nb' ok ok' φ P) : ∀ (f : Nat) (fd st : List α), (∀ x ∈ st, P x) → Lbl.dfs nb' ok' f (fd.map φ) (st.map φ) = (Lbl.dfs nb ok f fd st).map φ
  | 0, _, _, _ => rfl
  | f + 1, fd, st, h => by
    rw [Lbl.dfs, Lbl.dfs, List.getLast?_map]
    cases e : st.getLast? with
    | none => rfl
    | some c =>
      have hd : (st.map φ).dropLast = st.dropLast.map φ := (List.map_dropLast ..).symm
      simp only [Option.map_some, hd]
      rw [r.visD (h c (List.mem_of_getLast? e))]
      exact Ren.dfs r f _ _ fun x hx => (visD_P _ _ _ x hx).elim (fun z => h x (List.dropLast_subset _ z)) (r.ok x)
theorem Ren.clos (r : Ren nb nb' ok ok' φ P) {s : α} {nodes nodes' : List α} (hl : nodes'.length = nodes.length) (hs : P s) : Lbl.clos nb' ok' nodes' (φ s) = (Lbl.clos nb ok nodes s).map φ := by
  unfold Lbl.clos
  rw [hl]
  exact r.dfs _ [s] [s] (by simpa using hs)
end
/-! ### labels renumbered -/
def cm (φ : Nat → Nat) (c : Ch) : Ch := (φ c.1, c.2)
theorem asc_eq : ∀ {a b : List Nat}, a.Pairwise (· < ·) → b.Pairwise (· < ·) → (∀ x, x ∈ a ↔ x ∈ b) → a = b
  | [], [], _, _, _ => rfl
  | [], y :: b, _, _, h => absurd ((h y).mpr (List.mem_cons_self ..)) (by simp)
  | x :: a, [], _, _, h => absurd ((h x).mp (List.mem_cons_self ..)) (by simp)
  | x :: a, y :: b, ha, hb, h => by
    rw [List.pairwise_cons] at ha hb
    have hxy : x = y := by
      have h1 := (h x).mp (List.mem_cons_self ..)
      have h2 := (h y).mpr (List.mem_cons_self ..)
      rcases List.mem_cons.mp h1 with e | e
      · exact e
      · rcases List.mem_cons.mp h2 with e2 | e2
        · exact e2.symm
        · have := hb.1 x e
          have := ha.1 y e2
          omega
    subst hxy
    congr 1
    refine asc_eq ha.2 hb.2 fun z => ⟨fun hz => ?_, fun hz => ?_⟩
    · rcases List.mem_cons.mp ((h z).mp (List.mem_cons_of_mem _ hz)) with e | e
      · subst e; exact absurd (ha.1 z hz) (Nat.lt_irrefl _)
      · exact e
    · rcases List.mem_cons.mp ((h z).mpr (List.mem_cons_of_mem _ hz)) with e | e
      · subst e; exact absurd (hb.1 z hz) (Nat.lt_irrefl _)
      · exact e
structure Emb (F : Ch → Ch → Bool) (n : Nat) (F' : Ch → Ch → Bool) (n' : Nat) (φ : Nat → Nat) : Prop where
  inj : ∀ a b, φ a = φ b → a = b
  mono : ∀ a b, a < b → b < n → φ a < φ b
  lt : ∀ a, a < n → φ a < n'
  eq : ∀ c d : Ch, c.1 < n → d.1 < n → F' (cm φ c) (cm φ d) = F c d
theorem choices_filter (ms : List Nat) : ∀ l : List Nat, (choices l).filter (okM ms) = choices (l.filter fun x => decide (x ∈ ms))
  | [] => rfl
  | x :: l => by
    have ih := choices_filter ms l
    show ((x, false) :: (x, true) :: choices l).filter (okM ms) = _
    by_cases h : x ∈ ms
    · rw [List.filter_cons_of_pos (by simpa [okM] using h), List.filter_cons_of_pos (by simpa [okM] using h), List.filter_cons_of_pos (by simpa using h), ih]
      rfl
    · rw [List.filter_cons_of_neg (by simpa [okM] using h), List.filter_cons_of_neg (by simpa [okM] using h), List.filter_cons_of_neg (by simpa using h), ih]
theorem choices_map (φ : Nat → Nat) : ∀ l : List Nat, choices (l.map φ) = (choices l).map (cm φ)
  | [] => rfl
  | x :: l => by
    show (φ x, false) :: (φ x, true) :: choices (l.map φ) = _
    rw [choices_map φ l]; rfl
theorem choices_len : ∀ l : List Nat, (choices l).length = 2 * l.length
  | [] => rfl
  | a :: ls => by show (choices ls).length + 1 + 1 = _; rw [choices_len ls, List.length_cons]; omega
section
variable {F F' : Ch → Ch → Bool} {n n' : Nat} {φ : Nat → Nat}
theorem cm_inj (h : ∀ a b, φ a = φ b → a = b) (c d : Ch) (e : cm φ c = cm φ d) : c = d := by
  obtain ⟨l, a⟩ := c
  obtain ⟨m, b⟩ := d
  simp only [cm, Prod.mk.injEq] at e ⊢
  exact ⟨h _ _ e.1, e.2⟩
theorem Emb.nodes (e : Emb F n F' n' φ) {ms : List Nat} (hm : ∀ l ∈ ms, l < n) : (List.range n').filter (fun x => decide (x ∈ ms.map φ)) = ((List.range n).filter fun x => decide (x ∈ ms)).map φ := by
  refine asc_eq (List.Pairwise.filter _ List.pairwise_lt_range) ?_ fun x => ?_
  · rw [List.pairwise_map]
    have h1 : ((List.range n).filter fun x => decide (x ∈ ms)).Pairwise (· < ·) := List.Pairwise.filter _ List.pairwise_lt_range
    refine List.Pairwise.imp_of_mem ?_ h1
    intro a b _ hb hab
    exact e.mono a b hab (List.mem_range.mp (List.mem_filter.mp hb).1)
  · rw [List.mem_filter, decide_eq_true_eq, List.mem_map (b := x) (l := List.filter _ _)]
    constructor
    · rintro ⟨_, h⟩
      obtain ⟨l, hl, rfl⟩ := List.mem_map.mp h
      exact ⟨l, List.mem_filter.mpr ⟨List.mem_range.mpr (hm l hl), by simpa using hl⟩, rfl⟩
    · rintro ⟨l, hl, rfl⟩
      have h2 : l ∈ ms := by simpa using (List.mem_filter.mp hl).2
      exact ⟨List.mem_range.mpr (e.lt l (hm l h2)), List.mem_map.mpr ⟨l, h2, rfl⟩⟩
theorem Emb.ren (e : Emb F n F' n' φ) {ms : List Nat} (hm : ∀ l ∈ ms, l < n) : Ren (nbr F n) (nbr F' n') (okM ms) (okM (ms.map φ)) (cm φ) (fun c => c.1 < n) := by
  refine ⟨cm_inj e.inj, fun c hc => ?_, fun x hx => hm _ (by simpa [okM] using hx)⟩
  unfold nbr
  rw [List.filter_filter, List.filter_filter]
  have sw : ∀ (l : List Ch) (p q : Ch → Bool), l.filter (fun a => p a && q a) = (l.filter p).filter q := fun l p q => by
    rw [List.filter_filter]
    exact List.filter_congr fun x _ => Bool.and_comm _ _
  rw [sw, sw, choices_filter, choices_filter, e.nodes hm, choices_map, List.filter_map]
  congr 1
  refine List.filter_congr fun d hd => ?_
  exact e.eq c d hc (List.mem_range.mp (List.mem_filter.mp (mem_choices.mp hd)).1)
theorem Emb.path (e : Emb F n F' n' φ) {ms : List Nat} (hm : ∀ l ∈ ms, l < n) {s g : Ch} (hs : s.1 < n) : pathM F' n' (ms.map φ) (cm φ s) (cm φ g) = (pathM F n ms s g).map (List.map (cm φ)) :=
  (e.ren hm).path (by unfold Lbl.nodes; rw [choices_len, choices_len, List.length_map]) hs
theorem Emb.clos (e : Emb F n F' n' φ) {ms : List Nat} (hm : ∀ l ∈ ms, l < n) {s : Ch} (hs : s.1 < n) : closM F' n' (ms.map φ) (cm φ s) = (closM F n ms s).map (cm φ) :=
  (e.ren hm).clos (by unfold Lbl.nodes; rw [choices_len, choices_len, List.length_map]) hs
def rmap (φ : Nat → Nat) (r : Option (List Ch × List Ch)) : Option (List Ch × List Ch) := r.map fun ab => (ab.1.map (cm φ), ab.2.map (cm φ))
theorem rmap_none {r : Option (List Ch × List Ch)} : rmap φ r = none ↔ r = none := by cases r <;> simp [rmap]
theorem Emb.reason (e : Emb F n F' n' φ) {ms : List Nat} (hm : ∀ l ∈ ms, l < n) {l : Nat} (hl : l < n) : Lbl.reason F' n' (ms.map φ) (φ l) = rmap φ (Lbl.reason F n ms l) := by
  have h1 := e.path hm (s := (l, false)) (g := (l, true)) hl
  have h2 := e.path hm (s := (l, true)) (g := (l, false)) hl
  unfold Lbl.reason
  have c1 : cm φ (l, false) = (φ l, false) := rfl
  have c2 : cm φ (l, true) = (φ l, true) := rfl
  rw [c1, c2] at h1
  rw [c1, c2] at h2
  rw [h1, h2]
  cases pathM F n ms (l, false) (l, true) <;> cases pathM F n ms (l, true) (l, false) <;> rfl
theorem Emb.keptL (e : Emb F n F' n' φ) : ∀ (ls ks : List Nat), (∀ l ∈ ls, l < n) → (∀ l ∈ ks, l < n) → Lbl.keptL F' n' (ls.map φ) (ks.map φ) = (Lbl.keptL F n ls ks).map φ
  | [], _, _, _ => rfl
  | l :: ls, ks, hl, hk => by
    have hl1 := hl l (List.mem_cons_self ..)
    have hl2 : ∀ x ∈ ls, x < n := fun x hx => hl x (List.mem_cons_of_mem _ hx)
    have hk2 : ∀ x ∈ ks ++ [l], x < n := fun x hx => by
      rcases List.mem_append.mp hx with z | z
      · exact hk x z
      · have : x = l := List.mem_singleton.mp z
        exact this ▸ hl1
    have hr := e.reason hk2 hl1
    have hm : (ks ++ [l]).map φ = ks.map φ ++ [φ l] := by rw [List.map_append]; rfl
    rw [hm] at hr
    rw [List.map_cons, Lbl.keptL, Lbl.keptL, hr]
    simp only [rmap_none]
    split
    · rw [← hm]; exact Emb.keptL e ls _ hl2 hk2
    · exact Emb.keptL e ls _ hl2 hk
theorem poss_map (inj : ∀ a b, φ a = φ b → a = b) (cs : List Ch) : poss (cs.map (cm φ)) = poss cs := by
  rw [Bool.eq_iff_iff, poss_iff, poss_iff]
  constructor
  · intro h c hc hn
    exact h (cm φ c) (List.mem_map.mpr ⟨c, hc, rfl⟩) (List.mem_map.mpr ⟨neg c, hn, rfl⟩)
  · intro h c hc hn
    obtain ⟨d, hd, rfl⟩ := List.mem_map.mp hc
    obtain ⟨x, hx, e⟩ := List.mem_map.mp hn
    have : x = neg d := cm_inj inj _ _ e
    exact h d hd (this ▸ hx)
def sm (φ : Nat → Nat) (kv : Nat × Bool) : Nat × Bool := (φ kv.1, kv.2)
theorem sm_keys (φ : Nat → Nat) (sd : List (Nat × Bool)) : (sd.map (sm φ)).map (·.1) = (sd.map (·.1)).map φ := by
  rw [List.map_map, List.map_map]; rfl
theorem putS_map (inj : ∀ a b, φ a = φ b → a = b) (sd : List (Nat × Bool)) (c : Ch) : putS (sd.map (sm φ)) (cm φ c) = (putS sd c).map (sm φ) := by
  unfold putS
  rw [sm_keys]
  have : (cm φ c).1 = φ c.1 := rfl
  rw [this]
  simp only [mem_inj inj]
  split
  · rw [List.map_map, List.map_map]
    refine List.map_congr_left fun kv _ => ?_
    show (if φ kv.1 = φ c.1 then (φ kv.1, c.2) else (φ kv.1, kv.2)) = sm φ (if kv.1 = c.1 then (kv.1, c.2) else kv)
    by_cases e : kv.1 = c.1
    · rw [if_pos e, if_pos (by rw [e])]; rfl
    · rw [if_neg e, if_neg (fun z => e (inj _ _ z))]; rfl
  · rw [List.map_append]; rfl
theorem fold_map (inj : ∀ a b, φ a = φ b → a = b) : ∀ (cs : List Ch) (sd : List (Nat × Bool)), (cs.map (cm φ)).foldl putS (sd.map (sm φ)) = (cs.foldl putS sd).map (sm φ)
  | [], _ => rfl
  | c :: cs, sd => by
    rw [List.map_cons, List.foldl_cons, List.foldl_cons, putS_map inj]
    exact fold_map inj cs _
theorem Emb.sidesL (e : Emb F n F' n' φ) {ms : List Nat} (hm : ∀ l ∈ ms, l < n) : ∀ (ls : List Nat) (sd : List (Nat × Bool)), (∀ l ∈ ls, l < n) → Lbl.sidesL F' n' (ms.map φ) (ls.map φ) (sd.map (sm φ)) = (Lbl.sidesL F n ms ls sd).map (List.map (sm φ))
  | [], _, _ => rfl
  | l :: ls, sd, hl => by
    have hl1 := hl l (List.mem_cons_self ..)
    have hl2 : ∀ x ∈ ls, x < n := fun x hx => hl x (List.mem_cons_of_mem _ hx)
    have ih := fun sd => Emb.sidesL e hm ls sd hl2
    have c1 := e.clos hm (s := (l, false)) hl1
    have c2 := e.clos hm (s := (l, true)) hl1
    have d1 : cm φ (l, false) = (φ l, false) := rfl
    have d2 : cm φ (l, true) = (φ l, true) := rfl
    rw [d1] at c1
    rw [d2] at c2
    rw [List.map_cons, Lbl.sidesL, Lbl.sidesL, sm_keys, c1, c2, poss_map e.inj, poss_map e.inj, fold_map e.inj, fold_map e.inj]
    simp only [mem_inj e.inj]
    split
    · exact ih _
    · split
      · exact ih _
      · split
        · exact ih _
        · rfl
theorem getS_map (inj : ∀ a b, φ a = φ b → a = b) (sd : List (Nat × Bool)) (l : Nat) : getS (sd.map (sm φ)) (φ l) = getS sd l := by
  unfold getS
  rw [List.find?_map]
  have : ((fun kv : Nat × Bool => decide (kv.1 = φ l)) ∘ sm φ) = fun kv => decide (kv.1 = l) := by
    funext kv
    show decide (φ kv.1 = φ l) = decide (kv.1 = l)
    rw [decide_eq_decide]
    exact ⟨inj _ _, fun e => by rw [e]⟩
  rw [this]
  cases sd.find? _ <;> rfl
end
/-! a path of one step -/
section
variable {α : Type} [DecidableEq α]
theorem par_vis {ok : α → Bool} {s g : α} : ∀ (os : List α) (bf : List (α × α)), g ∈ os → ok g = true → (g ∉ keys bf) → par (vis ok s os bf) g = some s
  | [], _, h, _, _ => by cases h
  | o :: os, bf, h, hk, hb => by
    rw [vis]
    by_cases e : o = g
    · subst e
      rw [if_pos ⟨hb, hk⟩]
      have h1 := par_new (c := s) hb
      obtain ⟨t, ht⟩ := vis_pre (ok := ok) (c := s) os (bf ++ [(o, s)])
      rw [← ht]
      unfold par at h1 ⊢
      rw [List.find?_append]
      cases hf : (bf ++ [(o, s)]).find? fun kv => decide (kv.1 = o) with
      | none => rw [hf] at h1; cases h1
      | some kv => rw [hf] at h1; simpa using h1
    · have hg : g ∈ os := (List.mem_cons.mp h).resolve_left fun z => e z.symm
      split
      · refine par_vis os _ hg hk ?_
        rw [keys_app]
        intro z
        rcases List.mem_append.mp z with z | z
        · exact hb z
        · exact e (List.mem_singleton.mp z).symm
      · exact par_vis os _ hg hk hb
theorem path_one {nb : α → List α} {ok : α → Bool} {nodes : List α} {s g : α} (hg : g ∈ nb s) (hk : ok g = true) (hne : g ≠ s) (hn : 0 < nodes.length) : path nb ok nodes s g = some [s, g] := by
  obtain ⟨m, hm⟩ : ∃ m, nodes.length = m + 1 := ⟨nodes.length - 1, by omega⟩
  have hgk : g ∉ keys [(s, s)] := by simpa using hne
  have e1 : bfs nb ok g (1 + nodes.length) [(s, s)] 0 = vis ok s (nb s) [(s, s)] := by
    have : 1 + nodes.length = m + 1 + 1 := by omega
    rw [this, bfs]
    have : (keys [(s, s)])[0]? = some s := rfl
    rw [this]
    simp only [if_neg hgk]
    have hv := vis_all (ok := ok) (c := s) (nb s) [(s, s)] g hg hk
    rw [bfs]
    split
    · rfl
    · rw [if_pos hv]
  have hv := vis_all (ok := ok) (c := s) (nb s) [(s, s)] g hg hk
  have hp := par_vis (s := s) (nb s) [(s, s)] hg hk hgk
  unfold path
  simp only [e1, if_pos hv]
  congr 1
  have hlen : 1 ≤ (vis ok s (nb s) [(s, s)]).length := by
    obtain ⟨t, ht⟩ := vis_pre (ok := ok) (c := s) (nb s) [(s, s)]
    rw [← ht]; simp
  obtain ⟨q, hq⟩ : ∃ q, (vis ok s (nb s) [(s, s)]).length = q + 1 := ⟨_, (Nat.succ_pred_eq_of_pos hlen).symm⟩
  rw [hq, back, if_neg hne, hp]
  simp only
  cases q with
  | zero => rfl
  | succ q => rw [back, if_pos rfl]; rfl
end
end Lbl

set_option Elab.async false
set_option linter.all false
namespace Lbl
section
variable {F : Ch → Ch → Bool} {n : Nat} {ms : List Nat}
/-! ### sides that fit -/
theorem Good.rch {f : Nat → Bool} (g : Good F n ms f) {c d : Ch} (hc : c.1 ∈ ms) (hf : f c.1 = c.2) (r : R F n ms c d) : f d.1 = d.2 := by
  have : d.1 ∈ ms ∧ f d.1 = d.2 := by
    induction r with
    | refl => exact ⟨hc, hf⟩
    | @step d e r h k ih =>
      have he : e.1 ∈ ms := by simpa [okM] using k
      refine ⟨he, g.cl d.1 ih.1 e he ?_⟩
      have : (d.1, f d.1) = d := by rw [ih.2]
      rw [this]
      exact (mem_nbr.mp h).2
  exact this.2
theorem Good.fine {f : Nat → Bool} (g : Good F n ms f) : Fine F n ms := by
  rintro l hl ⟨h1, h2⟩
  cases e : f l with
  | false => have := g.rch (c := (l, false)) hl e h1; rw [e] at this; cases this
  | true => have := g.rch (c := (l, true)) hl e h2; rw [e] at this; cases this
theorem nd_inj : ∀ {l : List (Nat × Bool)}, (l.map (·.1)).Nodup → ∀ {a b}, a ∈ l → b ∈ l → a.1 = b.1 → a = b
  | [], _, _, _, ha, _, _ => by cases ha
  | x :: xs, nd, a, b, ha, hb, eq => by
    rw [List.map_cons, List.nodup_cons] at nd
    rcases List.mem_cons.mp ha with e1 | ha'
    · rcases List.mem_cons.mp hb with e2 | hb'
      · rw [e1, e2]
      · exact absurd (List.mem_map.mpr ⟨b, hb', by rw [← eq, e1]⟩) nd.1
    · rcases List.mem_cons.mp hb with e2 | hb'
      · exact absurd (List.mem_map.mpr ⟨a, ha', by rw [eq, e2]⟩) nd.1
      · exact nd_inj nd.2 ha' hb' eq
theorem agr_good {sd : List (Nat × Bool)} (h : Agr F n ms sd) (hall : ∀ l ∈ ms, l ∈ sd.map (·.1)) : Good F n ms (getS sd) := ⟨fun l hl e he hf => by
  have m1 := getS_mem (hall l hl)
  have m2 := h.cl _ m1 e he hf
  have m3 := getS_mem (hall e.1 he)
  have := nd_inj h.nd m3 m2 rfl
  rw [← this]⟩
theorem agr_nil : Agr F n ms [] := ⟨fun kv h => by simp at h, by simp, fun kv h => by simp at h⟩
theorem Fine.good (sk : Skew F n) (hn : ∀ l ∈ ms, l < n) (h : Fine F n ms) : ∃ f, Good F n ms f := by
  obtain ⟨sd, _, e2, _, e4⟩ := sidesL_ok sk hn h ms [] (fun _ h => h) agr_nil
  exact ⟨_, agr_good e2 e4⟩
/-- a label fits exactly if there are sides that fit -/
theorem reason_iff (sk : Skew F n) {ks : List Nat} {l : Nat} (hk : Fine F n ks) (hn : ∀ m ∈ ks ++ [l], m < n) : reason F n (ks ++ [l]) l = none ↔ ∃ f, Good F n (ks ++ [l]) f := by
  constructor
  · intro h
    refine Fine.good sk hn (hk.add sk (l := l) (fun m hm => by simpa using hm) (fun m hm => List.mem_append_left _ hm) (by simp) hn (reason_none h))
  · rintro ⟨f, g⟩
    have fi := g.fine l (by simp)
    unfold reason
    cases e1 : pathM F n (ks ++ [l]) (l, false) (l, true) with
    | none => rfl
    | some a =>
      cases e2 : pathM F n (ks ++ [l]) (l, true) (l, false) with
      | none => rfl
      | some b => exact absurd ⟨(pathM_some e1).rch, (pathM_some e2).rch⟩ fi
/-! ### the least of them -/
structure Least (F : Ch → Ch → Bool) (n : Nat) (ms : List Nat) (f : Nat → Bool) : Prop where
  good : Good F n ms f
  le : ∀ g, Good F n ms g → ∀ l ∈ ms, (∀ m ∈ ms, m < l → g m = f m) → g l = false → f l = false
theorem Least.uniq {f g : Nat → Bool} (hf : Least F n ms f) (hg : Least F n ms g) : ∀ l ∈ ms, f l = g l := by
  have : ∀ k, ∀ l ∈ ms, l < k → f l = g l := by
    intro k
    induction k with
    | zero => intro l _ h; omega
    | succ k ih =>
      intro l hl h
      have b : ∀ m ∈ ms, m < l → f m = g m := fun m hm hlt => ih m hm (by omega)
      cases e : f l with
      | false => exact (hg.le f hf.good l hl b e).symm
      | true =>
        cases e2 : g l with
        | true => rfl
        | false =>
          have := hf.le g hg.good l hl (fun m hm hlt => (b m hm hlt).symm) e2
          rw [e] at this; cases this
  exact fun l hl => this (l + 1) l hl (Nat.lt_succ_self l)
theorem putS_mem {sd : List (Nat × Bool)} {c : Ch} {kv : Nat × Bool} (h : kv ∈ putS sd c) : kv ∈ sd ∨ kv = c := by
  unfold putS at h
  split at h
  · obtain ⟨x, hx, e⟩ := List.mem_map.mp h
    by_cases z : x.1 = c.1
    · rw [if_pos z] at e
      right
      rw [← e, z]
    · rw [if_neg z] at e
      exact .inl (e ▸ hx)
  · rcases List.mem_append.mp h with z | z
    · exact .inl z
    · exact .inr (List.mem_singleton.mp z)
theorem fold_sub : ∀ (cs : List Ch) (sd : List (Nat × Bool)), ∀ kv ∈ cs.foldl putS sd, kv ∈ sd ∨ kv ∈ cs
  | [], _, _, h => .inl h
  | c :: cs, sd, kv, h => by
    rcases fold_sub cs _ kv h with z | z
    · rcases putS_mem z with w | w
      · exact .inl w
      · exact .inr (w ▸ List.mem_cons_self ..)
    · exact .inr (List.mem_cons_of_mem _ z)
theorem sidesL_least (sk : Skew F n) (hn : ∀ l ∈ ms, l < n) (hf : Fine F n ms) {sF : List (Nat × Bool)} (nd : (sF.map (·.1)).Nodup) : ∀ (ls done : List Nat) (sd : List (Nat × Bool)), (done ++ ls).Pairwise (· < ·) → (∀ l ∈ done ++ ls, l ∈ ms) → Agr F n ms sd →
    sidesL F n ms ls sd = some sF → (∀ g, Good F n ms g → (∀ m ∈ done, g m = getS sF m) → ∀ kv ∈ sd, g kv.1 = kv.2) →
    ∀ g, Good F n ms g → ∀ l ∈ ls, (∀ m ∈ ms, m < l → g m = getS sF m) → g l = false → getS sF l = false
  | [], _, _, _, _, _, _, _, _, _, l, hl, _, _ => by cases hl
  | l :: ls, done, sd, hp, hms, ha, hs, fc, g, hg, x, hx, hb, hgx => by
    have hlm : l ∈ ms := hms l (by simp)
    have hls : ∀ y ∈ ls, y ∈ ms := fun y hy => hms y (by simp [hy])
    have hdl : ∀ m ∈ done, m < l ∧ m ∈ ms := fun m hm => ⟨(List.pairwise_append.mp hp).2.2 m hm l (List.mem_cons_self ..), hms m (List.mem_append_left _ hm)⟩
    have hp' : (done ++ [l] ++ ls).Pairwise (· < ·) := by simpa using hp
    have hms' : ∀ y ∈ done ++ [l] ++ ls, y ∈ ms := by simpa using hms
    have val : ∀ (sd' : List (Nat × Bool)), (∀ kv ∈ sd', kv ∈ sF) → ∀ b, (l, b) ∈ sd' → getS sF l = b := fun sd' hsub b hb => by
      have h1 := hsub _ hb
      have h2 := getS_mem (List.mem_map.mpr ⟨_, h1, rfl⟩ : l ∈ sF.map (·.1))
      have := nd_inj nd h2 h1 rfl
      exact congrArg Prod.snd this
    rw [sidesL] at hs
    split at hs
    · rename_i hk
      obtain ⟨sd', e1, e2, e3, e4⟩ := sidesL_ok sk hn hf ls sd hls ha
      have : sd' = sF := by rw [e1] at hs; exact Option.some.inj hs
      subst this
      rcases List.mem_cons.mp hx with rfl | hx'
      · obtain ⟨kv, hkv, e⟩ := List.mem_map.mp hk
        have hkv' : (x, kv.2) ∈ sd := by rw [← e]; exact hkv
        have h1 := fc g hg (fun m hm => hb m (hdl m hm).2 (hdl m hm).1) _ hkv'
        simp only at h1
        rw [val sd e3 kv.2 hkv', ← h1]; exact hgx
      · exact sidesL_least sk hn hf nd ls (done ++ [l]) sd hp' hms' ha hs (fun g hg h kv hkv => fc g hg (fun m hm => h m (List.mem_append_left _ hm)) kv hkv) g hg x hx' hb hgx
    · rename_i hk
      have go : ∀ b, poss (closM F n ms (l, b)) = true → sidesL F n ms ls ((closM F n ms (l, b)).foldl putS sd) = some sF → (getS sF l = b) ∧ (x ∈ ls → getS sF x = false) := fun b hpo hs => by
        obtain ⟨g1, g2, g3⟩ := ha.grow sk hn (s := (l, b)) hlm hk hpo
        obtain ⟨sd', e1, e2, e3, e4⟩ := sidesL_ok sk hn hf ls _ hls g1
        have : sd' = sF := by rw [e1] at hs; exact Option.some.inj hs
        subst this
        have vb := val _ e3 b g3
        refine ⟨vb, fun hx' => ?_⟩
        refine sidesL_least sk hn hf nd ls (done ++ [l]) _ hp' hms' g1 hs (fun g hg h kv hkv => ?_) g hg x hx' hb hgx
        rcases fold_sub _ _ kv hkv with z | z
        · exact fc g hg (fun m hm => h m (List.mem_append_left _ hm)) kv z
        · exact hg.rch (c := (l, b)) hlm (by rw [h l (by simp), vb]) (mem_closM.mp z)
      split at hs
      · rename_i hpo
        obtain ⟨v1, v2⟩ := go false hpo hs
        rcases List.mem_cons.mp hx with rfl | hx'
        · exact v1
        · exact v2 hx'
      · rename_i hno
        split at hs
        · rename_i hpo
          obtain ⟨v1, v2⟩ := go true hpo hs
          rcases List.mem_cons.mp hx with rfl | hx'
          · have r := not_poss sk hn (s := (x, false)) hlm hno
            have := hg.rch (c := (x, false)) hlm hgx r
            simp only [neg, hgx] at this
            cases this
          · exact v2 hx'
        · cases hs
theorem sides_least (sk : Skew F n) (hn : ∀ l ∈ ms, l < n) (hf : Fine F n ms) (asc : ms.Pairwise (· < ·)) {sF : List (Nat × Bool)} (h : sidesL F n ms ms [] = some sF) : Least F n ms (getS sF) := by
  obtain ⟨sd, e1, e2, _, e4⟩ := sidesL_ok sk hn hf ms [] (fun _ h => h) agr_nil
  have : sd = sF := by rw [e1] at h; exact Option.some.inj h
  subst this
  exact ⟨agr_good e2 e4, fun g hg l hl hb hgl => sidesL_least sk hn hf e2.nd ms [] [] (by simpa using asc) (by simp) agr_nil h (fun _ _ _ kv hkv => by cases hkv) g hg l hl hb hgl⟩
end
end Lbl

set_option Elab.async false
set_option linter.all false
namespace Lbl
section
variable {α : Type} [DecidableEq α]
/-! ### a node that leads nowhere changes no path between others -/
def nz (z : α) (kv : α × α) : Bool := decide (kv.1 ≠ z)
def nzk (z : α) (x : α) : Bool := decide (x ≠ z)
theorem keys_nz (z : α) : ∀ bf : List (α × α), keys (bf.filter (nz z)) = (keys bf).filter (nzk z)
  | [] => rfl
  | kv :: bf => by
    show (List.filter (nz z) (kv :: bf)).map (·.1) = (kv.1 :: keys bf).filter (nzk z)
    have ih := keys_nz z bf
    by_cases h : kv.1 = z
    · rw [List.filter_cons_of_neg (by simp [nz, h]), List.filter_cons_of_neg (by simp [nzk, h])]; exact ih
    · rw [List.filter_cons_of_pos (by simp [nz, h]), List.filter_cons_of_pos (by simp [nzk, h]), List.map_cons]
      exact congrArg _ ih
theorem mem_nz {z x : α} (h : x ≠ z) (bf : List (α × α)) : x ∈ keys (bf.filter (nz z)) ↔ x ∈ keys bf := by
  rw [keys_nz, List.mem_filter]
  exact ⟨fun q => q.1, fun q => ⟨q, by simpa [nzk] using h⟩⟩
def yes (_ : α) : Bool := true
theorem vis_yes {ok : α → Bool} {c : α} : ∀ (os : List α) (bf : List (α × α)), (∀ o ∈ os, ok o = true) → vis ok c os bf = vis yes c os bf
  | [], _, _ => rfl
  | o :: os, bf, h => by
    have ih := fun bf => vis_yes (c := c) os bf fun x hx => h x (List.mem_cons_of_mem _ hx)
    rw [vis, vis, ih, ih]
    have := h o (List.mem_cons_self ..)
    by_cases z : o ∈ keys bf
    · rw [if_neg (fun w => w.1 z), if_neg (fun w => w.1 z)]
    · rw [if_pos ⟨z, this⟩, if_pos ⟨z, rfl⟩]
theorem vis_drop {c z : α} : ∀ (os : List α) (bf : List (α × α)), (vis yes c os bf).filter (nz z) = vis yes c (os.filter (nzk z)) (bf.filter (nz z))
  | [], _ => rfl
  | o :: os, bf => by
    have ih := fun bf => vis_drop (c := c) (z := z) os bf
    by_cases h : o = z
    · rw [List.filter_cons_of_neg (by simp [nzk, h]), vis]
      split
      · rw [ih, List.filter_append]
        have : List.filter (nz z) [(o, c)] = [] := by simp [nz, h]
        rw [this, List.append_nil]
      · exact ih _
    · rw [List.filter_cons_of_pos (by simp [nzk, h]), vis, vis]
      by_cases w : o ∈ keys bf
      · rw [if_neg (fun q => q.1 w), if_neg (fun q => q.1 ((mem_nz h bf).mpr w))]
        exact ih _
      · rw [if_pos ⟨w, rfl⟩, if_pos ⟨fun q => w ((mem_nz h bf).mp q), rfl⟩, ih, List.filter_append]
        have : List.filter (nz z) [(o, c)] = [(o, c)] := by simp [nz, h]
        rw [this]
structure Sink (nb : α → List α) (ok ok' : α → Bool) (z : α) : Prop where
  out : (nb z).filter ok' = []
  rest : ∀ c, (nb c).filter ok = ((nb c).filter ok').filter (nzk z)
variable {nb : α → List α} {ok ok' : α → Bool} {z : α}
theorem Sink.vis (k : Sink nb ok ok' z) (c : α) (bf : List (α × α)) : (Lbl.vis ok' c (nb c) bf).filter (nz z) = Lbl.vis ok c (nb c) (bf.filter (nz z)) := by
  rw [← vis_filter (nb c) bf, vis_yes _ _ (fun o ho => (List.mem_filter.mp ho).2), vis_drop, ← k.rest, ← vis_filter (ok := ok) (nb c), vis_yes (ok := ok) _ _ (fun o ho => (List.mem_filter.mp ho).2)]
theorem filter_get {p : α → Bool} {c : α} : ∀ (l : List α) (i : Nat), l[i]? = some c → p c = true → (l.filter p)[((l.take i).filter p).length]? = some c
  | [], _, h, _ => by simp at h
  | x :: l, 0, h, hp => by
    have : x = c := by simpa using h
    subst this
    rw [List.filter_cons_of_pos hp]; rfl
  | x :: l, i + 1, h, hp => by
    have ih := filter_get l i (by simpa using h) hp
    rw [List.take_succ_cons]
    by_cases q : p x = true
    · rw [List.filter_cons_of_pos q, List.filter_cons_of_pos q, List.length_cons, List.getElem?_cons_succ]; exact ih
    · rw [List.filter_cons_of_neg q, List.filter_cons_of_neg q]; exact ih
theorem bfs_stop {g : α} (f : Nat) (bf : List (α × α)) (i : Nat) (h : (keys bf).length ≤ i ∨ g ∈ keys bf) : bfs nb ok g f bf i = bf := by
  cases f with
  | zero => rfl
  | succ f =>
    rw [bfs]
    rcases h with h | h
    · rw [List.getElem?_eq_none h]
    · split
      · rfl
      · rw [if_pos h]
theorem Sink.bfs (k : Sink nb ok ok' z) {g : α} (hg : g ≠ z) {nodes nodes' : List α} (hn : ∀ c, ∀ o ∈ nb c, ok o = true → o ∈ nodes) (hn' : ∀ c, ∀ o ∈ nb c, ok' o = true → o ∈ nodes') : ∀ (f' : Nat) (bf : List (α × α)) (i' f i : Nat), i' ≤ (keys bf).length →
    (((keys bf).take i').filter (nzk z)).length = i → (keys bf).length + left nodes' (keys bf) ≤ f' + i' → (keys (bf.filter (nz z))).length + left nodes (keys (bf.filter (nz z))) ≤ f + i →
    (Lbl.bfs nb ok' g f' bf i').filter (nz z) = Lbl.bfs nb ok g f (bf.filter (nz z)) i
  | 0, bf, i', f, i, hi, hj, h1, h2 => by
    have e : i' = (keys bf).length := by omega
    rw [bfs_stop (nb := nb) (ok := ok) f _ i (.inl ?_)]
    · rfl
    · rw [keys_nz, ← hj, e, List.take_length]; exact Nat.le_refl _
  | f' + 1, bf, i', f, i, hi, hj, h1, h2 => by
    cases e : (keys bf)[i']? with
    | none =>
      have hl := List.getElem?_eq_none_iff.mp e
      rw [bfs_stop (nb := nb) (ok := ok') _ _ i' (.inl hl), bfs_stop (nb := nb) (ok := ok) f _ i (.inl ?_)]
      rw [keys_nz, ← hj, List.take_of_length_le hl]; exact Nat.le_refl _
    | some c =>
      have hlt : i' < (keys bf).length := (List.getElem?_eq_some_iff.mp e).1
      by_cases hgk : g ∈ keys bf
      · rw [bfs_stop (nb := nb) (ok := ok') _ _ i' (.inr hgk), bfs_stop (nb := nb) (ok := ok) f _ i (.inr ((mem_nz hg bf).mpr hgk))]
      · rw [Lbl.bfs, e]
        simp only [if_neg hgk]
        have tk : (keys bf).take (i' + 1) = (keys bf).take i' ++ [c] := by rw [List.take_add_one, e]; rfl
        by_cases hc : c = z
        · have hv : Lbl.vis ok' c (nb c) bf = bf := by rw [hc, ← vis_filter, k.out]; rfl
          rw [hv]
          refine Sink.bfs k hg hn hn' f' bf (i' + 1) f i hlt ?_ (by omega) h2
          rw [tk, List.filter_append, List.length_append, hj]
          simp [nzk, hc]
        · have hg1 := filter_get (p := nzk z) (keys bf) i' e (by simpa [nzk] using hc)
          rw [← keys_nz, hj] at hg1
          have hil := (List.getElem?_eq_some_iff.mp hg1).1
          cases f with
          | zero => omega
          | succ f =>
            rw [Lbl.bfs, hg1]
            simp only [if_neg (fun w => hgk ((mem_nz hg bf).mp w))]
            have kv := k.vis c bf
            have l1 := vis_left (c := c) (nb c) bf (hn' c)
            have l2 := vis_left (c := c) (nb c) (bf.filter (nz z)) (hn c)
            rw [← kv] at l2 ⊢
            have pre := vis_pre (ok := ok') (c := c) (nb c) bf
            have pk : keys bf <+: keys (Lbl.vis ok' c (nb c) bf) := List.IsPrefix.map _ pre
            have pl := pk.length_le
            refine Sink.bfs k hg hn hn' f' _ (i' + 1) f (i + 1) (by omega) ?_ (by omega) (by omega)
            obtain ⟨t, ht⟩ := pk
            rw [← ht, List.take_append_of_le_length (by omega), tk, List.filter_append, List.length_append, hj]
            simp [nzk, hc]
theorem par_nz {x : α} (h : x ≠ z) (bf : List (α × α)) : par (bf.filter (nz z)) x = par bf x := by
  unfold par
  rw [List.find?_filter]
  congr 2
  funext kv
  by_cases e : kv.1 = x
  · simp [nz, e, h]
  · simp [e]
theorem Sink.path (k : Sink nb ok ok' z) {s g : α} (hs : s ≠ z) (hg : g ≠ z) {nodes nodes' : List α} (hn : ∀ c, ∀ o ∈ nb c, ok o = true → o ∈ nodes) (hn' : ∀ c, ∀ o ∈ nb c, ok' o = true → o ∈ nodes') : Lbl.path nb ok' nodes' s g = Lbl.path nb ok nodes s g := by
  have f1 : [(s, s)].filter (nz z) = [(s, s)] := by simp [nz, hs]
  have b : ∀ nodes : List α, (keys [(s, s)]).length + left nodes (keys [(s, s)]) ≤ (1 + nodes.length) + 0 := fun nodes => by
    have := left_le (nodes := nodes) (bf := keys [(s, s)])
    simp only [keys, List.map_cons, List.map_nil, List.length_singleton] at this ⊢; omega
  have h := k.bfs hg hn hn' (1 + nodes'.length) [(s, s)] 0 (1 + nodes.length) 0 (Nat.zero_le _) rfl (b nodes') (by rw [f1]; exact b nodes)
  rw [f1] at h
  obtain ⟨j, sch, _⟩ := bfs_end (g := g) hn _ _ _ (Sch.base (s := s)) (b nodes)
  obtain ⟨j', sch', _⟩ := bfs_end (g := g) hn' _ _ _ (Sch.base (s := s)) (b nodes')
  unfold Lbl.path
  simp only
  generalize Lbl.bfs nb ok' g (1 + nodes'.length) [(s, s)] 0 = r' at h sch'
  generalize Lbl.bfs nb ok g (1 + nodes.length) [(s, s)] 0 = r at h sch
  have hk : g ∈ keys r ↔ g ∈ keys r' := by rw [← h]; exact mem_nz hg r'
  have knz : ∀ x ∈ keys r, x ≠ z := fun x hx => by
    rw [← h, keys_nz] at hx
    simpa [nzk] using (List.mem_filter.mp hx).2
  by_cases hgr : g ∈ keys r
  · rw [if_pos (hk.mp hgr), if_pos hgr]
    have same : ∀ (f : Nat) (x : α), x ∈ keys r → back r' s f x = back r s f x := by
      intro f
      induction f with
      | zero => intro x _; rfl
      | succ f ih =>
        intro x hx
        rw [back, back]
        by_cases e : x = s
        · rw [if_pos e, if_pos e]
        · rw [if_neg e, if_neg e]
          obtain ⟨p, hp, hpk, _⟩ := sch.t.edge x hx e
          have hp' : par r' x = some p := by rw [← par_nz (knz x hx) r', h]; exact hp
          rw [hp, hp']
          simp only
          rw [ih p hpk]
    obtain ⟨d, hd, hdep⟩ := sch.t.dep g hgr
    have hle : r.length ≤ r'.length := by rw [← h]; exact List.length_filter_le _ _
    rw [same _ _ hgr, back_dep hdep r'.length (by omega), back_dep hdep r.length (by omega)]
  · rw [if_neg hgr, if_neg (fun w => hgr (hk.mpr w))]
end
end Lbl

set_option Elab.async false
set_option linter.all false
set_option maxRecDepth 100000
namespace K74
open PySem PySem.Spec PyProof.Rows L2 Cs Lbl

@[simp] theorem at0_ (a : D) (l : List D) : atI (a :: l) 0 = some a := atI_0 a l
@[simp] theorem at1_ (a b : D) (l : List D) : atI (a :: b :: l) 1 = some b := atI_1 a b l
@[simp] theorem at2_ (a b c : D) (l : List D) : atI (a :: b :: c :: l) 2 = some c := atI_2 a b c l
@[simp] theorem at3_ (a b c d : D) (l : List D) : atI (a :: b :: c :: d :: l) 3 = some d := atI_3 a b c d l
abbrev G : String → Option D := fun _ => none
abbrev sS (s : String) : D := .str (Str.ofString s)
/-! ### problems -/
structure Rc where
  x : Int
  y : Int
  w : Int
  h : Int
deriving Inhabited
def Rc.d (r : Rc) : D := .tup [.int r.x, .int r.y, .int r.w, .int r.h]
structure Pb where
  area : Rc
  obs : List Rc
  lbs : List (Rc × Rc)
def lbD (l : Rc × Rc) : D := .tup [l.1.d, l.2.d]
def Pb.d (p : Pb) : D := .tup [p.area.d, .tup (p.obs.map Rc.d), .tup (p.lbs.map lbD)]
def inB (a b : Rc) : Bool := decide (b.x ≤ a.x ∧ b.y ≤ a.y ∧ a.x + a.w ≤ b.x + b.w ∧ a.y + a.h ≤ b.y + b.h)
def ovB (a b : Rc) : Bool := decide (a.x < a.x + a.w ∧ a.x < b.x + b.w ∧ b.x < a.x + a.w ∧ b.x < b.x + b.w ∧ a.y < a.y + a.h ∧ a.y < b.y + b.h ∧ b.y < a.y + a.h ∧ b.y < b.y + b.h)
theorem ovB_symm (a b : Rc) : ovB a b = ovB b a := by
  unfold ovB
  rw [decide_eq_decide]
  omega
def rcOf (p : Pb) (c : Ch) : Rc := if c.2 then (p.lbs.getD c.1 default).2 else (p.lbs.getD c.1 default).1
def freeB (p : Pb) (c : Ch) : Bool := inB (rcOf p c) p.area && p.obs.all fun o => !ovB (rcOf p c) o
def frcB (p : Pb) (c d : Ch) : Bool := if c.1 = d.1 then decide (c.2 ≠ d.2) && !freeB p c else ovB (rcOf p c) (rcOf p (neg d))
def sd (b : Bool) : Int := if b then 1 else 0
def chD (c : Ch) : D := .tup [.int c.1, .int (sd c.2)]
theorem sd_inj {a b : Bool} : sd a = sd b ↔ a = b := by cases a <;> cases b <;> simp [sd]
theorem sd_neg (a : Bool) : 1 - sd a = sd (!a) := by cases a <;> simp [sd]

section
variable {k : Nat} {S : Sto} {Q : D → Sto → Prop}
theorem c_inside {a b : Rc} (h : Q (.bl (inB a b)) S) : wp (callF tab G (k + 1) "inside" [a.d, b.d] S) Q := by
  rw [callF_succ (by decide) rfl]
  refine wp_run rfl rfl ?_
  unfold inB at h
  by_cases h1 : a.x < b.x
  · rw [decide_eq_false (by omega)] at h
    simp [d_inside, start', Rc.d, h1]
    exact wp_fin_same rfl h
  by_cases h2 : a.y < b.y
  · rw [decide_eq_false (by omega)] at h
    simp [d_inside, start', Rc.d, h1, h2]
    exact wp_fin_same rfl h
  by_cases h3 : a.x + a.w ≤ b.x + b.w
  · simp [d_inside, start', Rc.d, h1, h2, h3]
    refine wp_fin_same rfl ?_
    have : decide (b.x ≤ a.x ∧ b.y ≤ a.y ∧ a.x + a.w ≤ b.x + b.w ∧ a.y + a.h ≤ b.y + b.h) = decide (a.y + a.h ≤ b.y + b.h) := by rw [decide_eq_decide]; omega
    rwa [this] at h
  · rw [decide_eq_false (by omega)] at h
    simp [d_inside, start', Rc.d, h1, h2, h3]
    exact wp_fin_same rfl h
theorem c_common {a b : Rc} (h : ∀ d : D, d.pure = true → isN d = !ovB a b → Q d S) : wp (callF tab G (k + 1) "common" [a.d, b.d] S) Q := by
  rw [callF_succ (by decide) rfl]
  refine wp_run rfl rfl ?_
  simp [d_common, start', Rc.d]
  generalize hl : (if a.x < b.x then b.x else a.x) = l
  generalize ht : (if a.y < b.y then b.y else a.y) = t
  generalize hr : (if b.x + b.w < a.x + a.w then b.x + b.w else a.x + a.w) = r
  generalize hw : (if b.y + b.h < a.y + a.h then b.y + b.h else a.y + a.h) = w
  have key : ovB a b = decide (l < r ∧ t < w) := by
    unfold ovB
    rw [decide_eq_decide]
    omega
  rw [key] at h
  by_cases h1 : r ≤ l
  · simp [h1]
    refine wp_fin_same rfl (h _ rfl ?_)
    rw [decide_eq_false (by omega)]; rfl
  by_cases h2 : w ≤ t
  · simp [h1, h2]
    refine wp_fin_same rfl (h _ rfl ?_)
    rw [decide_eq_false (by omega)]; rfl
  · simp [h1, h2]
    refine wp_fin_same rfl (h _ rfl ?_)
    rw [decide_eq_true (by omega)]; rfl
theorem c_overlap {a b : Rc} (h : Q (.bl (ovB a b)) S) : wp (callF tab G (k + 2) "overlap" [a.d, b.d] S) Q := by
  rw [callF_succ (by decide) rfl]
  refine wp_run rfl rfl ?_
  simp [d_overlap, start']
  refine c_common fun d hd e => ?_
  rw [e]
  simp
  exact wp_fin_same rfl h
theorem atI_map {α : Type} {f : α → D} {l : List α} {i : Nat} {x : α} (h : l[i]? = some x) : atI (l.map f) (i : Int) = some (f x) := atI_nat (by rw [List.getElem?_map, h]; rfl)
theorem c_chosen {p : Pb} {c : Ch} (hc : c.1 < p.lbs.length) (h : Q (rcOf p c).d S) : wp (callF tab G (k + 1) "chosen_rectangle" [p.d, chD c] S) Q := by
  rw [callF_succ (by decide) rfl]
  refine wp_run rfl rfl ?_
  have e : p.lbs[c.1]? = some (p.lbs.getD c.1 default) := by rw [List.getD_eq_getElem?_getD, List.getElem?_eq_getElem hc]; rfl
  have e2 := atI_map (f := lbD) e
  obtain ⟨l, b⟩ := c
  unfold rcOf at h
  cases b
  · simp [d_chosen_rectangle, start', Pb.d, chD, e2, lbD, sd]
    exact wp_fin_same rfl h
  · simp [d_chosen_rectangle, start', Pb.d, chD, e2, lbD, sd]
    exact wp_fin_same rfl h
theorem c_other {c : Ch} (h : Q (chD (neg c)) S) : wp (callF tab G (k + 1) "other_choice" [chD c] S) Q := by
  rw [callF_succ (by decide) rfl]
  refine wp_run rfl rfl ?_
  simp [d_other_choice, start', chD, sd_neg]
  exact wp_fin_same rfl h
inductive FreeI (p : Pb) (c : Ch) (S : Sto) : List D → Ev → Sto → Prop where
  | mk {os : List Rc} {o : Option D} (h : (p.obs.all fun o => !ovB (rcOf p c) o) = os.all fun o => !ovB (rcOf p c) o) : FreeI p c S (os.map Rc.d) [some p.d, some (chD c), some (rcOf p c).d, o] S
theorem c_free {p : Pb} {c : Ch} (hc : c.1 < p.lbs.length) (h : Q (.bl (freeB p c)) S) : wp (callF tab G (k + 3) "is_free" [p.d, chD c] S) Q := by
  rw [callF_succ (by decide) rfl]
  refine wp_run rfl rfl ?_
  simp [d_is_free, start']
  refine c_chosen hc ?_
  have e0 : ∀ S, iop p.d (.int 0) S = some (p.area.d, S) := fun S => by simp [Pb.d]
  have e1 : ∀ S, iop p.d (.int 1) S = some (.tup (p.obs.map Rc.d), S) := fun S => by simp [Pb.d]
  simp [e0]
  refine c_inside ?_
  unfold freeB at h
  cases hi : inB (rcOf p c) p.area with
  | false =>
    simp
    rw [hi] at h
    exact wp_fin_same rfl h
  | true =>
    rw [hi, Bool.true_and] at h
    simp [e1]
    refine wp_forQ (I := FreeI p c S) ?_ ?_ ?_ _ _ _ (.mk rfl)
    · intros; exact still_nil _
    · intro x xs env S' hI
      generalize hX : x :: xs = X at hI
      cases hI with
      | @mk os o hos =>
      cases os with
      | nil => cases hX
      | cons o' os =>
        cases hX
        refine ⟨_, rfl, ?_⟩
        simp
        refine c_overlap ?_
        cases ho : ovB (rcOf p c) o' with
        | true =>
          simp
          refine wp_fin_same rfl ?_
          rw [hos] at h
          simp only [List.all_cons, ho, Bool.not_true, Bool.false_and] at h
          exact h
        | false =>
          simp
          exact .mk (by rw [hos]; simp only [List.all_cons, ho, Bool.not_false, Bool.true_and])
    · intro env S' hI
      generalize hX : ([] : List D) = X at hI
      cases hI with
      | @mk os o hos =>
      cases os with
      | cons _ _ => cases hX
      | nil =>
        simp
        refine wp_fin_same rfl ?_
        rw [hos] at h
        exact h
theorem c_forces {p : Pb} {c d : Ch} (hc : c.1 < p.lbs.length) (hd : d.1 < p.lbs.length) (h : Q (.bl (frcB p c d)) S) : wp (callF tab G (k + 4) "forces" [p.d, chD c, chD d] S) Q := by
  rw [callF_succ (by decide) rfl]
  refine wp_run rfl rfl ?_
  have e0 : ∀ (c : Ch) S, iop (chD c) (.int 0) S = some (.int c.1, S) := fun c S => by simp [chD]
  have e1 : ∀ (c : Ch) S, iop (chD c) (.int 1) S = some (.int (sd c.2), S) := fun c S => by simp [chD]
  unfold frcB at h
  by_cases e : c.1 = d.1
  · rw [if_pos e] at h
    have e' : (c.1 : Int) = d.1 := by omega
    by_cases s : c.2 = d.2
    · simp only [s, ne_eq, not_true, decide_false, Bool.false_and] at h
      simp [d_forces, start', e0, e1, e', s]
      exact wp_fin_same rfl h
    · have s' : ¬ sd c.2 = sd d.2 := fun z => s (sd_inj.mp z)
      simp only [ne_eq, s, not_false_eq_true, decide_true, Bool.true_and] at h
      simp [d_forces, start', e0, e1, e', s']
      refine c_free hc ?_
      simp
      exact wp_fin_same rfl h
  · rw [if_neg e] at h
    have e' : ¬ (c.1 : Int) = d.1 := by omega
    simp [d_forces, start', e0, e1, e']
    refine c_chosen hc ?_
    refine c_other ?_
    refine c_chosen (by rw [neg_fst]; exact hd) ?_
    refine c_overlap ?_
    exact wp_fin_same rfl h
end
end K74

set_option Elab.async false
set_option linter.all false
set_option maxRecDepth 100000
namespace Cs
open PySem PySem.Spec PyProof.Rows L2
theorem wp_dcL {cond : Ev → Sto → Option (Bool × Sto)} {elt val : Ev → Sto → Option (D × Sto)} {w : Watch} {t : Tg} {n0 : Nat} {env : Ev} {Q : Sto → Prop} (I : List D → Sto → Prop) (hs : ∀ xs S, I xs S → still w S)
    (step : ∀ x xs S, I (x :: xs) S → ∃ env1, asg t x env = some env1 ∧ wp (cond env1 S) fun k S1 => k = true ∧ wp (elt env1 S1) fun y S2 => wp (val env1 S2) fun z S3 => ∃ kvs kt, getT S3 n0 = some kvs ∧ keyT y = some kt ∧ kvs.length < sizeLine ∧ I xs (S3.set n0 (.dt (putD kvs kt z))))
    (done : ∀ S, I [] S → Q S) : ∀ xs S, I xs S → wp (dcL cond elt val w t n0 env xs S) fun _ S => Q S
  | [], S, h => by
    rw [dcL, if_pos (hs _ _ h)]
    exact wp_some _ _ _ |>.mpr (done _ h)
  | x :: xs, S, h => by
    obtain ⟨env1, e1, k, S1, e2, hk, y, S2, e3, z, S3, e4, kvs, kt, e5, e6, l, q⟩ := step x xs S h
    subst hk
    rw [dcL, if_pos (hs _ _ h), e1]
    simp only [wp_bnd]
    refine ⟨true, S1, e2, ?_⟩
    simp only [↓reduceIte, wp_bnd]
    refine ⟨y, S2, e3, z, S3, e4, ?_⟩
    simp only [e5, e6]
    rw [if_pos l]
    exact wp_dcL I hs step done xs _ q
def keptQ (Q : D → Sto → Prop) : Fl → Sto → Prop := fun f S1 => match f with
  | .rt d => Q d S1
  | .nx _ => Q .non S1
  | _ => False
@[simp] theorem keptQ_rt (Q : D → Sto → Prop) (d : D) (S : Sto) : keptQ Q (.rt d) S = Q d S := rfl
theorem wp_runK {c : Cfg} {fd : FDef} {vs : List D} {S : Sto} {Q : D → Sto → Prop} (hl : vs.length = fd.np) (hk : fd.keep = true)
    (h : wp (exSs c fd.body (start' fd vs) S) (keptQ Q)) : wp (runF c fd vs S) Q := by
  obtain ⟨f, S1, e, q⟩ := h
  rw [runF, if_pos hl, e, bnd_some]
  cases f with
  | rt d => simp only [hk]; exact ⟨d, S1, rfl, q⟩
  | nx env => simp only [hk]; exact ⟨.non, S1, rfl, q⟩
  | bk e => cases q
  | ct e => cases q
theorem getL_pre {J : Sto} {i : Nat} {xs : List D} (h : getL J i = some xs) (J' : Sto) : getL (J ++ J') i = some xs := by
  have hi : i < J.length := by
    rcases Nat.lt_or_ge i J.length with z | z
    · exact z
    · unfold getL at h; rw [List.getElem?_eq_none z] at h; cases h
  unfold getL at h ⊢
  rw [List.getElem?_append_left hi]; exact h
theorem getT_pre {J : Sto} {i : Nat} {xs : List (List Key × D)} (h : getT J i = some xs) (J' : Sto) : getT (J ++ J') i = some xs := by
  have hi : i < J.length := by
    rcases Nat.lt_or_ge i J.length with z | z
    · exact z
    · unfold getT at h; rw [List.getElem?_eq_none z] at h; cases h
  unfold getT at h ⊢
  rw [List.getElem?_append_left hi]; exact h
@[simp] theorem getL_end (J : Sto) (xs : List D) : getL (J ++ [.lst xs]) J.length = some xs := by
  unfold getL; rw [List.getElem?_append_right (Nat.le_refl _), Nat.sub_self]; rfl
@[simp] theorem getM_end (J : Sto) (xs : List D) : getM (J ++ [.lst xs]) J.length = some xs := by
  unfold getM; rw [List.getElem?_append_right (Nat.le_refl _), Nat.sub_self]; rfl
@[simp] theorem set_end (J : Sto) (x y : SO) : (J ++ [x]).set J.length y = J ++ [y] := by
  rw [List.set_append_right _ _ (Nat.le_refl _), Nat.sub_self]; rfl
theorem putD_new {κ : Type} [DecidableEq κ] {kvs : List (κ × D)} {k : κ} {v : D} (h : ∀ kv ∈ kvs, kv.1 ≠ k) : putD kvs k v = kvs ++ [(k, v)] := by
  unfold putD
  rw [if_neg]
  simp only [List.any_eq_true, decide_eq_true_eq, not_exists, not_and]
  exact h
theorem mapM_int : ∀ (l : List Int), (l.map D.int).mapM D.isI = some l
  | [] => rfl
  | i :: l => by
    rw [List.map_cons, List.mapM_cons, mapM_int l]
    rfl
theorem rng_sorted (n : Nat) : ((List.range n).map fun i : Nat => (i : Int)).mergeSort (fun a b => decide (a ≤ b)) = (List.range n).map fun i : Nat => (i : Int) := by
  refine List.mergeSort_of_pairwise ?_
  rw [List.pairwise_map]
  exact List.pairwise_lt_range.imp fun h => by simp; omega
theorem rngD_eq (n : Nat) : rngD 0 n = ((List.range n).map fun i : Nat => (i : Int)).map D.int := by
  unfold rngD
  rw [List.map_map]
  exact List.map_congr_left fun i _ => by simp
theorem sorted_rng {m n : Nat} {S : Sto} (h : getL S m = some (rngD 0 n)) (hn : n < 64) : bSorted [.loc m] S = some (.loc S.length, S ++ [.lst (rngD 0 n)]) := by
  unfold bSorted
  simp only [h]
  rw [if_pos (by simpa [rngD] using hn), rngD_eq, mapM_int]
  simp only [rng_sorted]
end Cs
namespace K74
open PySem PySem.Spec PyProof.Rows L2 Cs Lbl
/-- choices as keys -/
def kT (c : Ch) : List Key := [.inl c.1, .inl (sd c.2)]
theorem keyT_chD (c : Ch) : keyT (chD c) = some (kT c) := rfl
theorem kT_inj {c d : Ch} (h : kT c = kT d) : c = d := by
  obtain ⟨l, a⟩ := c
  obtain ⟨m, b⟩ := d
  simp [kT] at h
  have := sd_inj.mp h.2
  have e : l = m := by omega
  rw [e, this]
def FP (p : Pb) (c d : Ch) : Bool := decide (c.1 < p.lbs.length) && (decide (d.1 < p.lbs.length) && frcB p c d)
theorem chs_nodup (n : Nat) : (choices (List.range n)).Nodup := by
  have : ∀ l : List Nat, l.Nodup → (choices l).Nodup := by
    intro l
    induction l with
    | nil => intro _; exact List.nodup_nil
    | cons x l ih =>
      intro h
      rw [List.nodup_cons] at h
      show ((x, false) :: (x, true) :: choices l).Nodup
      have m : ∀ b, (x, b) ∉ choices l := fun b hb => h.1 (mem_choices.mp hb)
      rw [List.nodup_cons, List.nodup_cons]
      refine ⟨?_, m true, ih h.2⟩
      intro hm
      rcases List.mem_cons.mp hm with e | e
      · cases e
      · exact m false e
  exact this _ List.nodup_range
/-- the dict of lists of choices -/
structure Lk (ns : List Int) (W : Sto) (m : Nat) (F : Ch → Ch → Bool) (n : Nat) : Prop where
  get : ∀ c : Ch, c.1 < n → ∃ q, (∀ t J, iop (.loc m) (chD c) (tp (ns.map .int) t ++ (W ++ J)) = some (.loc q, tp (ns.map .int) t ++ (W ++ J))) ∧ (∀ t J, getL (tp (ns.map .int) t ++ (W ++ J)) q = some ((nbr F n c).map chD))
theorem Lk.app {ns : List Int} {W : Sto} {m : Nat} {F : Ch → Ch → Bool} {n : Nat} (h : Lk ns W m F n) (J : Sto) : Lk ns (W ++ J) m F n := ⟨fun c hc => by
  obtain ⟨q, h1, h2⟩ := h.get c hc
  exact ⟨q, fun t J' => by rw [List.append_assoc]; exact h1 t _, fun t J' => by rw [List.append_assoc]; exact h2 t _⟩⟩
def lkv (W : Sto) : Nat → List Ch → List (List Key × D)
  | _, [] => []
  | i, c :: cs => (kT c, .loc (ad W i)) :: lkv W (i + 1) cs
theorem lkv_app (W : Sto) (c : Ch) : ∀ (cs : List Ch) (i : Nat), lkv W i (cs ++ [c]) = lkv W i cs ++ [(kT c, .loc (ad W (i + cs.length)))]
  | [], i => rfl
  | d :: cs, i => by
    rw [List.cons_append, lkv, lkv_app W c cs (i + 1), lkv, List.cons_append, List.length_cons, Nat.add_right_comm, Nat.add_assoc]
theorem lkv_len (W : Sto) : ∀ (cs : List Ch) (i : Nat), (lkv W i cs).length = cs.length
  | [], _ => rfl
  | _ :: cs, i => by rw [lkv, List.length_cons, lkv_len W cs, List.length_cons]
theorem lkv_key (W : Sto) : ∀ (cs : List Ch) (i : Nat), ∀ kv ∈ lkv W i cs, ∃ c ∈ cs, kv.1 = kT c
  | [], _, kv, h => by cases h
  | c :: cs, i, kv, h => by
    rcases List.mem_cons.mp h with rfl | h
    · exact ⟨c, List.mem_cons_self .., rfl⟩
    · obtain ⟨d, hd, e⟩ := lkv_key W cs _ kv h
      exact ⟨d, List.mem_cons_of_mem _ hd, e⟩
theorem lkv_val (W : Sto) (c : Ch) : ∀ (cs : List Ch) (i : Nat), c ∈ cs → ∃ j, cs[j]? = some c ∧ valD (lkv W i cs) (kT c) = some (.loc (ad W (i + j)))
  | [], _, h => by cases h
  | d :: cs, i, h => by
    by_cases e : d = c
    · subst e
      refine ⟨0, rfl, ?_⟩
      unfold lkv valD
      rw [List.find?_cons_of_pos (by simp)]
      rfl
    · obtain ⟨j, e1, e2⟩ := lkv_val W c cs (i + 1) ((List.mem_cons.mp h).resolve_left fun z => e z.symm)
      refine ⟨j + 1, e1, ?_⟩
      have : ¬ kT d = kT c := fun z => e (kT_inj z)
      unfold lkv
      unfold valD at e2 ⊢
      rw [List.find?_cons_of_neg (by simpa using this), e2, Nat.add_right_comm, Nat.add_assoc]
section
variable {ns : List Int} {k : Nat} {t : Tp} {W : Sto} {Q : D → Sto → Prop}
theorem dkAt_ad (sc : List D) (J : Sto) (i : Nat) (y : D) : dkAt (.loc (ad W i)) y (tp sc t ++ (W ++ J)) = match getK J i with
    | some kvs => (keyD y).map (valD kvs)
    | none => match getT J i with
      | some kvs => (keyT y).map (valD kvs)
      | none => none := by
  rw [dkAt_loc, tp_getK, tp_getT] <;> cases getK J i <;> cases getT J i <;> rfl
theorem setOp_adT {sc : List D} {J : Sto} {i : Nat} {kvs : List (List Key × D)} {c : Ch} {z : D} (h : getT J i = some kvs) (hk : getK J i = none) (hl : kvs.length < sizeLine) :
    setOp z (.loc (ad W i)) (chD c) (tp sc t ++ (W ++ J)) = some ((), tp sc t ++ (W ++ J.set i (.dt (putD kvs (kT c) z)))) := by
  simp only [setOp, tp_getK, tp_getT, h, hk, keyT_chD, if_pos hl, tp_set]
def J0 (n : Nat) (kvs : List (List Key × D)) (ls : Sto) : Sto := [.lst (rngD 0 n), .lst ((choices (List.range n)).map chD), .dt kvs] ++ ls
inductive L1I (ns : List Int) (t : Tp) (W : Sto) (n : Nat) : List D → Sto → Prop where
  | mk {ls r : List Nat} (h : List.range n = ls ++ r) : L1I ns t W n (r.map fun i : Nat => D.int i) (tp (ns.map .int) t ++ (W ++ [.lst (rngD 0 n), .lst ((choices ls).map chD)]))
inductive DcI (ns : List Int) (t : Tp) (W : Sto) (F : Ch → Ch → Bool) (n : Nat) : List D → Sto → Prop where
  | mk {cs r : List Ch} (h : choices (List.range n) = cs ++ r) : DcI ns t W F n (r.map chD) (tp (ns.map .int) t ++ (W ++ J0 n (lkv W 3 cs) (cs.map fun c => .lst ((nbr F n c).map chD))))
inductive FiI (ns : List Int) (t : Tp) (W J : Sto) (F : Ch → Ch → Bool) (n : Nat) (c : Ch) : List D → Sto → Prop where
  | mk {cs r : List Ch} (h : choices (List.range n) = cs ++ r) : FiI ns t W J F n c (r.map chD) (tp (ns.map .int) t ++ (W ++ (J ++ [.lst ((cs.filter (F c)).map chD)])))
theorem choices_app (a : List Nat) (l : Nat) : choices (a ++ [l]) = choices a ++ [(l, false), (l, true)] := by
  unfold choices; rw [List.flatMap_append]; rfl
theorem c_links {p : Pb} {m : Nat} (hn : p.lbs.length < 64) (hm : getL (tp (ns.map .int) t ++ W) m = some (rngD 0 p.lbs.length))
    (h : ∀ J m', Lk ns (W ++ J) m' (FP p) p.lbs.length → Q (.loc m') (tp (ns.map .int) t ++ (W ++ J))) : wp (callF tab G (k + 5) "links_of" [p.d, .loc m] (tp (ns.map .int) t ++ W)) Q := by
  rw [callF_succ (by decide) rfl]
  refine wp_runK rfl rfl ?_
  simp [d_links_of, start', sorted_rng hm hn]
  have hz : sizeLine = 10000000 ∨ 1000000 ≤ sizeLine := .inr (by rw [sizeLine_eq]; omega)
  refine wp.mono (wp_lc2L (I := L1I ns t W p.lbs.length) (Q := fun S => S = tp (ns.map .int) t ++ (W ++ [.lst (rngD 0 p.lbs.length), .lst ((choices (List.range p.lbs.length)).map chD)])) ?_ ?_ ?_ _ _ ?_) ?_
  · rintro xs S ⟨_⟩
    exact still_one (by simp)
  · intro x xs S hI
    generalize hX : x :: xs = X at hI
    cases hI with
    | @mk ls r hr =>
    cases r with
    | nil => cases hX
    | cons l r =>
      cases hX
      refine ⟨_, rfl, ?_⟩
      have hl : (choices ls).length = 2 * ls.length := by
        clear hr
        induction ls with
        | nil => rfl
        | cons a ls ih => show (choices ls).length + 1 + 1 = _; rw [ih, List.length_cons]; omega
      have hls : ls.length < 64 := by
        have := congrArg List.length hr
        simp at this
        omega
      have s1 : (choices ls).length < sizeLine := by rw [sizeLine_eq]; omega
      have s2 : (choices ls).length + 1 < sizeLine := by rw [sizeLine_eq]; omega
      simp [lcL, still_nil, wipeE, Tg.slots, s1, s2]
      have := L1I.mk (ns := ns) (t := t) (W := W) (n := p.lbs.length) (ls := ls ++ [l]) (r := r) (by rw [hr]; simp)
      rw [choices_app] at this
      simpa [chD, sd] using this
  · intro S hI
    generalize hX : ([] : List D) = X at hI
    cases hI with
    | @mk ls r hr =>
    cases r with
    | cons _ _ => cases hX
    | nil =>
      rw [List.append_nil] at hr
      rw [← hr]
  · have := L1I.mk (ns := ns) (t := t) (W := W) (n := p.lbs.length) (ls := []) (r := List.range p.lbs.length) rfl
    simpa [rngD, choices] using this
  · rintro _ S rfl
    simp
    have hcl : (choices (List.range p.lbs.length)).length < 128 := by
      have : ∀ l : List Nat, (choices l).length = 2 * l.length := by
        intro l
        induction l with
        | nil => rfl
        | cons a ls ih => show (choices ls).length + 1 + 1 = _; rw [ih, List.length_cons]; omega
      rw [this]; simp; omega
    refine wp.mono (wp_dcL (I := DcI ns t W (FP p) p.lbs.length) (Q := fun S => S = tp (ns.map .int) t ++ (W ++ J0 p.lbs.length (lkv W 3 (choices (List.range p.lbs.length))) ((choices (List.range p.lbs.length)).map fun c => .lst ((nbr (FP p) p.lbs.length c).map chD)))) ?_ ?_ ?_ _ _ ?_) ?_
    · rintro xs S ⟨_⟩
      exact still_one (by simp [J0])
    · intro x xs S hI
      generalize hX : x :: xs = X at hI
      cases hI with
      | @mk cs r hr =>
      cases r with
      | nil => cases hX
      | cons c r =>
        cases hX
        refine ⟨_, rfl, ?_⟩
        generalize hJ : J0 p.lbs.length (lkv W 3 cs) (cs.map fun c => SO.lst ((nbr (FP p) p.lbs.length c).map chD)) = J
        have g1 : getL J 1 = some ((choices (List.range p.lbs.length)).map chD) := by rw [← hJ]; rfl
        have g2 : getT J 2 = some (lkv W 3 cs) := by rw [← hJ]; rfl
        have gl : J.length = 3 + cs.length := by rw [← hJ]; simp [J0]; omega
        simp [wipeE, Tg.slots, g1]
        refine wp.mono (wp_lcL (I := FiI ns t W J (FP p) p.lbs.length c) (Q := fun S => S = tp (ns.map .int) t ++ (W ++ (J ++ [.lst ((nbr (FP p) p.lbs.length c).map chD)]))) ?_ ?_ ?_ _ _ ?_) ?_
        · rintro xs S ⟨_⟩
          exact still_one (by simp [getL_pre g1])
        · intro x xs S hI
          generalize hX : x :: xs = X at hI
          cases hI with
          | @mk ds r2 hr2 =>
          cases r2 with
          | nil => cases hX
          | cons d r2 =>
            cases hX
            refine ⟨_, rfl, ?_⟩
            simp
            have mc : c.1 < p.lbs.length := List.mem_range.mp (mem_choices.mp (by rw [hr]; simp : c ∈ choices (List.range p.lbs.length)))
            have md : d.1 < p.lbs.length := List.mem_range.mp (mem_choices.mp (by rw [hr2]; simp : d ∈ choices (List.range p.lbs.length)))
            refine c_forces mc md ?_
            have fe : FP p c d = frcB p c d := by simp [FP, mc, md]
            have hl : (ds.filter (FP p c)).length < sizeLine := by
              have h1 := List.length_filter_le (FP p c) ds
              have h2 := congrArg List.length hr2
              rw [List.length_append] at h2
              rw [sizeLine_eq]; omega
            have nx := FiI.mk (ns := ns) (t := t) (W := W) (J := J) (F := FP p) (n := p.lbs.length) (c := c) (cs := ds ++ [d]) (r := r2) (by rw [hr2]; simp)
            rw [List.filter_append, List.filter_cons, List.filter_nil, fe] at nx
            cases hf : frcB p c d with
            | true =>
              rw [hf] at nx
              simp [hl]
              simpa using nx
            | false =>
              rw [hf] at nx
              simp
              simpa using nx
        · intro S hI
          generalize hX : ([] : List D) = X at hI
          cases hI with
          | @mk ls r2 hr2 =>
          cases r2 with
          | cons _ _ => cases hX
          | nil =>
            rw [List.append_nil] at hr2
            unfold nbr
            rw [← hr2]
        · exact FiI.mk (cs := []) rfl
        · rintro _ S rfl
          have hk : ∀ kv ∈ lkv W 3 cs, kv.1 ≠ kT c := by
            intro kv hkv e
            obtain ⟨d, hd, e2⟩ := lkv_key W cs 3 kv hkv
            have : d = c := kT_inj (e2.symm.trans e)
            subst this
            have nd := chs_nodup p.lbs.length
            rw [hr, List.nodup_append] at nd
            exact nd.2.2 d hd d (List.mem_cons_self ..) rfl
          have hl : (lkv W 3 cs).length < sizeLine := by
            have h2 := congrArg List.length hr
            rw [List.length_append] at h2
            rw [lkv_len, sizeLine_eq]; omega
          refine ⟨_, by rw [tp_getT]; exact getT_pre g2 _, kT c, rfl, hl, ?_⟩
          have nx := DcI.mk (ns := ns) (t := t) (W := W) (F := FP p) (n := p.lbs.length) (cs := cs ++ [c]) (r := r) (by rw [hr]; simp)
          rw [lkv_app] at nx
          rw [putD_new hk, tp_set, gl, ← hJ]
          simpa [J0] using nx
    · intro S hI
      generalize hX : ([] : List D) = X at hI
      cases hI with
      | @mk ls r hr =>
      cases r with
      | cons _ _ => cases hX
      | nil =>
        rw [List.append_nil] at hr
        rw [← hr]
    · have := DcI.mk (ns := ns) (t := t) (W := W) (F := FP p) (n := p.lbs.length) (cs := []) (r := choices (List.range p.lbs.length)) rfl
      simpa [J0, lkv] using this
    · rintro _ S rfl
      refine h _ _ ⟨fun c hc => ?_⟩
      obtain ⟨j, e1, e2⟩ := lkv_val W c (choices (List.range p.lbs.length)) 3 (mem_choices.mpr (List.mem_range.mpr hc))
      refine ⟨Cs.ad W (3 + j), fun t J => ?_, fun t J => ?_⟩
      · show (match dkAt _ _ _ with | some o => _ | none => _) = _
        rw [List.append_assoc, dkAt_ad]
        have a1 : getK (J0 p.lbs.length (lkv W 3 (choices (List.range p.lbs.length))) ((choices (List.range p.lbs.length)).map fun c => .lst ((nbr (FP p) p.lbs.length c).map chD)) ++ J) 2 = none := rfl
        have a2 : getT (J0 p.lbs.length (lkv W 3 (choices (List.range p.lbs.length))) ((choices (List.range p.lbs.length)).map fun c => .lst ((nbr (FP p) p.lbs.length c).map chD)) ++ J) 2 = some (lkv W 3 (choices (List.range p.lbs.length))) := rfl
        rw [a1, a2]
        simp only [keyT_chD, Option.map_some, e2]
      · rw [List.append_assoc, tp_getL]
        refine getL_pre ?_ _
        unfold getL J0
        rw [List.getElem?_append_right (by simp)]
        simp [e1]
end
end K74

set_option Elab.async false
set_option linter.all false
set_option maxRecDepth 100000
namespace K74
open PySem PySem.Spec PyProof.Rows L2 Cs Lbl
/-! ### choices compared -/
theorem chD_nc {c : Ch} (h : c.1 < 10 ^ 12) : Nc 1 82 (chD c) := (Nc.tup (n := 0) (w := 40) fun d hd => by
  simp at hd
  rcases hd with rfl | rfl
  · exact .int (by simpa using h) 0
  · exact .int (by unfold sd; split <;> decide) 0).mono (by omega) (by simp)
theorem chD_eqv (a b : Ch) : PyData.eqv (chD a).py (chD b).py = decide (a = b) := by
  obtain ⟨l, x⟩ := a
  obtain ⟨m, y⟩ := b
  rw [Bool.eq_iff_iff]
  simp [chD, D.py, D.pyL, PyData.eqv, PyData.eqvAll, sd_inj]
  intro _
  omega
theorem eqv_ints (a b : Int) : PyData.eqv (D.int a).py (D.int b).py = decide (a = b) := by
  rw [Bool.eq_iff_iff]
  simp [D.py, PyData.eqv]
theorem cop_ne_ch {a b : Ch} (ha : a.1 < 10 ^ 12) (hb : b.1 < 10 ^ 12) (S : Sto) : cop .ne (chD a) (chD b) S = some (.bl (!decide (a = b)), S) := by
  show ((copEq (chD a) (chD b) S).map fun b => (D.bl (!b), S)) = _
  have : copEq (chD a) (chD b) S = some (decide (a = b)) := by
    have e : scD (chD a) (chD b) = none := rfl
    simp only [copEq, e, cmpd_nc (chD_nc ha) (by omega), cmpd_nc (chD_nc hb) (by omega), chD_eqv]
  rw [this]; rfl
theorem any_pyL (f : PyData → Bool) : ∀ l : List D, (D.pyL l).any f = l.any fun d => f d.py
  | [] => rfl
  | d :: l => by rw [D.pyL, List.any_cons, List.any_cons, any_pyL f l]
/-- a list of labels that stays -/
structure Mb (ns : List Int) (W : Sto) (mm : Nat) (ms : List Nat) : Prop where
  get : ∀ t J, getL (tp (ns.map .int) t ++ (W ++ J)) mm = some (ms.map fun l : Nat => D.int l)
theorem Mb.app {ns : List Int} {W : Sto} {mm : Nat} {ms : List Nat} (h : Mb ns W mm ms) (J : Sto) : Mb ns (W ++ J) mm ms := ⟨fun t J' => by rw [List.append_assoc]; exact h.get t _⟩
theorem Mb.isin {ns : List Int} {W : Sto} {mm : Nat} {ms : List Nat} {n l : Nat} (h : Mb ns W mm ms) (hm : ∀ l ∈ ms, l < n) (hn : n ≤ 64) (hl : l < n) (t : Tp) (J : Sto) :
    cop .isin (.int l) (.loc mm) (tp (ns.map .int) t ++ (W ++ J)) = some (.bl (decide (l ∈ ms)), tp (ns.map .int) t ++ (W ++ J)) := by
  rw [in_loc (n := 1) (w := 40) (.int (by simp; omega) 1) (h.get t J) (fun d hd => by
    obtain ⟨x, hx, rfl⟩ := List.mem_map.mp hd
    exact .int (by have := hm x hx; simp; omega) 1) (by omega)]
  congr 3
  rw [any_pyL, List.any_map, Bool.eq_iff_iff]
  simp only [List.any_eq_true, Function.comp, eqv_ints, decide_eq_true_eq]
  constructor
  · rintro ⟨x, hx, e⟩
    have : x = l := by omega
    exact this ▸ hx
  · intro hl
    exact ⟨l, hl, rfl⟩
/-- parents, as a dict -/
def bfD (bf : List (Ch × Ch)) : List (List Key × D) := bf.map fun kv => (kT kv.1, chD kv.2)
theorem find_map {β : Type} (f : Ch → β) (bf : List (Ch × β)) (g : β → D) (x : Ch) : valD (bf.map fun kv => (kT kv.1, g kv.2)) (kT x) = ((bf.find? fun kv => decide (kv.1 = x)).map (·.2)).map g := by
  unfold valD
  rw [List.find?_map]
  have : ((fun kv : List Key × D => decide (kv.1 = kT x)) ∘ fun kv : Ch × β => (kT kv.1, g kv.2)) = fun kv => decide (kv.1 = x) := by
    funext kv
    simp only [Function.comp, decide_eq_decide]
    exact ⟨fun e => kT_inj e, fun e => by rw [e]⟩
  rw [this]
  cases bf.find? _ <;> rfl
theorem bfD_val (bf : List (Ch × Ch)) (x : Ch) : valD (bfD bf) (kT x) = (par bf x).map chD := find_map (fun c => c) bf chD x
theorem par_isSome (bf : List (Ch × Ch)) (x : Ch) : (par bf x).isSome = decide (x ∈ keys bf) := by
  rw [Bool.eq_iff_iff]
  unfold par
  simp only [Option.isSome_map, List.find?_isSome, decide_eq_true_eq, keys, List.mem_map]
theorem bfD_len (bf : List (Ch × Ch)) : (bfD bf).length = (keys bf).length := by simp [bfD]
theorem bfD_put {bf : List (Ch × Ch)} {o c : Ch} (h : o ∉ keys bf) : putD (bfD bf) (kT o) (chD c) = bfD (bf ++ [(o, c)]) := by
  rw [putD_new]
  · simp [bfD]
  · intro kv hkv e
    obtain ⟨p, hp, rfl⟩ := List.mem_map.mp hkv
    exact h (List.mem_map.mpr ⟨p, hp, kT_inj e⟩)
@[simp] theorem keyT_ch (c : Ch) : keyT (chD c) = some (kT c) := rfl
@[simp] theorem keyD_ch (c : Ch) : keyD (chD c) = none := rfl
section
variable {W : Sto} (sc : List D) (t : Tp) (J : Sto) (i : Nat)
theorem cop_in_adT {kvs : List (List Key × D)} (h : getT J i = some kvs) (hk : getK J i = none) (c : Ch) : cop .isin (chD c) (.loc (ad W i)) (tp sc t ++ (W ++ J)) = some (.bl (valD kvs (kT c)).isSome, tp sc t ++ (W ++ J)) := by
  have : dkAt (.loc (ad W i)) (chD c) (tp sc t ++ (W ++ J)) = some (valD kvs (kT c)) := by rw [dkAt_ad, hk, h]; rfl
  simp only [cop, this]
theorem cop_notin_adT {kvs : List (List Key × D)} (h : getT J i = some kvs) (hk : getK J i = none) (c : Ch) : cop .notin (chD c) (.loc (ad W i)) (tp sc t ++ (W ++ J)) = some (.bl (!(valD kvs (kT c)).isSome), tp sc t ++ (W ++ J)) := by
  have : dkAt (.loc (ad W i)) (chD c) (tp sc t ++ (W ++ J)) = some (valD kvs (kT c)) := by rw [dkAt_ad, hk, h]; rfl
  simp only [cop, this]
theorem iop_adT {kvs : List (List Key × D)} (h : getT J i = some kvs) (hk : getK J i = none) (c : Ch) : iop (.loc (ad W i)) (chD c) (tp sc t ++ (W ++ J)) = lift (valD kvs (kT c)) (tp sc t ++ (W ++ J)) := by
  have : dkAt (.loc (ad W i)) (chD c) (tp sc t ++ (W ++ J)) = some (valD kvs (kT c)) := by rw [dkAt_ad, hk, h]; rfl
  simp only [iop, this]; rfl
end
@[simp] theorem trOp_ad {W : Sto} (sc : List D) (t : Tp) (J : Sto) (i : Nat) : trOp (.loc (ad W i)) (tp sc t ++ (W ++ J)) = match getL J i with | some xs => some (.tup xs.reverse, tp sc t ++ (W ++ J)) | none => none := by
  simp only [trOp, tp_getL]; cases getL J i <;> rfl
theorem len_choices : ∀ l : List Nat, (choices l).length = 2 * l.length
  | [] => rfl
  | a :: ls => by show (choices ls).length + 1 + 1 = _; rw [len_choices ls, List.length_cons]; omega
def quD (bf : List (Ch × Ch)) : List D := (keys bf).map chD
theorem quD_len (bf : List (Ch × Ch)) : (quD bf).length = bf.length := by simp [quD]
theorem quD_app (bf : List (Ch × Ch)) (o c : Ch) : quD bf ++ [chD o] = quD (bf ++ [(o, c)]) := by simp [quD]
theorem keys_len (bf : List (Ch × Ch)) : (keys bf).length = bf.length := by simp
def pD : Option (List Ch) → D
  | none => .non
  | some l => .tup (l.map chD)
theorem pureL_ch (l : List Ch) : D.pureL (l.map chD) = true := pureL_iff.mpr fun d hd => by
  obtain ⟨c, _, rfl⟩ := List.mem_map.mp hd
  rfl
theorem ch0 (c : Ch) (S : Sto) : iop (chD c) (.int 0) S = some (.int c.1, S) := by simp [chD]
theorem ch1 (c : Ch) (S : Sto) : iop (chD c) (.int 1) S = some (.int (sd c.2), S) := by simp [chD]

inductive BfI (ns : List Int) (t : Tp) (W : Sto) (m mm : Nat) (F : Ch → Ch → Bool) (n : Nat) (ms : List Nat) (s g : Ch) (r : List (Ch × Ch)) : Nat → Ev → Sto → Prop where
  | mk {k i : Nat} {bf : List (Ch × Ch)} {o1 o2 : Option D} (hr : bfs (nbr F n) (okM ms) g k bf i = r) (hk : k + i = 1 + (nodes ms).length) (hl : (keys bf).length + left (nodes ms) (keys bf) ≤ 1 + (nodes ms).length) (hn : ∀ x ∈ keys bf, x.1 < n) :
    BfI ns t W m mm F n ms s g r k [some (.loc m), some (.loc mm), some (chD s), some (chD g), some (.loc (ad W 0)), some (.loc (ad W 1)), some (.int i), none, o1, o2]
      (tp (ns.map .int) t ++ (W ++ [.dt (bfD bf), .lst (quD bf)]))
inductive ViI (ns : List Int) (t : Tp) (W : Sto) (m mm : Nat) (n : Nat) (ms : List Nat) (s g c : Ch) (i : Nat) (r : List (Ch × Ch)) : List D → Ev → Sto → Prop where
  | mk {os : List Ch} {bf : List (Ch × Ch)} {o2 : Option D} (hr : vis (okM ms) c os bf = r) (hl : (keys bf).length + left (nodes ms) (keys bf) ≤ 1 + (nodes ms).length) (hn : ∀ x ∈ keys bf, x.1 < n) (ho : ∀ o ∈ os, o.1 < n) :
    ViI ns t W m mm n ms s g c i r (os.map chD) [some (.loc m), some (.loc mm), some (chD s), some (chD g), some (.loc (ad W 0)), some (.loc (ad W 1)), some (.int ((i : Int) + 1)), none, some (chD c), o2]
      (tp (ns.map .int) t ++ (W ++ [.dt (bfD bf), .lst (quD bf)]))
inductive BkI (ns : List Int) (t : Tp) (W : Sto) (m mm : Nat) (i : Int) (s g : Ch) (r : List (Ch × Ch)) (L : List Ch) : Nat → Ev → Sto → Prop where
  | mk {d : Nat} {pre : List Ch} {x : Ch} {o1 o2 : Option D} (hd : Dep r s d x) (hx : x ∈ keys r) (hp : pre.length + d ≤ 200) (hL : pre ++ back r s d x = L) :
    BkI ns t W m mm i s g r L d [some (.loc m), some (.loc mm), some (chD s), some (chD g), some (.loc (ad W 0)), some (.loc (ad W 1)), some (.int i), some (.loc (ad W 2)), o1, o2]
      (tp (ns.map .int) t ++ (W ++ [.dt (bfD r), .lst (quD r), .lst ((pre ++ [x]).map chD)]))
theorem bfs_len {nb : Ch → List Ch} {ok : Ch → Bool} {g : Ch} {nodes : List Ch} (hn : ∀ c, ∀ o ∈ nb c, ok o = true → o ∈ nodes) : ∀ (f : Nat) (bf : List (Ch × Ch)) (i : Nat), (keys (bfs nb ok g f bf i)).length + left nodes (keys (bfs nb ok g f bf i)) ≤ (keys bf).length + left nodes (keys bf)
  | 0, bf, i => Nat.le_refl _
  | f + 1, bf, i => by
    unfold bfs
    split
    · exact Nat.le_refl _
    · rename_i c e
      split
      · exact Nat.le_refl _
      · exact Nat.le_trans (bfs_len hn f _ _) (vis_left _ _ (hn c))
theorem back_root (bf : List (Ch × Ch)) (s : Ch) : ∀ d, back bf s d s = [s]
  | 0 => rfl
  | d + 1 => by rw [back, if_pos rfl]
section
variable {ns : List Int} {k : Nat} {t : Tp} {W : Sto} {Q : D → Sto → Prop} {F : Ch → Ch → Bool} {n m mm : Nat} {ms : List Nat}
theorem c_path {s g : Ch} (lk : Lk ns W m F n) (mb : Mb ns W mm ms) (hm : ∀ l ∈ ms, l < n) (hn : n ≤ 64) (hl : ms.length ≤ 64) (hs : s.1 < n) (hg : g.1 < n)
    (h : Q (pD (pathM F n ms s g)) (tp (ns.map .int) t ++ W)) : wp (callF tab G (k + 1) "first_path" [.loc m, .loc mm, chD s, chD g] (tp (ns.map .int) t ++ W)) Q := by
  rw [callF_succ (by decide) rfl]
  refine wp_run rfl rfl ?_
  have nl : (nodes ms).length ≤ 128 := by unfold nodes; rw [len_choices]; omega
  simp [d_first_path, start']
  generalize hr : bfs (nbr F n) (okM ms) g (1 + (nodes ms).length) [(s, s)] 0 = r
  have hnk : ∀ c, ∀ o ∈ nbr F n c, okM ms o = true → o ∈ nodes ms := nodes_ok
  obtain ⟨j, sch, _⟩ := bfs_end (g := g) hnk _ _ _ (Sch.base (s := s)) (by have := left_le (nodes := nodes ms) (bf := keys [(s, s)]); simp only [keys, List.map_cons, List.map_nil, List.length_singleton] at this ⊢; omega : (keys [(s, s)]).length + left (nodes ms) (keys [(s, s)]) ≤ (1 + (nodes ms).length) + 0)
  rw [hr] at sch
  have hq : pathM F n ms s g = if g ∈ keys r then some (back r s r.length g).reverse else none := by
    unfold pathM path; simp only [hr]
  have lr : (keys r).length ≤ 129 := by
    have := bfs_len (g := g) hnk (1 + (nodes ms).length) [(s, s)] 0
    rw [hr] at this
    have l2 := left_le (nodes := nodes ms) (bf := keys [(s, s)])
    simp only [keys, List.map_cons, List.map_nil, List.length_singleton] at this l2 ⊢
    omega
  have hkn : ∀ x ∈ keys r, x.1 < n := fun x hx => by
    by_cases e : x = s
    · subst e; exact hs
    · obtain ⟨p, _, _, _, ho⟩ := sch.t.edge x hx e
      exact hm _ (by simpa [okM] using ho)
  have exit : ∀ (i : Nat) o1 o2, wp (exSs ⟨callF tab G k, G⟩ (d_first_path.body.drop 4) [some (.loc m), some (.loc mm), some (chD s), some (chD g), some (.loc (ad W 0)), some (.loc (ad W 1)), some (.int i), none, o1, o2] (tp (ns.map .int) t ++ (W ++ [.dt (bfD r), .lst (quD r)]))) (retQ (tp (ns.map .int) t ++ W) Q) := by
    intro i o1 o2
    have e0 := cop_notin_adT (sc := ns.map D.int) (kvs := bfD r) (i := 0) (J := [.dt (bfD r), .lst (quD r)]) (t := t) (W := W) rfl rfl g
    simp only [bfD_val, Option.isSome_map, par_isSome] at e0
    rw [hq] at h
    by_cases hg' : g ∈ keys r
    · rw [if_pos hg'] at h
      simp only [hg', decide_true, Bool.not_true] at e0
      simp [d_first_path, e0]
      obtain ⟨d, hd, hdep⟩ := sch.t.dep g hg'
      rw [back_dep hdep _ (by omega)] at h
      refine wp_whE (I := BkI ns t W m mm i s g r (back r s d g)) ?_ (.mk (pre := []) hdep hg' (by rw [keys_len] at lr; simp only [List.length_nil]; omega) rfl)
      rintro q env S ⟨hd', hx, hpl, hL⟩
      rename_i pre x o1 o2
      have en := cop_ne_ch (a := x) (b := s) (by have := hkn x hx; omega) (by omega) (tp (ns.map D.int) t ++ (W ++ [.dt (bfD r), .lst (quD r), .lst (pre.map chD ++ [chD x])]))
      have eb : atI (pre.map chD ++ [chD x]) (-1) = some (chD x) := L2.atI_last _ _
      by_cases e : x = s
      · subst e
        rw [back_root] at hL
        simp only [decide_true, Bool.not_true] at en
        simp [eb, en]
        refine wp_fin_tp ?_ ?_
        · have := pureL_ch (pre ++ [x]).reverse
          simpa [D.pure] using this
        rw [← hL] at h
        simpa [pD] using h
      · simp only [e, decide_false, Bool.not_false] at en
        cases hd' with
        | root => exact absurd rfl e
        | up hxs hpar hdp =>
        rename_i d' p
        have ei := iop_adT (sc := ns.map D.int) (kvs := bfD r) (i := 0) (J := [.dt (bfD r), .lst (quD r), .lst (pre.map chD ++ [chD x])]) (t := t) (W := W) rfl rfl x
        rw [bfD_val, hpar] at ei
        have hsz : pre.length + 1 < sizeLine := by rw [sizeLine_eq]; omega
        simp [eb, en, ei, hsz]
        obtain ⟨p', hp1, hp2, _⟩ := sch.t.edge x hx e
        rw [hpar] at hp1
        cases hp1
        rw [back, if_neg e, hpar] at hL
        refine ⟨d', by omega, ?_⟩
        have := BkI.mk (ns := ns) (t := t) (W := W) (m := m) (mm := mm) (i := i) (g := g) (L := back r s d g) (pre := pre ++ [x]) (o1 := o1) (o2 := o2) hdp hp2 (by simp; omega) (by simpa using hL)
        simpa using this
    · rw [if_neg hg'] at h
      simp only [hg', decide_false, Bool.not_false] at e0
      simp [d_first_path, e0]
      exact wp_fin_tp rfl h
  refine wp_whE (I := BfI ns t W m mm F n ms s g r) ?_ (n := 1 + (nodes ms).length) ?_
  · rintro q env S ⟨hr', hk, hl', hn'⟩
    rename_i i bf o1 o2
    have e0 := fun g => cop_notin_adT (sc := ns.map D.int) (kvs := bfD bf) (i := 0) (J := [.dt (bfD bf), .lst (quD bf)]) (t := t) (W := W) rfl rfl g
    simp only [bfD_val, Option.isSome_map, par_isSome] at e0
    by_cases c1 : i < bf.length
    · by_cases c2 : g ∈ keys bf
      · have ez := e0 g
        simp only [c2, decide_true, Bool.not_true] at ez
        have : bf = r := by
          cases q with
          | zero => exact hr'
          | succ q =>
            rw [bfs] at hr'
            rw [List.getElem?_eq_getElem (by rw [keys_len]; exact c1)] at hr'
            simp only [c2, if_true] at hr'
            exact hr'
        subst this
        simp [quD_len, c1, ez]
        have := exit i o1 o2
        simpa [d_first_path, ez] using this
      · obtain ⟨c, hc⟩ : ∃ c, (keys bf)[i]? = some c := ⟨_, List.getElem?_eq_getElem (by rw [keys_len]; exact c1)⟩
        have hcn : c.1 < n := hn' c (List.mem_of_getElem? hc)
        obtain ⟨q1, hq1, hq2⟩ := lk.get c hcn
        have hc2 : atI (quD bf) (i : Int) = some (chD c) := atI_map hc
        have ez := e0 g
        simp only [c2, decide_false, Bool.not_false] at ez
        simp [quD_len, c1, ez, hc2, hq1, items_loc (hq2 _ _)]
        cases q with
        | zero => rw [keys_len] at hl'; omega
        | succ q =>
        rw [bfs, hc] at hr'
        simp only [c2, if_false] at hr'
        refine wp_forQ (I := ViI ns t W m mm n ms s g c i (vis (okM ms) c (nbr F n c) bf)) ?_ ?_ ?_ _ _ _ (.mk rfl hl' hn' fun o ho => (mem_nbr.mp ho).1)
        · rintro xs env S ⟨_⟩
          exact still_one (hq2 _ _)
        · intro x xs env S hI
          generalize hX : x :: xs = X at hI
          cases hI with
          | @mk os bf' o2' hv hl2 hn2 ho =>
          cases os with
          | nil => cases hX
          | cons o os =>
            cases hX
            refine ⟨_, rfl, ?_⟩
            have e0 := cop_notin_adT (sc := ns.map D.int) (kvs := bfD bf') (i := 0) (J := [.dt (bfD bf'), .lst (quD bf')]) (t := t) (W := W) rfl rfl o
            simp only [bfD_val, Option.isSome_map, par_isSome] at e0
            have ho1 := ho o (List.mem_cons_self ..)
            have hoo : ∀ o ∈ os, o.1 < n := fun o h => ho o (List.mem_cons_of_mem _ h)
            rw [vis] at hv
            by_cases d1 : o ∈ keys bf'
            · simp only [d1, decide_true, Bool.not_true] at e0
              rw [if_neg (fun z => z.1 d1)] at hv
              simp [e0]
              exact .mk hv hl2 hn2 hoo
            · simp only [d1, decide_false, Bool.not_false] at e0
              have e1 := mb.isin hm hn ho1 t [.dt (bfD bf'), .lst (quD bf')]
              by_cases d2 : o.1 ∈ ms
              · simp only [d2, decide_true] at e1
                rw [if_pos ⟨d1, by simp [okM, d2]⟩] at hv
                have hb : bf'.length < sizeLine := by rw [keys_len] at hl2; rw [sizeLine_eq]; omega
                have es := setOp_adT (W := W) (t := t) (sc := ns.map D.int) (J := [.dt (bfD bf'), .lst (quD bf')]) (i := 0) (kvs := bfD bf') (c := o) (z := chD c) rfl rfl (by rw [bfD_len, keys_len]; exact hb)
                rw [bfD_put d1] at es
                simp [e0, ch0, e1, es, quD_len, hb, quD_app _ _ c]
                refine .mk hv ?_ ?_ hoo
                · have := left_app (nodes := nodes ms) (bf := keys bf') (o := o) (mem_choices.mpr d2) d1
                  rw [keys_app, List.length_append, List.length_singleton]
                  omega
                · intro x hx
                  rw [keys_app] at hx
                  rcases List.mem_append.mp hx with z | z
                  · exact hn2 x z
                  · rcases List.mem_singleton.mp z with rfl
                    exact ho1
              · simp only [d2, decide_false] at e1
                rw [if_neg (fun z => d2 (by simpa [okM] using z.2))] at hv
                simp [e0, ch0, e1]
                exact .mk hv hl2 hn2 hoo
        · intro env S hI
          generalize hX : ([] : List D) = X at hI
          cases hI with
          | @mk os bf' o2' hv hl2 hn2 ho =>
          cases os with
          | cons _ _ => cases hX
          | nil =>
            rw [vis] at hv
            simp
            refine ⟨q, by omega, ?_⟩
            rw [← hv] at hr'
            exact BfI.mk (i := i + 1) hr' (by omega) hl2 hn2
    · have : bf = r := by
        cases q with
        | zero => exact hr'
        | succ q =>
          rw [bfs, List.getElem?_eq_none (by rw [keys_len]; omega)] at hr'
          exact hr'
      subst this
      simp [quD_len, c1]
      have := exit i o1 o2
      simpa [d_first_path] using this
  · exact BfI.mk (i := 0) (bf := [(s, s)]) hr rfl (by have := left_le (nodes := nodes ms) (bf := keys [(s, s)]); simp only [keys, List.map_cons, List.map_nil, List.length_singleton] at this ⊢; omega) (by simpa using hs)
end
end K74

set_option Elab.async false
set_option linter.all false
set_option maxRecDepth 100000
namespace K74
open PySem PySem.Spec PyProof.Rows L2 Cs Lbl
section
variable {W : Sto} (sc : List D) (t : Tp) (J : Sto) (i : Nat)
@[simp] theorem truth_ad : truth (tp sc t ++ (W ++ J)) (.loc (ad W i)) = (getL J i).map fun xs => !xs.isEmpty := by simp only [truth, tp_getL]
@[simp] theorem mPop_ad : mPop (.loc (ad W i)) (tp sc t ++ (W ++ J)) = match getM J i with
    | some xs => match xs[xs.length - 1]? with
      | some y => some (y, tp sc t ++ (W ++ J.set i (.lst xs.dropLast)))
      | none => none
    | none => none := by
  simp only [mPop, tp_getM, tp_set] <;> rfl
@[simp] theorem bList_ad : bList [.loc (ad W i)] (tp sc t ++ (W ++ J)) = match getK J i with
    | some kvs => some (.loc (ad W J.length), tp sc t ++ (W ++ (J ++ [.lst (kvs.map fun kv => kD kv.1)])))
    | none => match getT J i with
      | some kvs => some (.loc (ad W J.length), tp sc t ++ (W ++ (J ++ [.lst (kvs.map fun kv => .tup (kv.1.map kD))])))
      | none => match getL J i with
        | some xs => some (.loc (ad W J.length), tp sc t ++ (W ++ (J ++ [.lst xs])))
        | none => none := by
  rw [bList_at, tp_getK, tp_getT, tp_getL, tp_len, ad_app, Nat.add_zero]
  simp only [List.append_assoc]
  cases getK J i <;> cases getT J i <;> cases getL J i <;> rfl
end
def rD : Option (List Ch × List Ch) → D
  | none => .non
  | some (a, b) => .tup [.tup (a.map chD), .tup (b.map chD)]
section
variable {ns : List Int} {k : Nat} {t : Tp} {W : Sto} {Q : D → Sto → Prop} {F : Ch → Ch → Bool} {n m mm : Nat} {ms : List Nat}
theorem c_reason {l : Nat} (lk : Lk ns W m F n) (mb : Mb ns W mm ms) (hm : ∀ l ∈ ms, l < n) (hn : n ≤ 64) (hl : ms.length ≤ 64) (hs : l < n)
    (h : Q (rD (reason F n ms l)) (tp (ns.map .int) t ++ W)) : wp (callF tab G (k + 2) "reason_over" [.loc m, .loc mm, .int l] (tp (ns.map .int) t ++ W)) Q := by
  rw [callF_succ (by decide) rfl]
  refine wp_run rfl rfl ?_
  simp [d_reason_over, start']
  refine c_path (s := (l, false)) (g := (l, true)) lk mb hm hn hl hs hs ?_
  refine c_path (s := (l, true)) (g := (l, false)) lk mb hm hn hl hs hs ?_
  unfold reason at h
  cases h1 : pathM F n ms (l, false) (l, true) with
  | none =>
    rw [h1] at h
    simp [pD, isN]
    exact wp_fin_same rfl h
  | some a =>
    cases h2 : pathM F n ms (l, true) (l, false) with
    | none =>
      rw [h1, h2] at h
      simp [pD, isN]
      exact wp_fin_same rfl h
    | some b =>
      rw [h1, h2] at h
      simp [pD, isN]
      exact wp_fin_same (by simp [D.pure, D.pureL, pureL_ch]) h
/-- found, as a dict -/
def fdD (fd : List Ch) : List (List Key × D) := fd.map fun c => (kT c, D.bl true)
theorem fdD_val (fd : List Ch) (x : Ch) : (valD (fdD fd) (kT x)).isSome = decide (x ∈ fd) := by
  unfold valD fdD
  rw [Option.isSome_map, Bool.eq_iff_iff, List.find?_isSome]
  simp only [List.mem_map, decide_eq_true_eq]
  constructor
  · rintro ⟨_, ⟨c, hc, rfl⟩, e⟩
    exact kT_inj e ▸ hc
  · intro hx
    exact ⟨_, ⟨x, hx, rfl⟩, rfl⟩
theorem fdD_put {fd : List Ch} {o : Ch} (h : o ∉ fd) : putD (fdD fd) (kT o) (.bl true) = fdD (fd ++ [o]) := by
  rw [putD_new]
  · simp [fdD]
  · intro kv hkv e
    obtain ⟨p, hp, rfl⟩ := List.mem_map.mp hkv
    exact h (kT_inj e ▸ hp)
theorem fdD_keys (fd : List Ch) : ((fdD fd).map fun kv => D.tup (kv.1.map kD)) = fd.map chD := by
  unfold fdD
  rw [List.map_map]
  exact List.map_congr_left fun c _ => rfl
inductive DfI (ns : List Int) (t : Tp) (W : Sto) (m mm : Nat) (F : Ch → Ch → Bool) (n : Nat) (ms : List Nat) (s : Ch) (r : List Ch) : Nat → Ev → Sto → Prop where
  | mk {k : Nat} {fd st : List Ch} {o2 : Option D} (hr : dfs (nbr F n) (okM ms) k fd st = r) (hl : st.length + left (nodes ms) fd ≤ k) (hz : st.length ≤ fd.length) (hb : fd.length + left (nodes ms) fd ≤ 1 + (nodes ms).length) (hn : ∀ x ∈ st, x.1 < n) :
    DfI ns t W m mm F n ms s r k [some (.loc m), some (.loc mm), some (chD s), some (.loc (ad W 0)), some (.loc (ad W 1)), o2]
      (tp (ns.map .int) t ++ (W ++ [.dt (fdD fd), .lst (st.map chD)]))
inductive VdI (ns : List Int) (t : Tp) (W : Sto) (m mm : Nat) (n : Nat) (ms : List Nat) (s : Ch) (r : List Ch × List Ch) : List D → Ev → Sto → Prop where
  | mk {os fd st : List Ch} {o2 : Option D} (hr : visD (okM ms) os fd st = r) (hl : st.length ≤ fd.length) (hb : fd.length + left (nodes ms) fd ≤ 1 + (nodes ms).length) (hn : ∀ x ∈ st, x.1 < n) (ho : ∀ o ∈ os, o.1 < n) :
    VdI ns t W m mm n ms s r (os.map chD) [some (.loc m), some (.loc mm), some (chD s), some (.loc (ad W 0)), some (.loc (ad W 1)), o2]
      (tp (ns.map .int) t ++ (W ++ [.dt (fdD fd), .lst (st.map chD)]))
theorem c_forced {s : Ch} (lk : Lk ns W m F n) (mb : Mb ns W mm ms) (hm : ∀ l ∈ ms, l < n) (hn : n ≤ 64) (hl : ms.length ≤ 64) (hs : s.1 < n)
    (h : Q (.loc (ad W 0)) (tp (ns.map .int) t ++ (W ++ [.lst ((closM F n ms s).map chD)]))) : wp (callF tab G (k + 1) "forced" [.loc m, .loc mm, chD s] (tp (ns.map .int) t ++ W)) Q := by
  rw [callF_succ (by decide) rfl]
  refine wp_run rfl rfl ?_
  have nl : (nodes ms).length ≤ 128 := by unfold nodes; rw [len_choices]; omega
  simp [d_forced, start']
  unfold closM clos at h
  generalize hr : dfs (nbr F n) (okM ms) (1 + (nodes ms).length) [s] [s] = r at h
  have hle := left_le (nodes := nodes ms) (bf := [s])
  have hnk : ∀ c, ∀ o ∈ nbr F n c, okM ms o = true → o ∈ nodes ms := nodes_ok
  refine wp_whE (I := DfI ns t W m mm F n ms s r) ?_ (n := 1 + (nodes ms).length) (.mk (fd := [s]) (st := [s]) hr (by simp; omega) (by simp) (by simp; omega) (by simpa using hs))
  rintro q env S ⟨hr', hl', hz, hb, hn'⟩
  rename_i fd st o2
  cases hst : st.getLast? with
  | none =>
    have : st = [] := List.getLast?_eq_none_iff.mp hst
    subst this
    have : fd = r := by
      cases q with
      | zero => exact hr'
      | succ q => rw [dfs, hst] at hr'; exact hr'
    subst this
    simp [fdD_keys]
    exact wp_fin_tpL (i := 2) rfl (pureL_ch _) h
  | some c =>
    have hne : st ≠ [] := by rintro rfl; simp at hst
    have hlen : 0 < st.length := List.length_pos_iff.mpr hne
    have hc : st[st.length - 1]? = some c := by rw [← List.getLast?_eq_getElem?]; exact hst
    have hcn : c.1 < n := hn' c (List.mem_of_getElem? hc)
    obtain ⟨q1, hq1, hq2⟩ := lk.get c hcn
    cases q with
    | zero => omega
    | succ q =>
    rw [dfs, hst] at hr'
    simp only at hr'
    have vl := visD_left (nodes := nodes ms) (nbr F n c) fd st.dropLast (hnk c)
    have em : (st.map chD).isEmpty = false := by simp [hne]
    simp [em, hc, hq1, items_loc (hq2 _ _), hne]
    have hdl : (st.map chD).dropLast = st.dropLast.map chD := by rw [List.map_dropLast]
    rw [hdl]
    refine wp_forQ (I := VdI ns t W m mm n ms s (visD (okM ms) (nbr F n c) fd st.dropLast)) ?_ ?_ ?_ _ _ _ (.mk rfl (by rw [List.length_dropLast]; omega) hb (fun x hx => hn' x (List.dropLast_subset _ hx)) fun o ho => (mem_nbr.mp ho).1)
    · rintro xs env S ⟨_⟩
      exact still_one (hq2 _ _)
    · intro x xs env S hI
      generalize hX : x :: xs = X at hI
      cases hI with
      | @mk os fd' st' o2' hv hz2 hb2 hn2 ho =>
      cases os with
      | nil => cases hX
      | cons o os =>
        cases hX
        refine ⟨_, rfl, ?_⟩
        have e0 := cop_notin_adT (sc := ns.map D.int) (kvs := fdD fd') (i := 0) (J := [.dt (fdD fd'), .lst (st'.map chD)]) (t := t) (W := W) rfl rfl o
        simp only [fdD_val] at e0
        have ho1 := ho o (List.mem_cons_self ..)
        have hoo : ∀ o ∈ os, o.1 < n := fun o h => ho o (List.mem_cons_of_mem _ h)
        rw [visD] at hv
        by_cases d1 : o ∈ fd'
        · simp only [d1, decide_true, Bool.not_true] at e0
          rw [if_neg (fun z => z.1 d1)] at hv
          simp [e0]
          exact .mk hv hz2 hb2 hn2 hoo
        · simp only [d1, decide_false, Bool.not_false] at e0
          have e1 := mb.isin hm hn ho1 t [.dt (fdD fd'), .lst (st'.map chD)]
          by_cases d2 : o.1 ∈ ms
          · simp only [d2, decide_true] at e1
            rw [if_pos ⟨d1, by simp [okM, d2]⟩] at hv
            have hb' : fd'.length < sizeLine := by rw [sizeLine_eq]; omega
            have hb3 : st'.length < sizeLine := by omega
            have es := setOp_adT (W := W) (t := t) (sc := ns.map D.int) (J := [.dt (fdD fd'), .lst (st'.map chD)]) (i := 0) (kvs := fdD fd') (c := o) (z := .bl true) rfl rfl (by rw [fdD, List.length_map]; exact hb')
            rw [fdD_put d1] at es
            simp [e0, ch0, e1, es, hb3]
            have := VdI.mk (ns := ns) (t := t) (W := W) (m := m) (mm := mm) (n := n) (s := s) (o2 := some (chD o)) hv (by simp; omega) ?_ ?_ hoo
            · simpa using this
            · have := left_app (nodes := nodes ms) (bf := fd') (o := o) (mem_choices.mpr d2) d1
              rw [List.length_append, List.length_singleton]
              omega
            · intro x hx
              rcases List.mem_append.mp hx with z | z
              · exact hn2 x z
              · rcases List.mem_singleton.mp z with rfl
                exact ho1
          · simp only [d2, decide_false] at e1
            rw [if_neg (fun z => d2 (by simpa [okM] using z.2))] at hv
            simp [e0, ch0, e1]
            exact .mk hv hz2 hb2 hn2 hoo
    · intro env S hI
      generalize hX : ([] : List D) = X at hI
      cases hI with
      | @mk os fd' st' o2' hv hz2 hb2 hn2 ho =>
      cases os with
      | cons _ _ => cases hX
      | nil =>
        rw [visD] at hv
        simp
        refine ⟨q, by omega, ?_⟩
        rw [← hv] at hr' vl
        simp only at vl
        rw [List.length_dropLast] at vl
        exact DfI.mk hr' (by omega) hz2 hb2 hn2
/-- a list of choices -/
theorem c_possible {cs : List Ch} {q : Nat} {S : Sto} (he : getL S q = some (cs.map chD)) (hc : ∀ c ∈ cs, c.1 < 10 ^ 12) {Q : D → Sto → Prop} (h : Q (.bl (poss cs)) S) : wp (callF tab G (k + 2) "is_possible" [.loc q] S) Q := by
  rw [callF_succ (by decide) rfl]
  refine wp_run rfl rfl ?_
  simp [d_is_possible, start', items_loc he]
  refine wp_forQ (I := fun xs env S' => ∃ os o, xs = os.map chD ∧ (∀ c ∈ os, c.1 < 10 ^ 12) ∧ env = [some (.loc q), o] ∧ S' = S ∧ poss cs = os.all fun c => decide (neg c ∉ cs)) ?_ ?_ ?_ _ _ _ ⟨cs, none, rfl, hc, rfl, rfl, rfl⟩
  · rintro xs env S' ⟨os, o, _, _, _, rfl, _⟩
    exact still_one he
  · rintro x xs env S' ⟨os, o, hX, ho, rfl, rfl, hp⟩
    cases os with
    | nil => cases hX
    | cons c os =>
      cases hX
      refine ⟨_, rfl, ?_⟩
      simp
      refine c_other ?_
      have e1 := in_loc (n := 1) (w := 82) (x := chD (neg c)) (chD_nc (by rw [neg_fst]; exact ho c (List.mem_cons_self ..))) he (fun d hd => by
        obtain ⟨x, hx, rfl⟩ := List.mem_map.mp hd
        exact chD_nc (hc x hx)) (by omega)
      have e2 : ((D.pyL (cs.map chD)).any fun z => PyData.eqv z (chD (neg c)).py) = decide (neg c ∈ cs) := by
        rw [any_pyL, List.any_map, Bool.eq_iff_iff]
        simp only [List.any_eq_true, Function.comp, chD_eqv, decide_eq_true_eq]
        exact ⟨fun ⟨x, hx, e⟩ => e ▸ hx, fun h => ⟨_, h, rfl⟩⟩
      rw [e2] at e1
      rw [List.all_cons] at hp
      by_cases d : neg c ∈ cs
      · simp only [d, decide_true, not_true, decide_false, Bool.false_and] at e1 hp
        simp [e1]
        refine wp_fin_same rfl ?_
        rw [hp] at h
        exact h
      · simp only [d, decide_false, not_false_eq_true, decide_true, Bool.true_and] at e1 hp
        simp [e1]
        exact ⟨os, rfl, (fun a => ⟨fun h => ho (a, false) (List.mem_cons_of_mem _ h), fun h => ho (a, true) (List.mem_cons_of_mem _ h)⟩), by simpa using hp⟩
  · rintro env S' ⟨os, o, hX, _, rfl, rfl, hp⟩
    cases os with
    | cons _ _ => cases hX
    | nil =>
      simp
      refine wp_fin_same rfl ?_
      rw [hp] at h
      exact h
end
end K74

set_option Elab.async false
set_option linter.all false
set_option maxRecDepth 100000
namespace K74
open PySem PySem.Spec PyProof.Rows L2 Cs Lbl
/-- sides, as a dict by label -/
def dkN (pl : List (Nat × D)) : List (Key × D) := pl.map fun kv => (.inl (kv.1 : Int), kv.2)
def lookN (pl : List (Nat × D)) (l : Nat) : Option D := (pl.find? fun kv => decide (kv.1 = l)).map (·.2)
theorem dkN_val (pl : List (Nat × D)) (l : Nat) : valD (dkN pl) (.inl (l : Int)) = lookN pl l := by
  unfold valD dkN lookN
  rw [List.find?_map]
  have : ((fun kv : Key × D => decide (kv.1 = Sum.inl (l : Int))) ∘ fun kv : Nat × D => ((Sum.inl (kv.1 : Int) : Key), kv.2)) = fun kv => decide (kv.1 = l) := by
    funext kv
    simp only [Function.comp, decide_eq_decide, Sum.inl.injEq]
    omega
  rw [this]
  cases pl.find? _ <;> rfl
theorem lookN_some (pl : List (Nat × D)) (l : Nat) : (lookN pl l).isSome = decide (l ∈ pl.map (·.1)) := by
  rw [Bool.eq_iff_iff]
  unfold lookN
  simp only [Option.isSome_map, List.find?_isSome, decide_eq_true_eq, List.mem_map]
theorem dkN_put_new {pl : List (Nat × D)} {l : Nat} {v : D} (h : l ∉ pl.map (·.1)) : putD (dkN pl) (.inl (l : Int)) v = dkN (pl ++ [(l, v)]) := by
  rw [putD_new]
  · simp [dkN]
  · intro kv hkv e
    obtain ⟨p, hp, rfl⟩ := List.mem_map.mp hkv
    simp only [Sum.inl.injEq] at e
    have : p.1 = l := by omega
    exact h (List.mem_map.mpr ⟨p, hp, this⟩)
def sdN (s : List (Nat × Bool)) : List (Nat × D) := s.map fun kv => (kv.1, .int (sd kv.2))
theorem sdN_keys (s : List (Nat × Bool)) : (sdN s).map (·.1) = s.map (·.1) := by
  unfold sdN; rw [List.map_map]; exact List.map_congr_left fun _ _ => rfl
theorem sdN_len (s : List (Nat × Bool)) : (dkN (sdN s)).length = s.length := by simp [dkN, sdN]
theorem sdN_put (s : List (Nat × Bool)) (c : Ch) : putD (dkN (sdN s)) (.inl (c.1 : Int)) (.int (sd c.2)) = dkN (sdN (putS s c)) := by
  by_cases h : c.1 ∈ s.map (·.1)
  · unfold putD putS
    have : ((dkN (sdN s)).any fun kv => decide (kv.1 = Sum.inl (c.1 : Int))) = true := by
      rw [List.any_eq_true]
      obtain ⟨kv, hkv, e⟩ := List.mem_map.mp h
      exact ⟨(.inl (kv.1 : Int), .int (sd kv.2)), List.mem_map.mpr ⟨_, List.mem_map.mpr ⟨kv, hkv, rfl⟩, rfl⟩, by simp [e]⟩
    rw [if_pos this, if_pos h]
    unfold dkN sdN
    simp only [List.map_map]
    refine List.map_congr_left fun kv _ => ?_
    simp only [Function.comp, Sum.inl.injEq]
    by_cases e : kv.1 = c.1
    · rw [if_pos e, if_pos (by omega)]
    · rw [if_neg e, if_neg (by omega)]
  · rw [dkN_put_new (by rw [sdN_keys]; exact h)]
    unfold putS
    rw [if_neg h]
    simp [sdN]
theorem sdN_get {s : List (Nat × Bool)} {l : Nat} (h : l ∈ s.map (·.1)) : lookN (sdN s) l = some (.int (sd (getS s l))) := by
  unfold lookN sdN getS
  rw [List.find?_map]
  have e : ((fun kv : Nat × D => decide (kv.1 = l)) ∘ fun kv : Nat × Bool => (kv.1, D.int (sd kv.2))) = fun kv => decide (kv.1 = l) := rfl
  rw [e]
  cases hf : s.find? fun kv => decide (kv.1 = l) with
  | none =>
    obtain ⟨kv, hkv, e2⟩ := List.mem_map.mp h
    have := List.find?_eq_none.mp hf kv hkv
    simp [e2] at this
  | some kv => rfl
section
variable {W : Sto} (sc : List D) (t : Tp) (J : Sto) (i : Nat)
theorem dkAt_adN {pl : List (Nat × D)} (h : getK J i = some (dkN pl)) (l : Nat) : dkAt (.loc (ad W i)) (.int l) (tp sc t ++ (W ++ J)) = some (lookN pl l) := by
  rw [dkAt_ad, h]
  show some (valD (dkN pl) (.inl (l : Int))) = _
  rw [dkN_val]
theorem cop_in_adN {pl : List (Nat × D)} (h : getK J i = some (dkN pl)) (l : Nat) : cop .isin (.int l) (.loc (ad W i)) (tp sc t ++ (W ++ J)) = some (.bl (decide (l ∈ pl.map (·.1))), tp sc t ++ (W ++ J)) := by
  simp only [cop, dkAt_adN sc t J i h, lookN_some]
theorem cop_notin_adN {pl : List (Nat × D)} (h : getK J i = some (dkN pl)) (l : Nat) : cop .notin (.int l) (.loc (ad W i)) (tp sc t ++ (W ++ J)) = some (.bl (!decide (l ∈ pl.map (·.1))), tp sc t ++ (W ++ J)) := by
  simp only [cop, dkAt_adN sc t J i h, lookN_some]
theorem iop_adN {pl : List (Nat × D)} (h : getK J i = some (dkN pl)) (l : Nat) : iop (.loc (ad W i)) (.int l) (tp sc t ++ (W ++ J)) = lift (lookN pl l) (tp sc t ++ (W ++ J)) := by
  simp only [iop, dkAt_adN sc t J i h]; rfl
theorem setOp_adN {kvs : List (Key × D)} {l : Nat} {z : D} (h : getK J i = some kvs) (hl : kvs.length < sizeLine) :
    setOp z (.loc (ad W i)) (.int l) (tp sc t ++ (W ++ J)) = some ((), tp sc t ++ (W ++ J.set i (.dk (putD kvs (.inl (l : Int)) z)))) := by
  simp only [setOp, tp_getK, h, keyD, if_pos hl, tp_set]
end
@[simp] theorem getL_skip (J L : Sto) (i : Nat) : getL (J ++ L) (J.length + i) = getL L i := by
  unfold getL; rw [List.getElem?_append_right (by omega)]; congr 2; omega
theorem Mb.of {ns : List Int} {W J : Sto} {i : Nat} {ms : List Nat} (h : getL J i = some (ms.map fun l : Nat => D.int l)) : Mb ns (W ++ J) (ad W i) ms := ⟨fun t J' => by rw [List.append_assoc, tp_getL]; exact getL_pre h _⟩
theorem putS_len {s : List (Nat × Bool)} {c : Ch} {n : Nat} (hc : c.1 < n) (h : s.length + left (List.range n) (s.map (·.1)) ≤ n) : (putS s c).length + left (List.range n) ((putS s c).map (·.1)) ≤ n := by
  unfold putS
  by_cases e : c.1 ∈ s.map (·.1)
  · rw [if_pos e, List.length_map, List.map_map]
    have : s.map ((·.1) ∘ fun kv => if kv.1 = c.1 then (kv.1, c.2) else kv) = s.map (·.1) := List.map_congr_left fun kv _ => by
      simp only [Function.comp]; split <;> rfl
    rw [this]; exact h
  · rw [if_neg e, List.length_append, List.map_append]
    have := left_app (nodes := List.range n) (bf := s.map (·.1)) (o := c.1) (List.mem_range.mpr hc) e
    simp only [List.map_cons, List.map_nil, List.length_singleton]
    omega
section
variable {ns : List Int} {k : Nat} {t : Tp} {W : Sto} {Q : D → Sto → Prop} {F : Ch → Ch → Bool} {n m mm : Nat} {ms : List Nat}
def SdI (ns : List Int) (t : Tp) (W : Sto) (m mm : Nat) (F : Ch → Ch → Bool) (n : Nat) (ms : List Nat) (sF : List (Nat × Bool)) (xs : List D) (env : Ev) (S : Sto) : Prop :=
  ∃ (ls : List Nat) (s : List (Nat × Bool)) (J : Sto) (o3 o4 o5 : Option D), xs = ls.map (fun l : Nat => D.int l) ∧ (∀ l ∈ ls, l ∈ ms) ∧ sidesL F n ms ls s = some sF ∧ s.length + left (List.range n) (s.map (·.1)) ≤ n ∧
    env = [some (.loc m), some (.loc mm), some (.loc (ad W 0)), o3, o4, o5] ∧ S = tp (ns.map .int) t ++ (W ++ (.dk (dkN (sdN s)) :: J))
theorem closM_lt {s : Ch} (hm : ∀ l ∈ ms, l < n) (hs : s.1 ∈ ms) : ∀ c ∈ closM F n ms s, c.1 < n := fun c hc => by
  rcases R.ok (mem_closM.mp hc) with e | e
  · exact e ▸ hm _ hs
  · exact hm _ e
def PuI (ns : List Int) (t : Tp) (W J : Sto) (n : Nat) (a b d e : Option D) (s : List (Nat × Bool)) (cs : List Ch) (xs : List D) (env : Ev) (S : Sto) : Prop :=
  ∃ (ds : List Ch) (s' : List (Nat × Bool)) (o' : Option D), xs = ds.map chD ∧ (∀ c ∈ ds, c.1 < n) ∧ ds.foldl putS s' = cs.foldl putS s ∧ s'.length + left (List.range n) (s'.map (·.1)) ≤ n ∧
    env = [a, b, some (.loc (ad W 0)), d, e, o'] ∧ S = tp (ns.map .int) t ++ (W ++ (.dk (dkN (sdN s')) :: J))
def LcI (ns : List Int) (t : Tp) (W J : Sto) (g : Nat → D) (ms : List Nat) (xs : List D) (S : Sto) : Prop :=
  ∃ (ds ls : List Nat), ms = ds ++ ls ∧ xs = ls.map (fun l : Nat => D.int l) ∧ S = tp (ns.map .int) t ++ (W ++ (J ++ [.lst (ds.map g)]))
theorem put_loop {l : Nat} {s : List (Nat × Bool)} {cs : List Ch} {J : Sto} {q : Nat} (hq : ∀ kvs, getL (tp (ns.map .int) t ++ (W ++ (.dk kvs :: J))) q = some (cs.map chD)) (hc : ∀ c ∈ cs, c.1 < n) (hn : n ≤ 64) (hs : s.length + left (List.range n) (s.map (·.1)) ≤ n) {Q : Fl → Sto → Prop} {a b d e : Option D} {o : Option D} {c : Cfg}
    (h : ∀ o', (cs.foldl putS s).length + left (List.range n) ((cs.foldl putS s).map (·.1)) ≤ n → Q (.nx [a, b, some (.loc (ad W 0)), d, e, o']) (tp (ns.map .int) t ++ (W ++ (.dk (dkN (sdN (cs.foldl putS s))) :: J)))) :
    wp (forL [(q, cs.map chD)] (.v 5) (exSs c [.setI (.var 2) (.idx (.var 5) (.cn (.int 0))) (.idx (.var 5) (.cn (.int 1)))]) (cs.map chD) [a, b, some (.loc (ad W 0)), d, e, o] (tp (ns.map .int) t ++ (W ++ (.dk (dkN (sdN s)) :: J)))) Q := by
  refine wp_forQ (I := PuI ns t W J n a b d e s cs) ?_ ?_ ?_ _ _ _ ⟨cs, s, o, rfl, hc, rfl, hs, rfl, rfl⟩
  · rintro xs env S ⟨_, _, _, _, _, _, _, _, rfl⟩
    exact still_one (hq _)
  · rintro x xs env S ⟨ds, s', o', hX, hd, hf, hl, rfl, rfl⟩
    cases ds with
    | nil => cases hX
    | cons y ds =>
      cases hX
      refine ⟨_, rfl, ?_⟩
      have es := setOp_adN (W := W) (t := t) (sc := ns.map D.int) (J := .dk (dkN (sdN s')) :: J) (i := 0) (l := y.1) (z := .int (sd y.2)) rfl (by rw [sdN_len, sizeLine_eq]; omega)
      rw [sdN_put] at es
      simp [ch0, ch1, es]
      exact ⟨ds, putS s' y, _, rfl, fun c h => hd c (List.mem_cons_of_mem _ h), hf, putS_len (hd y (List.mem_cons_self ..)) hl, rfl, rfl⟩
  · rintro env S ⟨ds, s', o', hX, hd, hf, hl, rfl, rfl⟩
    cases ds with
    | cons _ _ => cases hX
    | nil =>
      have : s' = cs.foldl putS s := hf
      subst this
      exact h _ hl
theorem c_sides {sF : List (Nat × Bool)} (lk : Lk ns W m F n) (mb : Mb ns W mm ms) (hm : ∀ l ∈ ms, l < n) (hn : n ≤ 64) (hl : ms.length ≤ 64) (hF : sidesL F n ms ms [] = some sF) (hall : ∀ l ∈ ms, l ∈ sF.map (·.1))
    (h : Q (.tup (ms.map fun l => .int (sd (getS sF l)))) (tp (ns.map .int) t ++ W)) : wp (callF tab G (k + 3) "sides_over" [.loc m, .loc mm] (tp (ns.map .int) t ++ W)) Q := by
  rw [callF_succ (by decide) rfl]
  refine wp_run rfl rfl ?_
  have em : ∀ J, getL (tp (ns.map .int) t ++ (W ++ J)) mm = some (ms.map fun l : Nat => D.int l) := fun J => mb.get t J
  simp [d_sides_over, start', items_loc (em _)]
  refine wp_forQ (I := SdI ns t W m mm F n ms sF) ?_ ?_ ?_ _ _ _ ⟨ms, [], [], none, none, none, rfl, fun l h => h, hF, by simp [left]; exact Nat.le_trans (List.length_filter_le _ _) (by simp), rfl, rfl⟩
  · rintro xs env S ⟨_, _, _, _, _, _, _, _, _, _, _, rfl⟩
    exact still_one (em _)
  · rintro x xs env S ⟨ls, s, J, o3, o4, o5, hX, hls, hs, hlen, rfl, rfl⟩
    cases ls with
    | nil => cases hX
    | cons l ls =>
      cases hX
      refine ⟨_, rfl, ?_⟩
      have hlm := hls l (List.mem_cons_self ..)
      have hls' : ∀ l ∈ ls, l ∈ ms := fun x h => hls x (List.mem_cons_of_mem _ h)
      have e0 := cop_in_adN (W := W) (ns.map D.int) t (.dk (dkN (sdN s)) :: J) 0 (pl := sdN s) rfl l
      rw [sdN_keys] at e0
      rw [sidesL] at hs
      by_cases d1 : l ∈ s.map (·.1)
      · rw [if_pos d1] at hs
        simp only [d1, decide_true] at e0
        simp [e0]
        exact ⟨ls, s, J, _, _, _, rfl, hls', hs, hlen, rfl, rfl⟩
      · rw [if_neg d1] at hs
        simp only [d1, decide_false] at e0
        simp [e0]
        have cp := fun (b : Bool) => closM_lt (F := F) (n := n) (s := (l, b)) hm hlm
        refine c_forced (s := (l, false)) (lk.app _) (mb.app _) hm hn hl (hm l hlm) ?_
        simp
        refine c_possible (cs := closM F n ms (l, false)) (by simp) (fun c hc => by have := cp _ c hc; omega) ?_
        cases d2 : poss (closM F n ms (l, false)) with
        | true =>
          rw [if_pos d2] at hs
          simp
          refine put_loop (l := l) (fun kvs => by simp) (cp _) hn hlen fun o' hl' => ?_
          simp
          exact ⟨ls, _, _, _, _, _, rfl, hls', hs, hl', rfl, rfl⟩
        | false =>
          rw [if_neg (by simp [d2])] at hs
          simp
          refine c_forced (s := (l, true)) (lk.app _) (mb.app _) hm hn hl (hm l hlm) ?_
          simp
          refine c_possible (cs := closM F n ms (l, true)) (by simp) (fun c hc => by have := cp _ c hc; omega) ?_
          cases d3 : poss (closM F n ms (l, true)) with
          | false =>
            rw [if_neg (by simp [d3])] at hs
            cases hs
          | true =>
            rw [if_pos d3] at hs
            simp
            refine put_loop (l := l) (fun kvs => by simp) (cp _) hn hlen fun o' hl' => ?_
            simp
            exact ⟨ls, _, _, _, _, _, rfl, hls', hs, hl', rfl, rfl⟩
  · rintro env S ⟨ls, s, J, o3, o4, o5, hX, hls, hs, hlen, rfl, rfl⟩
    cases ls with
    | cons _ _ => cases hX
    | nil =>
      rw [sidesL] at hs
      cases hs
      simp [items_loc (em _)]
      refine wp.mono (wp_lcL (I := LcI ns t W (.dk (dkN (sdN sF)) :: J) (fun l => .int (sd (getS sF l))) ms) (Q := fun S => S = tp (ns.map .int) t ++ (W ++ ((.dk (dkN (sdN sF)) :: J) ++ [.lst (ms.map fun l => .int (sd (getS sF l)))]))) ?_ ?_ ?_ _ _ ⟨[], ms, rfl, rfl, rfl⟩) ?_
      · rintro xs S ⟨_, _, _, _, rfl⟩
        exact still_one (em _)
      · rintro x xs S ⟨ds, ls, e, hX, rfl⟩
        cases ls with
        | nil => cases hX
        | cons l ls =>
          cases hX
          refine ⟨_, rfl, ?_⟩
          have hlm : l ∈ ms := by rw [e]; simp
          have e0 := iop_adN (W := W) (ns.map D.int) t (.dk (dkN (sdN sF)) :: (J ++ [.lst (ds.map fun l => .int (sd (getS sF l)))])) 0 (pl := sdN sF) rfl l
          rw [sdN_get (hall l hlm)] at e0
          have hz : ds.length < sizeLine := by rw [sizeLine_eq]; have := congrArg List.length e; rw [List.length_append] at this; omega
          simp [wipeE, Tg.slots, e0, hz]
          exact ⟨ds ++ [l], ls, by rw [e]; simp, rfl, by simp⟩
      · rintro S ⟨ds, ls, e, hX, rfl⟩
        cases ls with
        | cons _ _ => cases hX
        | nil => rw [e, List.append_nil]
      · rintro _ S rfl
        simp
        refine wp_fin_tp ?_ h
        simp [D.pure]
        exact pureL_iff.mpr fun d hd => by
          obtain ⟨l, _, rfl⟩ := List.mem_map.mp hd
          rfl
end
end K74

set_option Elab.async false
set_option linter.all false
set_option maxRecDepth 100000
namespace K74
open PySem PySem.Spec PyProof.Rows L2 Cs Lbl
abbrev nD (l : Nat) : D := .int l
theorem wp_fin_tr {sc : List D} {t : Tp} {W J J' : Sto} {d : D} {Q : D → Sto → Prop} (hp : d.pure = true) (q : Q d (tp sc t ++ (W ++ J))) : wp (fin (tp sc t ++ (W ++ J)) (d, tp sc t ++ (W ++ (J ++ J')))) Q := by
  have := wp_fin_tp (sc := sc) (t := t) (t' := t) (W := W ++ J) (J := J') hp q
  rwa [List.append_assoc] at this
section
variable {ns : List Int} {k : Nat} {t : Tp} {W : Sto} {Q : D → Sto → Prop} {F : Ch → Ch → Bool} {n m mm : Nat} {ms : List Nat}
def KpI (ns : List Int) (t : Tp) (W : Sto) (m : Nat) (F : Ch → Ch → Bool) (n : Nat) (xs : List D) (env : Ev) (S : Sto) : Prop :=
  ∃ (ds ls ks : List Nat) (o : Option D), List.range n = ds ++ ls ∧ xs = ls.map nD ∧ (∀ l ∈ ks, l < n) ∧ ks.length ≤ ds.length ∧ keptL F n ls ks = kept F n ∧
    env = [some (.loc m), some (nD n), some (.loc (ad W 0)), o] ∧ S = tp (ns.map .int) t ++ (W ++ [.lst (ks.map nD)])
theorem rngD_nat (n : Nat) : rngD 0 n = (List.range n).map nD := by
  unfold rngD; exact List.map_congr_left fun i _ => by simp
theorem c_kept {j : Int} (hj : j = n) (lk : Lk ns W m F n) (hn : n < 64) (h : Q (.loc (ad W 0)) (tp (ns.map .int) t ++ (W ++ [.lst ((kept F n).map nD)]))) : wp (callF tab G (k + 3) "kept_over" [.loc m, .int j] (tp (ns.map .int) t ++ W)) Q := by
  rw [callF_succ (by decide) rfl]
  refine wp_run rfl rfl ?_
  simp [d_kept_over, start', items_rng (show smallI j from ⟨by omega, by omega⟩)]
  subst hj
  simp only [Int.toNat_natCast, rngD_nat]
  refine wp_forQ (I := KpI ns t W m F n) ?_ ?_ ?_ _ _ _ ⟨[], List.range n, [], none, rfl, rfl, by simp, by simp, rfl, rfl, rfl⟩
  · intros; exact still_nil _
  · rintro x xs env S ⟨ds, ls, ks, o, hr, hX, hk, hkl, hf, rfl, rfl⟩
    cases ls with
    | nil => cases hX
    | cons l ls =>
      cases hX
      refine ⟨_, rfl, ?_⟩
      have hln := congrArg List.length hr
      simp at hln
      have hl : l < n := List.mem_range.mp (by rw [hr]; simp)
      have hz : ks.length + 1 ≤ sizeLine := by rw [sizeLine_eq]; omega
      have hz' : ks.length < sizeLine := by omega
      simp [hz]
      refine c_reason (ms := ks ++ [l]) (lk.app _) (Mb.of (by simp)) (fun x hx => ?_) (by omega) (by simp; omega) hl ?_
      · rcases List.mem_append.mp hx with z | z
        · exact hk x z
        · rcases List.mem_singleton.mp z with rfl
          exact hl
      rw [keptL] at hf
      refine wp_fin_tr (J := [.lst (ks.map nD)]) (J' := [.lst [nD l], .lst (ks.map nD ++ [nD l])]) rfl ?_
      by_cases e : reason F n (ks ++ [l]) l = none
      · rw [if_pos e] at hf
        simp [e, rD, isN, hz']
        refine ⟨ds ++ [l], ls, ks ++ [l], _, by rw [hr]; simp, rfl, fun x hx => ?_, by simp; omega, hf, rfl, by simp⟩
        rcases List.mem_append.mp hx with z | z
        · exact hk x z
        · rcases List.mem_singleton.mp z with rfl
          exact hl
      · rw [if_neg e] at hf
        have : isN (rD (reason F n (ks ++ [l]) l)) = false := by
          cases he : reason F n (ks ++ [l]) l with
          | none => exact absurd he e
          | some ab => rfl
        simp [this]
        exact ⟨ds ++ [l], ls, ks, _, by rw [hr]; simp, rfl, hk, by simp; omega, hf, rfl, rfl⟩
  · rintro env S ⟨ds, ls, ks, o, hr, hX, hk, hkl, hf, rfl, rfl⟩
    cases ls with
    | cons _ _ => cases hX
    | nil =>
      rw [keptL] at hf
      subst hf
      simp
      exact wp_fin_tpL (i := 0) rfl (pureL_iff.mpr fun d hd => by
        obtain ⟨l, _, rfl⟩ := List.mem_map.mp hd
        rfl) h
@[simp] theorem lrOp_int {i : Nat} (h : i < 64) (S : Sto) : lrOp (.int i) S = some (.loc S.length, S ++ [.lst (rngD 0 i)]) := by
  show (if (i : Int) ≤ 16777216 ∧ -16777216 ≤ (i : Int) then _ else _) = _
  rw [if_pos (by omega)]
  simp
theorem e2_pb (p : Pb) (S : Sto) : iop p.d (.int 2) S = some (.tup (p.lbs.map lbD), S) := by simp [Pb.d]
end
end K74

set_option Elab.async false
set_option linter.all false
set_option maxRecDepth 100000
namespace K74
open PySem PySem.Spec PyProof.Rows L2 Cs Lbl
theorem sides_ex {F : Ch → Ch → Bool} {n : Nat} (sk : Skew F n) : ∃ sF, sidesL F n (kept F n) (kept F n) [] = some sF ∧ (∀ l ∈ kept F n, l ∈ sF.map (·.1)) ∧ Good F n (kept F n) (getS sF) := by
  obtain ⟨hf, hn⟩ := kept_fine sk
  obtain ⟨sd, e1, e2, _, e4⟩ := sidesL_ok sk hn hf (kept F n) [] (fun l h => h) ⟨fun kv h => by simp at h, by simp, fun kv h => by simp at h⟩
  obtain ⟨f, h1, h2⟩ := sides_ok sk
  refine ⟨sd, e1, e4, ⟨fun l hl e he h => ?_⟩⟩
  have e5 : (kept F n).map (getS sd) = (kept F n).map f := by
    unfold sides at h1
    rw [e1] at h1
    exact Option.some.inj h1
  have e6 : ∀ l ∈ kept F n, getS sd l = f l := List.map_inj_left.mp e5
  rw [e6 _ he]
  rw [e6 _ hl] at h
  exact h2.cl l hl e he h
theorem keptL_sub (F : Ch → Ch → Bool) (n : Nat) : ∀ (ls ks : List Nat), ∃ r, keptL F n ls ks = ks ++ r ∧ r.Sublist ls
  | [], ks => ⟨[], by rw [keptL, List.append_nil], .slnil⟩
  | l :: ls, ks => by
    rw [keptL]
    split
    · obtain ⟨r, e, hs⟩ := keptL_sub F n ls (ks ++ [l])
      exact ⟨l :: r, by rw [e, List.append_assoc]; rfl, hs.cons₂ l⟩
    · obtain ⟨r, e, hs⟩ := keptL_sub F n ls ks
      exact ⟨r, e, hs.cons l⟩
theorem kept_sub (F : Ch → Ch → Bool) (n : Nat) : (kept F n).Sublist (List.range n) := by
  obtain ⟨r, e, hs⟩ := keptL_sub F n (List.range n) []
  unfold kept
  rw [e]; exact hs
theorem kept_lt {F : Ch → Ch → Bool} {n : Nat} : ∀ l ∈ kept F n, l < n := fun l h => List.mem_range.mp ((kept_sub F n).subset h)
theorem kept_nd (F : Ch → Ch → Bool) (n : Nat) : (kept F n).Nodup := (kept_sub F n).nodup List.nodup_range
theorem kept_len (F : Ch → Ch → Bool) (n : Nat) : (kept F n).length ≤ n := by simpa using (kept_sub F n).length_le
/-- the reason why a label is left out -/
def why (F : Ch → Ch → Bool) (n l : Nat) : Option (List Ch × List Ch) := reason F n ((kept F n).filter (fun x => decide (x < l)) ++ [l]) l
def told (F : Ch → Ch → Bool) (n : Nat) (f : Nat → Bool) (l : Nat) : D := if l ∈ kept F n then .int (sd (f l)) else rD (why F n l)
def plN (F : Ch → Ch → Bool) (n : Nat) (f : Nat → Bool) (ds : List Nat) : List (Nat × D) := (kept F n).map (fun l => (l, .int (sd (f l)))) ++ (ds.filter fun l => decide (l ∉ kept F n)).map fun l => (l, rD (why F n l))
theorem plN_keys (F : Ch → Ch → Bool) (n : Nat) (f : Nat → Bool) (ds : List Nat) (l : Nat) : l ∈ (plN F n f ds).map (·.1) ↔ l ∈ kept F n ∨ l ∈ ds := by
  unfold plN
  rw [List.map_append, List.mem_append, List.map_map, List.map_map]
  have h1 : ((fun x : Nat × D => x.1) ∘ fun l => (l, D.int (sd (f l)))) = id := rfl
  have h2 : ((fun x : Nat × D => x.1) ∘ fun l => (l, rD (why F n l))) = id := rfl
  rw [h1, h2, List.map_id, List.map_id, List.mem_filter]
  constructor
  · rintro (h | ⟨h, _⟩)
    · exact .inl h
    · exact .inr h
  · rintro (h | h)
    · exact .inl h
    · by_cases z : l ∈ kept F n
      · exact .inl z
      · exact .inr ⟨h, by simpa using z⟩
theorem plN_snoc (F : Ch → Ch → Bool) (n : Nat) (f : Nat → Bool) (ds : List Nat) (l : Nat) : plN F n f (ds ++ [l]) = if l ∈ kept F n then plN F n f ds else plN F n f ds ++ [(l, rD (why F n l))] := by
  unfold plN
  rw [List.filter_append, List.map_append]
  by_cases h : l ∈ kept F n
  · simp [h]
  · simp [h]
theorem find_key {g : Nat → D} : ∀ (ls : List Nat) (l : Nat), (ls.map fun x => (x, g x)).find? (fun kv => decide (kv.1 = l)) = if l ∈ ls then some (l, g l) else none
  | [], l => rfl
  | x :: ls, l => by
    rw [List.map_cons, List.find?_cons]
    by_cases e : x = l
    · subst e; simp
    · simp only [e, decide_false, find_key ls l, List.mem_cons]
      have : ¬ l = x := fun z => e z.symm
      simp [this]
theorem lookN_pl {F : Ch → Ch → Bool} {n l : Nat} (f : Nat → Bool) (h : l < n) : lookN (plN F n f (List.range n)) l = some (told F n f l) := by
  unfold lookN plN told
  rw [List.find?_append, find_key (g := fun l => .int (sd (f l))), find_key (g := fun l => rD (why F n l))]
  by_cases e : l ∈ kept F n
  · simp [e]
  · simp [e, h]
theorem merge_new : ∀ (kvs more : List (Key × D)), (∀ kv ∈ more, ∀ kv' ∈ kvs, kv'.1 ≠ kv.1) → (more.map (·.1)).Nodup → mergeD kvs more = kvs ++ more
  | kvs, [], _, _ => by simp [mergeD]
  | kvs, kv :: more, h, nd => by
    rw [List.map_cons, List.nodup_cons] at nd
    show mergeD (putD kvs kv.1 kv.2) more = _
    rw [putD_new (h kv (List.mem_cons_self ..)), merge_new _ more _ nd.2, List.append_assoc]
    · rfl
    · intro x hx y hy
      rcases List.mem_append.mp hy with z | z
      · exact h x (List.mem_cons_of_mem _ hx) y z
      · rcases List.mem_singleton.mp z with rfl
        exact fun e => nd.1 (List.mem_map.mpr ⟨x, hx, e.symm⟩)
theorem mapM_key : ∀ (l : List Nat), (l.map nD).mapM keyD = some (l.map fun x : Nat => (Sum.inl (x : Int) : Key))
  | [] => rfl
  | i :: l => by
    rw [List.map_cons, List.mapM_cons, mapM_key l]
    rfl
theorem zip_keys (g : Nat → D) : ∀ ls : List Nat, (ls.map fun x : Nat => (Sum.inl (x : Int) : Key)).zip (ls.map g) = dkN (ls.map fun l => (l, g l))
  | [] => rfl
  | x :: ls => by
    rw [List.map_cons, List.map_cons, List.zip_cons_cons, zip_keys g ls]; rfl
theorem dz_ok {ls : List Nat} {S : Sto} {q : Nat} (g : Nat → D) (h : getL S q = some (ls.map nD)) (nd : ls.Nodup) (hz : ls.length ≤ sizeLine) : dzOp (.loc q) (.tup (ls.map g)) S = some (.loc S.length, S ++ [.dk (dkN (ls.map fun l => (l, g l)))]) := by
  unfold dzOp
  simp only [h, mapM_key]
  rw [if_pos ⟨by simp, by simpa using hz⟩, zip_keys, merge_new]
  · rfl
  · intro kv _ kv' h; cases h
  · unfold dkN
    rw [List.map_map, List.map_map]
    refine List.Pairwise.map _ ?_ nd
    intro a b hab e
    simp only [Function.comp, Sum.inl.injEq] at e
    exact hab (by omega)
section
variable {ns : List Int} {k : Nat} {t : Tp} {W : Sto} {Q : D → Sto → Prop} {F : Ch → Ch → Bool} {n m mm : Nat} {ms : List Nat}
def PlI (ns : List Int) (t : Tp) (W : Sto) (P : D) (j : Int) (m : Nat) (F : Ch → Ch → Bool) (n : Nat) (f : Nat → Bool) (xs : List D) (env : Ev) (S : Sto) : Prop :=
  ∃ (ds ls : List Nat) (J : Sto) (o5 o6 o7 : Option D), List.range n = ds ++ ls ∧ xs = ls.map nD ∧
    env = [some P, some (.int j), some (.loc m), some (.loc (ad W 0)), some (.loc (ad W 1)), o5, o6, o7] ∧ S = tp (ns.map .int) t ++ (W ++ (.lst ((kept F n).map nD) :: .dk (dkN (plN F n f ds)) :: J))
def FlI (ns : List Int) (t : Tp) (W J : Sto) (l : Nat) (ms : List Nat) (xs : List D) (S : Sto) : Prop :=
  ∃ (ds ls : List Nat), ms = ds ++ ls ∧ xs = ls.map nD ∧ S = tp (ns.map .int) t ++ (W ++ (J ++ [.lst ((ds.filter fun x => decide (x < l)).map nD)]))
theorem c_place {p : Pb} {sF : List (Nat × Bool)} (hn : p.lbs.length < 64) (hF : sidesL (FP p) p.lbs.length (kept (FP p) p.lbs.length) (kept (FP p) p.lbs.length) [] = some sF) (hall : ∀ l ∈ kept (FP p) p.lbs.length, l ∈ sF.map (·.1))
    (h : Q (.tup ((List.range p.lbs.length).map (told (FP p) p.lbs.length (getS sF)))) (tp (ns.map .int) t ++ W)) : wp (callF tab G (k + 6) "place_labels" [p.d] (tp (ns.map .int) t ++ W)) Q := by
  rw [callF_succ (by decide) rfl]
  refine wp_run rfl rfl ?_
  obtain ⟨j, hj⟩ : ∃ j : Int, j = p.lbs.length := ⟨_, rfl⟩
  have eb : ∀ S, bLen [.tup (p.lbs.map lbD)] S = some (.int j, S) := fun S => by rw [hj]; simp
  have el : ∀ S, lrOp (.int j) S = some (.loc S.length, S ++ [.lst (rngD 0 p.lbs.length)]) := fun S => by rw [hj]; exact lrOp_int hn S
  generalize hFp : FP p = F at *
  generalize hnn : p.lbs.length = n at *
  simp [-bLen_tup, d_place_labels, start', e2_pb, eb, el]
  subst hFp
  subst hnn
  refine c_links hn (by simp) fun J m' lk => ?_
  simp
  have h3 : tp (ns.map D.int) t ++ (W ++ SO.lst (rngD 0 p.lbs.length) :: J) = tp (ns.map D.int) t ++ (W ++ [SO.lst (rngD 0 p.lbs.length)] ++ J) := by simp
  rw [h3]
  refine c_kept hj lk hn ?_
  generalize hW : W ++ [SO.lst (rngD 0 p.lbs.length)] ++ J = W1 at *
  generalize hF' : FP p = F at *
  generalize hnn : p.lbs.length = n at *
  generalize hf : getS sF = f at *
  refine c_sides (k := k + 2) (lk.app _) (Mb.of (by simp)) kept_lt (by omega) (by have := kept_len F n; omega) hF hall ?_
  rw [hf]
  have ed := dz_ok (S := tp (ns.map D.int) t ++ (W1 ++ [SO.lst ((kept F n).map nD)])) (q := Cs.ad W1 0) (fun l => .int (sd (f l))) (by simp) (kept_nd F n) (by have := kept_len F n; rw [sizeLine_eq]; omega)
  simp only [tp_len, ad_app, List.append_assoc, tp_app, List.length_singleton] at ed
  simp [ed, items_rng (show smallI j from ⟨by omega, by omega⟩)]
  have hr : rngD 0 j.toNat = (List.range n).map nD := by rw [hj]; simp only [Int.toNat_natCast, rngD_nat]
  rw [hr]
  refine wp_forQ (I := PlI ns t W1 p.d j m' F n f) ?_ ?_ ?_ _ _ _ ⟨[], List.range n, [], none, none, none, rfl, rfl, rfl, by simp [plN]⟩
  · intros; exact still_nil _
  · rintro x xs env S ⟨ds, ls, J', o5, o6, o7, e, hX, rfl, rfl⟩
    cases ls with
    | nil => cases hX
    | cons l ls =>
      cases hX
      refine ⟨_, rfl, ?_⟩
      have hl : l < n := List.mem_range.mp (by rw [e]; simp)
      have hnd : l ∉ ds := by
        have nd := List.nodup_range (n := n)
        rw [e, List.nodup_append] at nd
        exact fun z => nd.2.2 l z l (List.mem_cons_self ..) rfl
      have e0 := cop_notin_adN (W := W1) (ns.map D.int) t (.lst ((kept F n).map nD) :: .dk (dkN (plN F n f ds)) :: J') 1 (pl := plN F n f ds) rfl l
      have sn := plN_snoc F n f ds l
      by_cases d1 : l ∈ kept F n
      · rw [if_pos d1] at sn
        have : l ∈ (plN F n f ds).map (·.1) := (plN_keys F n f ds l).mpr (.inl d1)
        simp only [this, decide_true, Bool.not_true] at e0
        simp [e0]
        exact ⟨ds ++ [l], ls, J', _, _, _, by rw [e]; simp, rfl, rfl, by rw [sn]⟩
      · rw [if_neg d1] at sn
        have : l ∉ (plN F n f ds).map (·.1) := fun z => ((plN_keys F n f ds l).mp z).elim d1 hnd
        simp only [this, decide_false, Bool.not_false] at e0
        simp [e0]
        have kl := kept_len F n
        generalize hJ : (SO.lst ((kept F n).map nD) :: SO.dk (dkN (plN F n f ds)) :: J') = J2 at *
        have j0 : getL J2 0 = some ((kept F n).map nD) := by rw [← hJ]; rfl
        have j1 : getK J2 1 = some (dkN (plN F n f ds)) := by rw [← hJ]; rfl
        have jl : J'.length + 2 = J2.length := by rw [← hJ]; rfl
        have js : ∀ x, W1 ++ SO.lst ((kept F n).map nD) :: SO.dk (dkN (plN F n f ds)) :: (J' ++ x) = W1 ++ (J2 ++ x) := fun x => by rw [← hJ]; rfl
        rw [js, jl]
        refine wp.mono (wp_lcL (I := FlI ns t W1 J2 l (kept F n)) (Q := fun S => S = tp (ns.map .int) t ++ (W1 ++ (J2 ++ [.lst (((kept F n).filter fun x => decide (x < l)).map nD)]))) ?_ ?_ ?_ _ _ ⟨[], kept F n, rfl, rfl, rfl⟩) ?_
        · rintro xs S ⟨_, _, _, _, rfl⟩
          exact still_one (by simp [getL_pre j0])
        · rintro x xs S ⟨ds2, ls2, e2, hX, rfl⟩
          cases ls2 with
          | nil => cases hX
          | cons y ls2 =>
            cases hX
            refine ⟨_, rfl, ?_⟩
            have hz : (ds2.filter fun x => decide (x < l)).length < sizeLine := by
              have h1 := List.length_filter_le (fun x => decide (x < l)) ds2
              have h2 := congrArg List.length e2
              rw [List.length_append] at h2
              rw [sizeLine_eq]; omega
            by_cases hy : y < l
            · have hy' : (y : Int) < l := by omega
              simp [wipeE, Tg.slots, hy', hz]
              exact ⟨ds2 ++ [y], ls2, by rw [e2]; simp, rfl, by rw [List.filter_append]; simp [hy]⟩
            · have hy' : ¬ (y : Int) < l := by omega
              simp [wipeE, Tg.slots, hy']
              exact ⟨ds2 ++ [y], ls2, by rw [e2]; simp, rfl, by rw [List.filter_append]; simp [hy]⟩
        · rintro S ⟨ds2, ls2, e2, hX, rfl⟩
          cases ls2 with
          | cons _ _ => cases hX
          | nil => rw [e2, List.append_nil]
        · rintro _ S rfl
          have hfl := List.length_filter_le (fun x => decide (x < l)) (kept F n)
          have hz : ((kept F n).filter fun x => decide (x < l)).length + 1 ≤ sizeLine := by rw [sizeLine_eq]; omega
          generalize hfk : (kept F n).filter (fun x => decide (x < l)) = fk at *
          have g0 : getM (J2 ++ [SO.lst (fk.map nD), SO.lst [nD l]]) J2.length = some (fk.map nD) := by unfold getM; rw [List.getElem?_append_right (Nat.le_refl _), Nat.sub_self]; rfl
          have g1 : getM (J2 ++ [SO.lst (fk.map nD), SO.lst [nD l]]) (J2.length + 1) = some [nD l] := by unfold getM; rw [List.getElem?_append_right (by omega), Nat.add_sub_cancel_left]; rfl
          simp [g0, g1, hz]
          refine c_reason (k := k + 3) (ms := fk ++ [l]) (lk.app _) (Mb.of ?_) ?_ (by omega) (by simp; omega) hl ?_
          · rw [getL_skip]; simp
          · intro x hx
            rcases List.mem_append.mp hx with z | z
            · rw [← hfk] at z
              exact kept_lt x (List.mem_filter.mp z).1
            · rcases List.mem_singleton.mp z with rfl
              exact hl
          have hw : reason F n (fk ++ [l]) l = why F n l := by unfold why; rw [hfk]
          rw [hw]
          have hpl : (dkN (plN F n f ds)).length < sizeLine := by
            have h1 := congrArg List.length e
            simp only [List.length_append, List.length_range, List.length_cons] at h1
            have h2 := List.length_filter_le (fun l => decide (l ∉ kept F n)) ds
            simp only [dkN, plN, List.length_map, List.length_append]
            rw [sizeLine_eq]; omega
          have es := setOp_adN (W := W1) (ns.map D.int) t (J2 ++ [SO.lst (fk.map nD), SO.lst [nD l], SO.lst (fk.map nD ++ [nD l])]) 1 (kvs := dkN (plN F n f ds)) (l := l) (z := rD (why F n l)) (by rw [← hJ]; rfl) hpl
          rw [dkN_put_new this, ← sn] at es
          simp [es]
          refine ⟨ds ++ [l], ls, J' ++ [SO.lst (fk.map nD), SO.lst [nD l], SO.lst (fk.map nD ++ [nD l])], _, _, _, by rw [e]; simp, rfl, rfl, ?_⟩
          rw [← hJ]
          simp
  · rintro env S ⟨ds, ls, J', o5, o6, o7, e, hX, rfl, rfl⟩
    cases ls with
    | cons _ _ => cases hX
    | nil =>
      rw [List.append_nil] at e
      subst e
      simp [items_rng (show smallI j from ⟨by omega, by omega⟩)]
      rw [hr]
      refine wp.mono (wp_lcL (I := LcI ns t W1 (.lst ((kept F n).map nD) :: .dk (dkN (plN F n f (List.range n))) :: J') (told F n f) (List.range n)) (Q := fun S => S = tp (ns.map .int) t ++ (W1 ++ ((.lst ((kept F n).map nD) :: .dk (dkN (plN F n f (List.range n))) :: J') ++ [.lst ((List.range n).map (told F n f))]))) ?_ ?_ ?_ _ _ ⟨[], List.range n, rfl, rfl, rfl⟩) ?_
      · intros; exact still_nil _
      · rintro x xs S ⟨ds, ls, e, hX, rfl⟩
        cases ls with
        | nil => cases hX
        | cons l ls =>
          cases hX
          refine ⟨_, rfl, ?_⟩
          have hl : l < n := List.mem_range.mp (by rw [e]; simp)
          have e0 := iop_adN (W := W1) (ns.map D.int) t (.lst ((kept F n).map nD) :: .dk (dkN (plN F n f (List.range n))) :: (J' ++ [.lst (ds.map (told F n f))])) 1 (pl := plN F n f (List.range n)) rfl l
          rw [lookN_pl f hl] at e0
          have hz : ds.length < sizeLine := by rw [sizeLine_eq]; have := congrArg List.length e; rw [List.length_append, List.length_range] at this; omega
          simp [wipeE, Tg.slots, e0, hz]
          exact ⟨ds ++ [l], ls, by rw [e]; simp, rfl, by simp⟩
      · rintro S ⟨ds, ls, e, hX, rfl⟩
        cases ls with
        | cons _ _ => cases hX
        | nil => rw [e, List.append_nil]
      · rintro _ S rfl
        simp
        rw [← hW]
        simp only [List.append_assoc]
        refine wp_fin_tp ?_ h
        simp [D.pure]
        exact pureL_iff.mpr fun d hd => by
          obtain ⟨l, _, rfl⟩ := List.mem_map.mp hd
          unfold told
          split
          · rfl
          · cases why F n l with
            | none => rfl
            | some ab => simp [rD, D.pure, D.pureL, pureL_ch]
end
end K74

set_option Elab.async false
set_option linter.all false
set_option maxRecDepth 100000
namespace K74
open PySem PySem.Spec PyProof.Rows L2 Cs Lbl
@[simp] theorem getK_end (J L : Sto) : getK (J ++ L) J.length = getK L 0 := by
  unfold getK; rw [List.getElem?_append_right (Nat.le_refl _), Nat.sub_self]
structure Ls (ns : List Int) (W : Sto) (q : Nat) (xs : List D) : Prop where
  get : ∀ t J, getL (tp (ns.map .int) t ++ (W ++ J)) q = some xs
theorem Ls.get0 {ns : List Int} {W : Sto} {q : Nat} {xs : List D} (h : Ls ns W q xs) (t : Tp) : getL (tp (ns.map .int) t ++ W) q = some xs := by
  have := h.get t []
  rwa [List.append_nil] at this
theorem Ls.app {ns : List Int} {W : Sto} {q : Nat} {xs : List D} (h : Ls ns W q xs) (J : Sto) : Ls ns (W ++ J) q xs := ⟨fun t J' => by rw [List.append_assoc]; exact h.get t _⟩
theorem Ls.of {ns : List Int} {W J : Sto} {i : Nat} {xs : List D} (h : getL J i = some xs) : Ls ns (W ++ J) (ad W i) xs := ⟨fun t J' => by rw [List.append_assoc, tp_getL]; exact getL_pre h _⟩
theorem truth_loc {S : Sto} {q : Nat} {xs : List D} (h : getL S q = some xs) : truth S (.loc q) = some (!xs.isEmpty) := by simp only [truth, h]; rfl
theorem wp_atI' {xs : List D} {r : Int} {S : Sto} {Q : D → Sto → Prop} (h0 : 0 ≤ r) (h1 : r < xs.length) (h : ∀ x ∈ xs, Q x S) : wp (lift (atI xs r) S) Q := wp_atI h0 h1 h
section
variable {ns : List Int} {k n : Nat} {t : Tp} {W : Sto} {Q : D → Sto → Prop}
theorem c_draw {m : Int} (ht : t.ok (n + 1)) (hm : 1 ≤ m) (hm2 : m < 2 ^ 60) (h : ∀ r t', 0 ≤ r → r < m → t'.ok n → Q (.int r) (tp (ns.map .int) t' ++ W)) :
    wp (callF tab G (k + 1) "_law_draw" [.loc 2, .int m] (tp (ns.map .int) t ++ W)) Q := by
  rw [callF_succ (by decide) rfl]
  exact draw_ok _ ht hm hm2 h
theorem c_spot {a b c : Int} (ht : t.ok (n + 2)) (hb : 0 ≤ b) (hc0 : 0 ≤ c) (hc : c < 2 ^ 40) (h : ∀ v t', v ≤ a + c + 1 → t'.ok n → Q (.int v) (tp (ns.map .int) t' ++ W)) :
    wp (callF tab G (k + 2) "_law_spot" [.loc 2, .int a, .int b, .int c] (tp (ns.map .int) t ++ W)) Q := by
  rw [callF_succ (by decide) rfl]
  refine wp_run rfl rfl ?_
  simp [d_law_spot, start']
  refine c_draw (n := n + 1) ht (by decide) (by decide) fun r t1 r0 r1 k1 => ?_
  by_cases c0 : r = 0
  · simp [c0]
    refine c_draw k1 (by decide) (by decide) fun r t2 r0 r1 k2 => ?_
    simp
    refine wp_atI r0 r1 fun x hx => ?_
    simp at hx
    rcases hx with rfl | rfl
    · exact wp_fin_tp rfl (h _ _ (by omega) k2)
    · exact wp_fin_tp rfl (h _ _ (by omega) k2)
  · simp [c0]
    refine c_draw k1 (by split <;> omega) (by split <;> omega) fun r t2 r0 r1 k2 => ?_
    simp
    exact wp_fin_tp0 rfl (h _ _ (by split at r1 <;> omega) k2)
def Bd (A r : Rc) : Prop := r.x + r.w ≤ A.x + A.w + 60
theorem c_rect {a : Rc} {w h' : Int} (ht : t.ok (n + 4)) (hw : 0 ≤ w) (hh : 0 ≤ h') (ha0 : 0 ≤ a.w) (hb0 : 0 ≤ a.h) (ha : a.w < 2 ^ 40) (hb : a.h < 2 ^ 40) (h : ∀ r : Rc, ∀ t', r.w = w ∧ r.x ≤ a.x + a.w + 1 → t'.ok n → Q r.d (tp (ns.map .int) t' ++ W)) :
    wp (callF tab G (k + 3) "_law_rectangle" [.loc 2, a.d, .tup [.int w, .int h']] (tp (ns.map .int) t ++ W)) Q := by
  rw [callF_succ (by decide) rfl]
  refine wp_run rfl rfl ?_
  simp [d_law_rectangle, start', Rc.d]
  refine c_spot (n := n + 2) ht hw ha0 ha fun v t1 bv k1 => ?_
  refine c_spot k1 hh hb0 hb fun v' t2 _ k2 => ?_
  exact wp_fin_tp0 rfl (h ⟨v, v', w, h'⟩ _ ⟨rfl, bv⟩ k2)
theorem lbD_mem {lbs : List (Rc × Rc)} {x : D} (h : x ∈ lbs.map lbD) : ∃ l ∈ lbs, x = lbD l := by
  obtain ⟨l, hl, rfl⟩ := List.mem_map.mp h
  exact ⟨l, hl, rfl⟩
theorem i0_rc (r : Rc) (S : Sto) : iop r.d (.int 0) S = some (.int r.x, S) := by simp [Rc.d]
theorem i1_rc (r : Rc) (S : Sto) : iop r.d (.int 1) S = some (.int r.y, S) := by simp [Rc.d]
theorem i2_rc (r : Rc) (S : Sto) : iop r.d (.int 2) S = some (.int r.w, S) := by simp [Rc.d]
theorem i3_rc (r : Rc) (S : Sto) : iop r.d (.int 3) S = some (.int r.h, S) := by simp [Rc.d]
theorem wp_lb {A : Rc} {l : Rc × Rc} {r : Int} {S : Sto} {Q : D → Sto → Prop} (r0 : 0 ≤ r) (r1 : r < 2) (hl : Bd A l.1 ∧ Bd A l.2) (h : ∀ c : Rc, Bd A c → Q c.d S) : wp (iop (lbD l) (.int r) S) Q := by
  have : r = 0 ∨ r = 1 := by omega
  rcases this with rfl | rfl
  · simp [lbD]; exact h _ hl.1
  · simp [lbD]; exact h _ hl.2
theorem c_label {a : Rc} {f : Int} {q : Nat} {lbs : List (Rc × Rc)} (hl : Ls ns W q (lbs.map lbD)) (hlb : lbs.length ≤ 10) (hbd : ∀ l ∈ lbs, Bd a l.1 ∧ Bd a l.2) (ht : t.ok (n + 14)) (ha0 : 0 ≤ a.w) (hb0 : 0 ≤ a.h) (ha : a.w < 2 ^ 40) (hb : a.h < 2 ^ 40) (h : ∀ l t', (Bd a l.1 ∧ Bd a l.2) → t'.ok n → Q (lbD l) (tp (ns.map .int) t' ++ W)) :
    wp (callF tab G (k + 4) "_law_label" [.loc 2, a.d, .int f, .loc q] (tp (ns.map .int) t ++ W)) Q := by
  rw [callF_succ (by decide) rfl]
  refine wp_run rfl rfl ?_
  simp [d_law_label, start']
  refine c_draw (n := n + 13) ht (by decide) (by decide) fun r t1 r0 r1 k1 => ?_
  simp
  refine wp_atI r0 r1 fun w hw => ?_
  have hw' : ∃ j : Int, w = .int j ∧ 0 ≤ j ∧ j ≤ 15 := by simp at hw; rcases hw with rfl | rfl | rfl | rfl | rfl | rfl | rfl <;> exact ⟨_, rfl, by omega, by omega⟩
  obtain ⟨w, rfl, w0, w1⟩ := hw'
  refine c_draw (n := n + 12) k1 (by decide) (by decide) fun r t2 r0 r1 k2 => ?_
  simp
  refine wp_atI r0 r1 fun g hg => ?_
  have hg' : ∃ j : Int, g = .int j ∧ 0 ≤ j := by simp at hg; rcases hg with rfl | rfl | rfl | rfl | rfl | rfl | rfl <;> exact ⟨_, rfl, by omega⟩
  obtain ⟨g, rfl, g0⟩ := hg'
  have lr : ∀ (u v : Rc), D.tup [u.d, v.d] = lbD (u, v) := fun _ _ => rfl
  by_cases f0 : f = 0
  · simp [f0]
    refine c_rect (n := n + 8) k2 w0 g0 ha0 hb0 ha hb fun u t3 bu k3 => ?_
    refine c_rect (n := n + 4) k3 w0 g0 ha0 hb0 ha hb fun v t4 bv k4 => ?_
    exact wp_fin_tp rfl (h (u, v) _ ⟨by unfold Bd; dsimp only; omega, by unfold Bd; dsimp only; omega⟩ (k4.mono (by omega)))
  by_cases f1 : f = 1
  · simp [f1]
    refine c_rect (n := n + 8) k2 (by omega) (by omega) ha0 hb0 ha hb fun u t3 hu k3 => ?_
    simp [i2_rc]
    refine c_draw (n := n + 7) k3 (by decide) (by decide) fun r t4 r0 r1 k4 => ?_
    simp
    refine wp_atI r0 r1 fun m hm => ?_
    have hm' : ∃ x y : Int, m = .tup [.int x, .int y] ∧ x ≤ 21 := by simp at hm; rcases hm with rfl | rfl | rfl | rfl <;> exact ⟨_, _, rfl, by omega⟩
    obtain ⟨x, y, rfl, bx⟩ := hm'
    simp [i0_rc, i1_rc, i2_rc]
    exact wp_fin_tp rfl (h (u, ⟨u.x + x, u.y + y, u.w, 7⟩) _ ⟨by unfold Bd; dsimp only; omega, by unfold Bd; dsimp only; omega⟩ (k4.mono (by omega)))
  by_cases f2 : f = 2
  · simp [f2, i0_rc]
    refine c_draw (n := n + 11) k2 (by decide) (by decide) fun r t3 r0 r1 k3 => ?_
    simp
    refine wp_atI r0 r1 fun m hm => ?_
    have hm' : ∃ x : Int, m = .int x ∧ 0 ≤ x ∧ x ≤ 5 := by simp at hm; rcases hm with rfl | rfl | rfl <;> exact ⟨_, rfl, by omega, by omega⟩
    obtain ⟨x, rfl, x0, x1⟩ := hm'
    have m1 := bop_mul (mulOk_small (i := x) (j := lbs.length) (by omega) (by omega))
    simp [bLen_loc (hl.get _ _), m1, i1_rc]
    refine c_draw (n := n + 10) k3 (by decide) (by decide) fun r t4 r0 r1 k4 => ?_
    simp
    refine wp_atI r0 r1 fun m hm => ?_
    have hm' : ∃ x : Int, m = .int x := by simp at hm; rcases hm with rfl | rfl | rfl <;> exact ⟨_, rfl⟩
    obtain ⟨y, rfl⟩ := hm'
    simp
    refine c_draw (n := n + 9) k4 (by decide) (by decide) fun r t5 r0 r1 k5 => ?_
    simp
    refine wp_atI r0 r1 fun m hm => ?_
    have hxl : x * (lbs.length : Int) ≤ 50 := by
      have h1 : x * (lbs.length : Int) ≤ 5 * (lbs.length : Int) := Int.mul_le_mul_of_nonneg_right x1 (by omega)
      omega
    have hm' : ∃ u v : Rc, m = lbD (u, v) ∧ Bd a u ∧ Bd a v := by
      simp at hm
      rcases hm with rfl | rfl | rfl | rfl <;> exact ⟨⟨_, _, _, _⟩, ⟨_, _, _, _⟩, rfl, by unfold Bd; dsimp only; omega, by unfold Bd; dsimp only; omega⟩
    obtain ⟨u, v, rfl, bb⟩ := hm'
    exact wp_fin_tp rfl (h (u, v) _ bb (k5.mono (by omega)))
  · simp [f0, f1, f2]
    refine c_rect (n := n + 8) k2 w0 g0 ha0 hb0 ha hb fun u t3 hu k3 => ?_
    have last : ∀ (u : Rc) (t' : Tp) (J : Sto), Bd a u → t'.ok (n + 5) → wp (exSs ⟨callF tab G (k + 3), G⟩ (d_law_label.body.drop 6) [some (.loc 2), some a.d, some (.int f), some (.loc q), some (.tup [.int w, .int g]), some u.d, none, none, none, none] (tp (ns.map .int) t' ++ (W ++ J))) (retQ (tp (ns.map .int) t ++ W) Q) := by
      intro u t' J bu k3
      simp [d_law_label]
      refine c_rect (n := n + 1) k3 w0 g0 ha0 hb0 ha hb fun v t4 bv k4 => ?_
      simp
      refine c_draw k4 (by decide) (by decide) fun r t5 r0 r1 k5 => ?_
      simp
      refine wp_atI ?_ ?_ fun m hm => ?_
      · split <;> omega
      · simp; split <;> omega
      have bv' : Bd a v := by unfold Bd; omega
      have hm' : ∃ u v : Rc, m = lbD (u, v) ∧ Bd a u ∧ Bd a v := by
        simp at hm
        rcases hm with rfl | rfl
        · exact ⟨_, _, rfl, bu, bu⟩
        · exact ⟨_, _, rfl, bu, bv'⟩
      obtain ⟨u, v, rfl, bb⟩ := hm'
      exact wp_fin_tp rfl (h (u, v) _ bb k5)
    have bu : Bd a u := by unfold Bd; omega
    simp [truth_loc (hl.get _ _)]
    by_cases e : lbs = []
    · have := fun J => last u t3 J bu (k3.mono (by omega))
      simp [d_law_label] at this
      simp [e, truth_loc (hl.get _ _)]
      exact this _
    · simp [e]
      refine c_draw (n := n + 7) k3 (by decide) (by decide) fun r t4 r0 r1 k4 => ?_
      by_cases e2 : 0 < r
      · have hlen : 0 < lbs.length := List.length_pos_iff.mpr e
        simp [e2, bLen_loc (hl.get _ _)]
        refine c_draw (n := n + 6) k4 (by omega) (by omega) fun r t5 r0 r1 k5 => ?_
        simp [iop_loc (hl.get _ _)]
        refine wp_atI r0 (by simpa using r1) fun m hm => ?_
        obtain ⟨l, hlm, rfl⟩ := lbD_mem hm
        refine c_draw (n := n + 5) k5 (by omega) (by omega) fun r t6 r0 r1 k6 => ?_
        refine wp_lb (A := a) r0 r1 (hbd l hlm) fun c bc => ?_
        have := fun J => last c t6 J bc k6
        simp [d_law_label] at this
        exact this _
      · have := fun J => last u t4 J bu (k4.mono (by omega))
        simp [d_law_label] at this
        simp [e2]
        exact this _
/-! problems -/
def PbOk (most : Nat) (p : Pb) : Prop := p.lbs.length ≤ most ∧ 0 ≤ p.area.w ∧ p.area.w ≤ 40 ∧ 7 ≤ p.area.h ∧ p.area.h ≤ 30 ∧ p.obs.length ≤ 3 ∧ (∀ l ∈ p.lbs, Bd p.area l.1 ∧ Bd p.area l.2) ∧ (∀ r ∈ p.obs, Bd p.area r)
def GlI (ns : List Int) (W : Sto) (u v : SO) (A : Rc) (n : Nat) (most : Nat) (a b c d : Option D) (xs : List D) (env : Ev) (S : Sto) : Prop :=
  ∃ (t : Tp) (lbs : List (Rc × Rc)) (o : Option D), (∀ l ∈ lbs, Bd A l.1 ∧ Bd A l.2) ∧ (∀ x ∈ xs, ∃ j : Int, x = .int j) ∧ t.ok (n + 14 * xs.length) ∧ lbs.length + xs.length ≤ most ∧
    env = [some (.loc 2), a, b, c, d, some (.loc (ad W 2)), o, none, none] ∧ S = tp (ns.map .int) t ++ (W ++ [u, v, .lst (lbs.map lbD)])
def GoI (ns : List Int) (W : Sto) (u v : SO) (A : Rc) (n : Nat) (lbs : List (Rc × Rc)) (a b c d : Option D) (xs : List D) (env : Ev) (S : Sto) : Prop :=
  ∃ (t : Tp) (obs : List Rc) (o o2 : Option D) (J' : Sto), (∀ r ∈ obs, Bd A r) ∧ (∀ x ∈ xs, ∃ j : Int, x = .int j) ∧ t.ok (n + 9 * xs.length) ∧ obs.length + xs.length ≤ 3 ∧
    env = [some (.loc 2), a, b, c, d, some (.loc (ad W 2)), o, some (.loc (ad W 3)), o2] ∧ S = tp (ns.map .int) t ++ (W ++ (u :: v :: .lst (lbs.map lbD) :: .lst (obs.map Rc.d) :: J'))
theorem rng_ints {i : Int} {n : Nat} : ∀ x ∈ rngD i n, ∃ j : Int, x = .int j := fun x h => by
  obtain ⟨j, e, _⟩ := rngD_mem h
  exact ⟨j, e⟩
theorem c_problem {most : Nat} {j : Int} (hj : j = most) (hm : most ≤ 10) (ht : t.ok (n + 330)) (h : ∀ p t', PbOk most p → t'.ok n → Q p.d (tp (ns.map .int) t' ++ W)) :
    wp (callF tab G (k + 5) "_law_problem" [.loc 2, .int j] (tp (ns.map .int) t ++ W)) Q := by
  rw [callF_succ (by decide) rfl]
  refine wp_run rfl rfl ?_
  simp [d_law_problem, start']
  refine c_draw (n := n + 329) ht (by decide) (by decide) fun r t1 r0 r1 k1 => ?_
  simp
  refine wp_atI r0 r1 fun w hw => ?_
  have hw' : ∃ j : Int, w = .int j ∧ 0 ≤ j ∧ j ≤ 40 := by simp at hw; rcases hw with rfl | rfl | rfl | rfl | rfl | rfl <;> exact ⟨_, rfl, by omega, by omega⟩
  obtain ⟨w, rfl, w0, w1⟩ := hw'
  refine c_draw (n := n + 328) k1 (by decide) (by decide) fun r t2 r0 r1 k2 => ?_
  simp
  refine wp_atI r0 r1 fun g hg => ?_
  have hg' : ∃ j : Int, g = .int j ∧ 7 ≤ j ∧ j ≤ 30 := by simp at hg; rcases hg with rfl | rfl | rfl | rfl | rfl | rfl <;> exact ⟨_, rfl, by omega, by omega⟩
  obtain ⟨g, rfl, g0, g1⟩ := hg'
  refine c_draw (n := n + 327) k2 (by decide) (by decide) fun x t3 r0 r1 k3 => ?_
  simp
  refine c_draw (n := n + 326) k3 (by decide) (by decide) fun y t4 r0 r1 k4 => ?_
  simp
  refine c_draw (n := n + 325) k4 (by decide) (by decide) fun f t5 r0 r1 k5 => ?_
  simp
  refine c_draw (n := n + 324) k5 (by omega) (by omega) fun r t6 r0 r1 k6 => ?_
  generalize SO.lst [D.int 30, D.int 24, D.int 16, D.int 40, D.int 13, D.int 0] = u
  generalize SO.lst [D.int 20, D.int 16, D.int 14, D.int 9, D.int 30, D.int 7] = v
  have har : D.tup [D.int (x - 20), D.int (y - 20), D.int w, D.int g] = Rc.d ⟨x - 20, y - 20, w, g⟩ := rfl
  rw [har]
  generalize hA : (⟨x - 20, y - 20, w, g⟩ : Rc) = A
  have hAw : A.w = w := by rw [← hA]
  have hAh : A.h = g := by rw [← hA]
  simp [items_rng (show smallI r from ⟨by omega, by omega⟩)]
  refine wp_forQ (I := GlI ns W u v A (n + 44) most _ _ _ _) ?_ ?_ ?_ _ _ _ ⟨t6, [], none, by simp, rng_ints, k6.mono (by rw [rngD_len]; omega), by rw [rngD_len]; simp; omega, rfl, rfl⟩
  · intros; exact still_nil _
  · rintro x' xs env S ⟨t7, lbs, o, hbd, hx, k7, hl, rfl, rfl⟩
    refine ⟨_, rfl, ?_⟩
    simp at hl k7
    simp
    refine c_label (n := n + 44 + 14 * xs.length) (lbs := lbs) (Ls.of rfl) (by omega) hbd (k7.mono (by omega)) (by omega) (by omega) (by omega) (by omega) fun l t8 bl k8 => ?_
    have hz : lbs.length < sizeLine := by rw [sizeLine_eq]; omega
    simp [hz]
    exact ⟨t8, lbs ++ [l], _, fun x hx => (List.mem_append.mp hx).elim (hbd x) (fun z => List.mem_singleton.mp z ▸ bl), fun x h => hx x (List.mem_cons_of_mem _ h), k8, by simp; omega, rfl, by simp⟩
  · rintro env S ⟨t7, lbs, o, hbd, hx, k7, hl, rfl, rfl⟩
    simp at hl k7
    simp
    refine c_draw (n := n + 43) k7 (by decide) (by decide) fun r t8 r0 r1 k8 => ?_
    simp
    refine wp_atI r0 r1 fun q hq => ?_
    have hq' : ∃ j : Int, q = .int j ∧ 0 ≤ j ∧ j ≤ 3 := by simp at hq; rcases hq with rfl | rfl | rfl <;> exact ⟨_, rfl, by omega, by omega⟩
    obtain ⟨q, rfl, q0, q1⟩ := hq'
    simp [items_rng (show smallI q from ⟨by omega, by omega⟩)]
    refine wp_forQ (I := GoI ns W u v A n lbs _ _ _ _) ?_ ?_ ?_ _ _ _ ⟨t8, [], _, none, _, by simp, rng_ints, k8.mono (by rw [rngD_len]; omega), by rw [rngD_len]; simp; omega, rfl, rfl⟩
    · intros; exact still_nil _
    · rintro x' xs env S ⟨t9, obs, o, o2, J', hob, hx, k9, hol, rfl, rfl⟩
      refine ⟨_, rfl, ?_⟩
      simp at hol k9
      simp
      refine c_draw (n := n + 9 * xs.length + 8) (k9.mono (by omega)) (by decide) (by decide) fun a t10 a0 a1 k10 => ?_
      refine c_draw (n := n + 9 * xs.length + 7) k10 (by decide) (by decide) fun b t11 b0 b1 k11 => ?_
      refine c_rect (k := k + 1) (n := n + 9 * xs.length + 3) k11 a0 b0 (by omega) (by omega) (by omega) (by omega) fun rc t12 brc k12 => ?_
      have hz : obs.length < sizeLine := by rw [sizeLine_eq]; omega
      have nx : ∀ (rc : Rc) t o, Bd A rc → t.ok (n + 9 * xs.length) → GoI ns W u v A n lbs (some (.int j)) (some (.tup [.int w, .int g])) (some A.d) (some (.int f)) xs [some (.loc 2), some (.int j), some (.tup [.int w, .int g]), some A.d, some (.int f), some (.loc (ad W 2)), o, some (.loc (ad W 3)), some rc.d] (tp (ns.map .int) t ++ (W ++ (u :: v :: .lst (lbs.map lbD) :: .lst (obs.map Rc.d ++ [rc.d]) :: J'))) :=
        fun rc t o brc k => ⟨t, obs ++ [rc], _, _, J', fun x hx => (List.mem_append.mp hx).elim (hob x) (fun z => List.mem_singleton.mp z ▸ brc), fun x h => hx x (List.mem_cons_of_mem _ h), k, by simp; omega, rfl, by simp⟩
      have brc' : Bd A rc := by unfold Bd; omega
      by_cases e : lbs = []
      · simp [e, hz]
        have := nx rc t12 (some x') brc' (k12.mono (by omega))
        rw [e] at this
        exact this
      · have hlen : 0 < lbs.length := List.length_pos_iff.mpr e
        simp [e]
        refine c_draw (n := n + 9 * xs.length + 2) k12 (by decide) (by decide) fun r t13 r0 r1 k13 => ?_
        by_cases e2 : r = 0
        · simp [e2]
          refine c_draw (n := n + 9 * xs.length + 1) k13 (by omega) (by omega) fun r t14 r0 r1 k14 => ?_
          simp
          refine wp_atI r0 (by simpa using r1) fun m hm => ?_
          obtain ⟨l, hlm, rfl⟩ := lbD_mem hm
          refine c_draw k14 (by omega) (by omega) fun r t15 r0 r1 k15 => ?_
          refine wp_lb (A := A) r0 r1 (hbd l hlm) fun c bc => ?_
          simp [hz]
          exact nx c t15 _ bc k15
        · simp [e2, hz]
          exact nx rc t13 _ brc' (k13.mono (by omega))
    · rintro env S ⟨t9, obs, o, o2, J', hob, hx, k9, hol, rfl, rfl⟩
      simp
      refine wp_fin_tp ?_ (h ⟨A, obs, lbs⟩ t9 ⟨by omega, ?_, ?_, ?_, ?_, ?_, hbd, hob⟩ (k9.mono (by omega)))
      · have h1 : D.pureL (obs.map Rc.d) = true := pureL_iff.mpr fun d hd => by
          obtain ⟨l, _, rfl⟩ := List.mem_map.mp hd
          rfl
        have h2 : D.pureL (lbs.map lbD) = true := pureL_iff.mpr fun d hd => by
          obtain ⟨l, _, rfl⟩ := List.mem_map.mp hd
          rfl
        simp [D.pure, D.pureL, h1, h2, Rc.d]
      all_goals (simp only []; omega)
end
end K74

set_option Elab.async false
set_option linter.all false
set_option maxRecDepth 100000
namespace K74
open PySem PySem.Spec PyProof.Rows L2 Cs Lbl
/-! ### what holds of the placement, in plain Lean -/
theorem FP_skew (p : Pb) : Skew (FP p) p.lbs.length := ⟨fun c d hc hd h => by
  have h' : frcB p c d = true := by simpa [FP, hc, hd] using h
  have : frcB p (neg d) (neg c) = true := by
    unfold frcB at h' ⊢
    by_cases e : c.1 = d.1
    · rw [if_pos e, Bool.and_eq_true, decide_eq_true_eq] at h'
      rw [if_pos (by rw [neg_fst, neg_fst]; exact e.symm)]
      have e2 : neg d = c := by
        obtain ⟨l, a⟩ := c
        obtain ⟨m, b⟩ := d
        simp only at e h'
        subst e
        have := h'.1
        cases a <;> cases b <;> simp_all [neg]
      rw [e2, h'.2]
      have : c.2 ≠ (neg c).2 := by cases c with | mk l a => cases a <;> simp [neg]
      simp [this]
    · rw [if_neg e] at h'
      rw [if_neg (by rw [neg_fst, neg_fst]; exact fun z => e z.symm), neg_neg, ovB_symm]
      exact h'
  simpa [FP, hc, hd] using this⟩
theorem good_free {p : Pb} {f : Nat → Bool} (g : Good (FP p) p.lbs.length (kept (FP p) p.lbs.length) f) {l : Nat} (hl : l ∈ kept (FP p) p.lbs.length) : freeB p (l, f l) = true := by
  by_cases e : freeB p (l, f l) = true
  · exact e
  · have hn := kept_lt l hl
    have : FP p (l, f l) (l, !f l) = true := by simp [FP, hn, frcB, e]
    have := g.cl l hl (l, !f l) hl this
    simp at this
theorem good_apart {p : Pb} {f : Nat → Bool} (g : Good (FP p) p.lbs.length (kept (FP p) p.lbs.length) f) {l m : Nat} (hl : l ∈ kept (FP p) p.lbs.length) (hm : m ∈ kept (FP p) p.lbs.length) (hne : l ≠ m) : ovB (rcOf p (l, f l)) (rcOf p (m, f m)) = false := by
  by_cases e : ovB (rcOf p (l, f l)) (rcOf p (m, f m)) = true
  · have hn := kept_lt l hl
    have hn' := kept_lt m hm
    have : FP p (l, f l) (m, !f m) = true := by simp [FP, hn, hn', frcB, hne, neg, e]
    have := g.cl l hl (m, !f m) hm this
    simp at this
  · simpa using e
theorem keptL_iff (F : Ch → Ch → Bool) (n : Nat) : ∀ (ls ks : List Nat), ls.Pairwise (· < ·) → (∀ k ∈ ks, ∀ l ∈ ls, k < l) → ∀ l ∈ ls, l ∈ keptL F n ls ks ↔ reason F n ((keptL F n ls ks).filter (fun x => decide (x < l)) ++ [l]) l = none
  | [], ks, _, _, l, h => by cases h
  | x :: ls, ks, hp, hk, l, h => by
    rw [List.pairwise_cons] at hp
    rw [keptL]
    have flt : ∀ (ks' : List Nat), (∀ k ∈ ks', k < x) → (keptL F n ls ks').filter (fun y => decide (y < x)) = ks' := by
      intro ks' hk'
      obtain ⟨r, e, hs⟩ := keptL_sub F n ls ks'
      rw [e, List.filter_append]
      have h1 : ks'.filter (fun y => decide (y < x)) = ks' := List.filter_eq_self.mpr fun y hy => by simpa using hk' y hy
      have h2 : r.filter (fun y => decide (y < x)) = [] := List.filter_eq_nil_iff.mpr fun y hy => by
        have := hp.1 y (hs.subset hy)
        simp; omega
      rw [h1, h2, List.append_nil]
    have hkx : ∀ k ∈ ks, k < x := fun k hk' => hk k hk' x (List.mem_cons_self ..)
    split
    · rename_i hr
      have hk2 : ∀ k ∈ ks ++ [x], ∀ l ∈ ls, k < l := by
        intro k hk' l hl
        rcases List.mem_append.mp hk' with z | z
        · exact hk k z l (List.mem_cons_of_mem _ hl)
        · rcases List.mem_singleton.mp z with rfl
          exact hp.1 l hl
      rcases List.mem_cons.mp h with rfl | h'
      · obtain ⟨r, e, hs⟩ := keptL_sub F n ls (ks ++ [l])
        have h1 : (keptL F n ls (ks ++ [l])).filter (fun y => decide (y < l)) = ks := by
          rw [e, List.append_assoc, List.filter_append]
          have h1 : ks.filter (fun y => decide (y < l)) = ks := List.filter_eq_self.mpr fun y hy => by simpa using hkx y hy
          have h2 : ([l] ++ r).filter (fun y => decide (y < l)) = [] := List.filter_eq_nil_iff.mpr fun y hy => by
            rcases List.mem_append.mp hy with z | z
            · rcases List.mem_singleton.mp z with rfl
              simp
            · have := hp.1 y (hs.subset z)
              simp; omega
          rw [h1, h2, List.append_nil]
        rw [h1]
        exact ⟨fun _ => hr, fun _ => by rw [e]; simp⟩
      · exact keptL_iff F n ls (ks ++ [x]) hp.2 hk2 l h'
    · rename_i hr
      rcases List.mem_cons.mp h with rfl | h'
      · rw [flt ks hkx]
        refine ⟨fun hm => ?_, fun z => absurd z hr⟩
        obtain ⟨r, e, hs⟩ := keptL_sub F n ls ks
        rw [e] at hm
        rcases List.mem_append.mp hm with z | z
        · exact absurd (hkx l z) (Nat.lt_irrefl _)
        · exact absurd (hp.1 l (hs.subset z)) (Nat.lt_irrefl _)
      · exact keptL_iff F n ls ks hp.2 (fun k hk' l hl => hk k hk' l (List.mem_cons_of_mem _ hl)) l h'
theorem kept_iff {F : Ch → Ch → Bool} {n l : Nat} (h : l < n) : l ∈ kept F n ↔ why F n l = none :=
  keptL_iff F n (List.range n) [] List.pairwise_lt_range (fun k hk => by cases hk) l (List.mem_range.mpr h)
theorem why_some {F : Ch → Ch → Bool} {n l : Nat} (h : l < n) (hk : l ∉ kept F n) : ∃ a b, why F n l = some (a, b) := by
  cases e : why F n l with
  | none => exact absurd ((kept_iff h).mpr e) hk
  | some ab => exact ⟨ab.1, ab.2, rfl⟩
/-- a chain, as a list -/
structure ChnL (F : Ch → Ch → Bool) (n : Nat) (ms : List Nat) (s g : Ch) (l : List Ch) : Prop where
  hd : l.head? = some s
  lt : l.getLast? = some g
  al : ∀ c ∈ l, c.1 ∈ ms
  ed : ∀ i c d, l[i]? = some c → l[i + 1]? = some d → F c d = true
  sz : l.length ≤ 140
theorem Chn.toL {F : Ch → Ch → Bool} {n : Nat} {ms : List Nat} {s g : Ch} {l : List Ch} (h : Chn (nbr F n) (okM ms) s l g) (hs : s.1 ∈ ms) : l.head? = some s ∧ l.getLast? = some g ∧ (∀ c ∈ l, c.1 ∈ ms) ∧ ∀ i c d, l[i]? = some c → l[i + 1]? = some d → F c d = true := by
  induction h with
  | one =>
    refine ⟨rfl, rfl, fun c hc => ?_, fun i c d _ h2 => ?_⟩
    · rcases List.mem_singleton.mp hc with rfl
      exact hs
    · rw [List.getElem?_eq_none (by simp)] at h2
      cases h2
  | @snoc l x y h hn hk ih =>
    obtain ⟨h1, h2, h3, h4⟩ := ih
    have hne : l ≠ [] := by rintro rfl; cases h1
    refine ⟨?_, by simp, fun c hc => ?_, fun i c d e1 e2 => ?_⟩
    · rw [List.head?_append, h1]; rfl
    · rcases List.mem_append.mp hc with z | z
      · exact h3 c z
      · rcases List.mem_singleton.mp z with rfl
        simpa [okM] using hk
    · have hi := (List.getElem?_eq_some_iff.mp e2).1
      rw [List.length_append, List.length_singleton] at hi
      rw [List.getElem?_append_left (by omega)] at e1
      by_cases z : i + 1 < l.length
      · rw [List.getElem?_append_left z] at e2
        exact h4 i c d e1 e2
      · have hlen : i = l.length - 1 := by omega
        rw [hlen, ← List.getLast?_eq_getElem?, h2] at e1
        cases e1
        have : i + 1 = l.length := by omega
        rw [this, List.getElem?_append_right (Nat.le_refl _), Nat.sub_self] at e2
        cases e2
        exact (mem_nbr.mp hn).2
theorem back_len (bf : List (Ch × Ch)) (s : Ch) : ∀ (f : Nat) (x : Ch), (back bf s f x).length ≤ f + 1
  | 0, x => by simp [back]
  | f + 1, x => by
    unfold back
    split
    · simp
    · split
      · rename_i p _
        have := back_len bf s f p
        rw [List.length_cons]; omega
      · simp
theorem pathM_len {F : Ch → Ch → Bool} {n : Nat} {ms : List Nat} {s g : Ch} {l : List Ch} (hm : ms.length ≤ 64) (h : pathM F n ms s g = some l) : l.length ≤ 140 := by
  unfold pathM path at h
  simp only at h
  split at h
  · cases h
    have := bfs_len (g := g) (nodes := nodes ms) (nb := nbr F n) (ok := okM ms) nodes_ok (1 + (nodes ms).length) [(s, s)] 0
    have h2 := left_le (nodes := nodes ms) (bf := keys [(s, s)])
    have h3 : (nodes ms).length ≤ 128 := by unfold nodes; rw [len_choices]; omega
    have h4 := back_len (bfs (nbr F n) (okM ms) g (1 + (nodes ms).length) [(s, s)] 0) s (bfs (nbr F n) (okM ms) g (1 + (nodes ms).length) [(s, s)] 0).length g
    rw [List.length_reverse]
    simp only [keys, List.map_cons, List.map_nil, List.length_singleton, List.length_map] at this h2
    omega
  · cases h
theorem pathM_L {F : Ch → Ch → Bool} {n : Nat} {ms : List Nat} {s g : Ch} {l : List Ch} (hm : ms.length ≤ 64) (hs : s.1 ∈ ms) (h : pathM F n ms s g = some l) : ChnL F n ms s g l := by
  obtain ⟨h1, h2, h3, h4⟩ := Chn.toL (pathM_some h) hs
  exact ⟨h1, h2, h3, h4, pathM_len hm h⟩
theorem why_chn {F : Ch → Ch → Bool} {n l : Nat} {a b : List Ch} (hn : n ≤ 60) (h : why F n l = some (a, b)) : ChnL F n ((kept F n).filter (fun x => decide (x < l)) ++ [l]) (l, false) (l, true) a ∧ ChnL F n ((kept F n).filter (fun x => decide (x < l)) ++ [l]) (l, true) (l, false) b := by
  have hlen : ((kept F n).filter (fun x => decide (x < l)) ++ [l]).length ≤ 64 := by
    have h1 := List.length_filter_le (fun x => decide (x < l)) (kept F n)
    have h2 := kept_len F n
    rw [List.length_append, List.length_singleton]; omega
  unfold why reason at h
  cases h1 : pathM F n ((kept F n).filter (fun x => decide (x < l)) ++ [l]) (l, false) (l, true) with
  | none => rw [h1] at h; cases h
  | some x =>
    cases h2 : pathM F n ((kept F n).filter (fun x => decide (x < l)) ++ [l]) (l, true) (l, false) with
    | none => rw [h1, h2] at h; cases h
    | some y =>
      rw [h1, h2] at h
      cases h
      exact ⟨pathM_L hlen (by simp) h1, pathM_L hlen (by simp) h2⟩
theorem sub_filter {s l : List Nat} (h : s.Sublist l) (nd : l.Nodup) : l.filter (fun x => decide (x ∈ s)) = s := by
  induction h with
  | slnil => rfl
  | @cons s l a h ih =>
    rw [List.nodup_cons] at nd
    rw [List.filter_cons, if_neg (by simpa using fun z => nd.1 (h.subset z))]
    exact ih nd.2
  | @cons_cons s l a h ih =>
    rw [List.nodup_cons] at nd
    rw [List.filter_cons, if_pos (by simp)]
    congr 1
    refine Eq.trans (List.filter_congr fun x hx => ?_) (ih nd.2)
    have : x ≠ a := by rintro rfl; exact nd.1 hx
    simp [this]
theorem kept_filter (F : Ch → Ch → Bool) (n : Nat) : (List.range n).filter (fun x => decide (x ∈ kept F n)) = kept F n := sub_filter (kept_sub F n) List.nodup_range
theorem told_nc {F : Ch → Ch → Bool} {n l : Nat} (f : Nat → Bool) (hn : n ≤ 20) (hl : l < n) : Nc 3 30000 (told F n f l) := by
  unfold told
  split
  · exact (Nc.int (by unfold sd; split <;> decide) 0).mono (by omega) (by omega)
  · cases e : why F n l with
    | none => exact ⟨rfl, by simp [rD, D.py, PyData.canLay0], by simp [rD, D.py, PyData.showable], by simp [rD, D.py, PyData.intsShort], by simp [rD, D.py, PyData.depth], by simp [rD, D.py, PyData.weight]⟩
    | some ab =>
      obtain ⟨a, b⟩ := ab
      obtain ⟨ha, hb⟩ := why_chn (by omega) e
      have one : ∀ (c : List Ch) s g, ChnL F n ((kept F n).filter (fun x => decide (x < l)) ++ [l]) s g c → Nc 2 12000 (.tup (c.map chD)) := by
        intro c s g h
        refine (Nc.tup (n := 1) (w := 82) fun d hd => ?_).mono (by omega) (by have := h.sz; rw [List.length_map]; omega)
        obtain ⟨x, hx, rfl⟩ := List.mem_map.mp hd
        refine chD_nc ?_
        rcases List.mem_append.mp (h.al x hx) with z | z
        · have := kept_lt x.1 (List.mem_filter.mp z).1
          omega
        · rcases List.mem_singleton.mp z with z
          omega
      refine (Nc.tup (n := 2) (w := 12000) (ds := [.tup (a.map chD), .tup (b.map chD)]) fun d hd => ?_).mono (by omega) (by simp)
      simp at hd
      rcases hd with rfl | rfl
      · exact one _ _ _ ha
      · exact one _ _ _ hb
theorem nD_nc {l : Nat} (h : l < 10 ^ 9) : Nc 1 40 (nD l) := .int (by simp; omega) 1
end K74

set_option Elab.async false
set_option linter.all false
set_option maxRecDepth 100000
namespace K74
open PySem PySem.Spec PyProof.Rows L2 Cs Lbl
theorem range_split {n l : Nat} (h : l ≤ n) (q : Nat → Bool) : ((List.range n).filter q).filter (fun x => decide (x < l)) = (List.range l).filter q := by
  obtain ⟨m, rfl⟩ : ∃ m, n = l + m := ⟨n - l, by omega⟩
  rw [List.range_add, List.filter_append, List.filter_append]
  have h1 : ((List.range l).filter q).filter (fun x => decide (x < l)) = (List.range l).filter q := List.filter_eq_self.mpr fun x hx => by
    simpa using List.mem_range.mp (List.mem_filter.mp hx).1
  have h2 : (((List.range m).map (l + ·)).filter q).filter (fun x => decide (x < l)) = [] := List.filter_eq_nil_iff.mpr fun x hx => by
    obtain ⟨y, _, rfl⟩ := List.mem_map.mp (List.mem_filter.mp hx).1
    simp
  rw [h1, h2, List.append_nil]
theorem kept_flt {F : Ch → Ch → Bool} {n l : Nat} (h : l ≤ n) : (kept F n).filter (fun x => decide (x < l)) = (List.range l).filter fun x => decide (x ∈ kept F n) := by
  have := range_split h fun x => decide (x ∈ kept F n)
  rw [kept_filter] at this
  exact this
theorem kept_flt_s {F : Ch → Ch → Bool} {n l : Nat} (h : l < n) : (kept F n).filter (fun x => decide (x < l + 1)) = (kept F n).filter (fun x => decide (x < l)) ++ if l ∈ kept F n then [l] else [] := by
  rw [kept_flt h, kept_flt (Nat.le_of_lt h), List.range_succ, List.filter_append]
  congr 1
  by_cases e : l ∈ kept F n
  · rw [if_pos e]; simp [e]
  · rw [if_neg e]; simp [e]
theorem isi_int {F : Ch → Ch → Bool} {n l : Nat} (f : Nat → Bool) (h : l < n) (S : Sto) : noDk S (told F n f l) = true ∧ isiB "int" (told F n f l) = decide (l ∈ kept F n) ∧ isiB "tuple" (told F n f l) = !decide (l ∈ kept F n) := by
  unfold told
  by_cases e : l ∈ kept F n
  · rw [if_pos e]; simp only [e]; exact ⟨rfl, rfl, rfl⟩
  · rw [if_neg e]
    obtain ⟨a, b, e2⟩ := why_some h e
    rw [e2]; simp only [e]; exact ⟨rfl, rfl, rfl⟩
end K74

set_option Elab.async false
set_option linter.all false
set_option maxRecDepth 100000
namespace K74
open PySem PySem.Spec PyProof.Rows L2 Cs Lbl
theorem keptL_app (F : Ch → Ch → Bool) (n : Nat) : ∀ (a b ks : List Nat), keptL F n (a ++ b) ks = keptL F n b (keptL F n a ks)
  | [], _, _ => rfl
  | x :: a, b, ks => by
    rw [List.cons_append, keptL, keptL]
    split
    · exact keptL_app F n a b _
    · exact keptL_app F n a b _
theorem filter_all {l : List Nat} {p : Nat → Bool} (h : ∀ x ∈ l, p x = true) : l.filter p = l := List.filter_eq_self.mpr h
theorem filter_no {l : List Nat} {p : Nat → Bool} (h : ∀ x ∈ l, p x = false) : l.filter p = [] := List.filter_eq_nil_iff.mpr fun x hx => by rw [h x hx]; simp
/-! ### a beginning of the labels -/
section
variable {F F' : Ch → Ch → Bool} {n m : Nat}
theorem Emb.same (h : ∀ c d : Ch, c.1 < m → d.1 < m → F c d = F' c d) (hm : m ≤ n) : Emb F' m F n id :=
  ⟨fun _ _ e => e, fun _ _ h _ => h, fun a h => Nat.lt_of_lt_of_le h hm, fun c d hc hd => h c d hc hd⟩
theorem rmap_id (r : Option (List Ch × List Ch)) : rmap id r = r := by
  cases r with
  | none => rfl
  | some ab =>
    obtain ⟨a, b⟩ := ab
    have : cm id = id := by funext c; rfl
    simp [rmap, this]
theorem kept_part (h : ∀ c d : Ch, c.1 < m → d.1 < m → F c d = F' c d) (hm : m ≤ n) : (kept F n).filter (fun x => decide (x < m)) = kept F' m := by
  have e := Emb.same (F := F) (F' := F') (n := n) h hm
  have h1 : keptL F n (List.range m) [] = kept F' m := by
    have := e.keptL (List.range m) [] (fun l hl => List.mem_range.mp hl) (fun l hl => by cases hl)
    simpa [kept] using this
  obtain ⟨q, rfl⟩ : ∃ q, n = m + q := ⟨n - m, by omega⟩
  unfold kept
  rw [List.range_add, keptL_app, h1]
  obtain ⟨r, hr, hs⟩ := keptL_sub F (m + q) ((List.range q).map (m + ·)) (kept F' m)
  rw [hr, List.filter_append, filter_all (fun x hx => by simpa using kept_lt x hx), filter_no (fun x hx => ?_), List.append_nil]
  · rfl
  · obtain ⟨y, _, rfl⟩ := List.mem_map.mp (hs.subset hx)
    simp
theorem why_part (h : ∀ c d : Ch, c.1 < m → d.1 < m → F c d = F' c d) (hm : m ≤ n) {l : Nat} (hl : l < m) : (l ∈ kept F n ↔ l ∈ kept F' m) ∧ why F n l = why F' m l := by
  have e := Emb.same (F := F) (F' := F') (n := n) h hm
  have hk := kept_part h hm
  refine ⟨?_, ?_⟩
  · rw [← hk, List.mem_filter]
    exact ⟨fun z => ⟨z, by simpa using hl⟩, fun z => z.1⟩
  · have h2 : (kept F n).filter (fun x => decide (x < l)) = (kept F' m).filter (fun x => decide (x < l)) := by
      rw [← hk, List.filter_filter]
      refine List.filter_congr fun x _ => ?_
      by_cases z : x < l
      · have : x < m := by omega
        simp [z, this]
      · simp [z]
    unfold why
    rw [h2]
    have := e.reason (ms := (kept F' m).filter (fun x => decide (x < l)) ++ [l]) (fun x hx => by
      rcases List.mem_append.mp hx with z | z
      · exact kept_lt x (List.mem_filter.mp z).1
      · have : x = l := List.mem_singleton.mp z
        omega) hl
    rw [rmap_id] at this
    simpa using this
end
/-! ### a further label that fits nowhere -/
def up (at' l : Nat) : Nat := if l < at' then l else l + 1
theorem up_inj (q : Nat) : ∀ a b, up q a = up q b → a = b := fun a b h => by
  unfold up at h
  split at h <;> split at h <;> omega
theorem up_ne (q l : Nat) : up q l ≠ q := by unfold up; split <;> omega
theorem up_mono (q : Nat) {a b : Nat} (h : a < b) : up q a < up q b := by unfold up; split <;> split <;> omega
theorem range_up {q n : Nat} (h : q ≤ n) : List.range (n + 1) = (List.range q).map (up q) ++ [q] ++ ((List.range (n - q)).map (q + ·)).map (up q) := by
  obtain ⟨m, rfl⟩ : ∃ m, n = q + m := ⟨n - q, by omega⟩
  have h1 : (List.range q).map (up q) = List.range q := by
    have : (List.range q).map (up q) = (List.range q).map id := List.map_congr_left fun x hx => by
      have := List.mem_range.mp hx
      unfold up; rw [if_pos this]; rfl
    rw [this, List.map_id]
  have h2 : ((List.range (q + m - q)).map (q + ·)).map (up q) = (List.range m).map (q + 1 + ·) := by
    rw [Nat.add_sub_cancel_left, List.map_map]
    refine List.map_congr_left fun x _ => ?_
    show up q (q + x) = _
    unfold up; rw [if_neg (by omega)]; omega
  rw [h1, h2, Nat.add_assoc, Nat.add_comm m 1, ← Nat.add_assoc, List.range_add, List.range_succ]
section
variable {F F' : Ch → Ch → Bool} {n q : Nat}
structure Far (F F' : Ch → Ch → Bool) (n q : Nat) : Prop where
  le : q ≤ n
  eq : ∀ c d : Ch, c.1 < n → d.1 < n → F' (cm (up q) c) (cm (up q) d) = F c d
  own : ∀ b, F' (q, b) (q, !b) = true
theorem Far.emb (h : Far F F' n q) : Emb F n F' (n + 1) (up q) := ⟨up_inj q, fun _ _ hab _ => up_mono q hab, fun a ha => by unfold up; split <;> omega, h.eq⟩
theorem Far.reason (h : Far F F' n q) {ms : List Nat} (hq : q ∈ ms) : reason F' (n + 1) ms q = some ([(q, false), (q, true)], [(q, true), (q, false)]) := by
  have one : ∀ b, pathM F' (n + 1) ms (q, b) (q, !b) = some [(q, b), (q, !b)] := fun b => by
    unfold pathM
    refine path_one (mem_nbr.mpr ⟨by have := h.le; omega, h.own b⟩) (by simpa [okM] using hq) (by cases b <;> simp) ?_
    unfold nodes
    rw [choices_len]
    have : 0 < ms.length := List.length_pos_of_mem hq
    omega
  unfold Lbl.reason
  have h1 := one false
  have h2 := one true
  simp only [Bool.not_false, Bool.not_true] at h1 h2
  rw [h1, h2]
theorem Far.kept (h : Far F F' n q) : kept F' (n + 1) = (Lbl.kept F n).map (up q) := by
  have e := h.emb
  obtain ⟨m, rfl⟩ : ∃ m, n = q + m := ⟨n - q, by have := h.le; omega⟩
  have h1 := e.keptL (List.range q) [] (fun l hl => by have := List.mem_range.mp hl; omega) (fun l hl => by cases hl)
  have hk : ∀ l ∈ Lbl.keptL F (q + m) (List.range q) [], l < q + m := fun l hl => by
    obtain ⟨r, hr, hs⟩ := keptL_sub F (q + m) (List.range q) []
    rw [hr] at hl
    have := List.mem_range.mp (hs.subset (by simpa using hl))
    omega
  have h2 := e.keptL ((List.range m).map (q + ·)) (Lbl.keptL F (q + m) (List.range q) []) (fun l hl => by
    obtain ⟨y, hy, rfl⟩ := List.mem_map.mp hl
    have := List.mem_range.mp hy
    omega) hk
  have mid : ∀ ks, Lbl.keptL F' (q + m + 1) [q] ks = ks := fun ks => by
    rw [Lbl.keptL, h.reason (by simp), if_neg (by simp)]; rfl
  unfold Lbl.kept
  rw [range_up h.le, Nat.add_sub_cancel_left, keptL_app, keptL_app, mid]
  rw [List.map_nil] at h1
  rw [h1, h2, List.range_add, keptL_app]
theorem Far.why (h : Far F F' n q) {l : Nat} (hl : l < n) : why F' (n + 1) (up q l) = rmap (up q) (K74.why F n l) := by
  unfold K74.why
  have : (Lbl.kept F' (n + 1)).filter (fun x => decide (x < up q l)) ++ [up q l] = ((Lbl.kept F n).filter (fun x => decide (x < l)) ++ [l]).map (up q) := by
    rw [h.kept, List.filter_map, List.map_append]
    congr 2
    refine List.filter_congr fun x _ => ?_
    show decide (up q x < up q l) = decide (x < l)
    rw [decide_eq_decide]
    refine ⟨fun z => ?_, up_mono q⟩
    by_cases y : x < l
    · exact y
    · rcases Nat.lt_or_ge l x with w | w
      · have := up_mono q w; omega
      · have : x = l := by omega
        subst this; omega
  rw [this]
  exact h.emb.reason (fun x hx => by
    rcases List.mem_append.mp hx with z | z
    · exact kept_lt x (List.mem_filter.mp z).1
    · have : x = l := List.mem_singleton.mp z
      omega) hl
theorem Far.whyq (h : Far F F' n q) : K74.why F' (n + 1) q = some ([(q, false), (q, true)], [(q, true), (q, false)]) := h.reason (by simp)
theorem Far.sides (h : Far F F' n q) {sF : List (Nat × Bool)} (hF : sidesL F n (Lbl.kept F n) (Lbl.kept F n) [] = some sF) (hall : ∀ l ∈ Lbl.kept F n, l ∈ sF.map (·.1)) :
    sidesL F' (n + 1) (Lbl.kept F' (n + 1)) (Lbl.kept F' (n + 1)) [] = some (sF.map (sm (up q))) ∧ (∀ l ∈ Lbl.kept F' (n + 1), l ∈ (sF.map (sm (up q))).map (·.1)) := by
  have := h.emb.sidesL (ms := Lbl.kept F n) kept_lt (Lbl.kept F n) [] kept_lt
  rw [hF] at this
  refine ⟨by rw [h.kept]; simpa using this, fun l hl => ?_⟩
  rw [h.kept] at hl
  obtain ⟨x, hx, rfl⟩ := List.mem_map.mp hl
  rw [sm_keys]
  exact List.mem_map.mpr ⟨x, hall x hx, rfl⟩
/-- what is told, renumbered -/
def toldUp (F : Ch → Ch → Bool) (n : Nat) (f : Nat → Bool) (q l : Nat) : D := if l ∈ kept F n then .int (sd (f l)) else rD (rmap (up q) (K74.why F n l))
def farD (q : Nat) : D := rD (some ([(q, false), (q, true)], [(q, true), (q, false)]))
theorem Far.told (h : Far F F' n q) (sF : List (Nat × Bool)) : (List.range (n + 1)).map (told F' (n + 1) (getS (sF.map (sm (up q))))) = (List.range q).map (toldUp F n (getS sF) q) ++ [farD q] ++ ((List.range (n - q)).map (q + ·)).map (toldUp F n (getS sF) q) := by
  have one : ∀ l, l < n → K74.told F' (n + 1) (getS (sF.map (sm (up q)))) (up q l) = toldUp F n (getS sF) q l := fun l hl => by
    unfold K74.told toldUp
    have : up q l ∈ Lbl.kept F' (n + 1) ↔ l ∈ Lbl.kept F n := by rw [h.kept]; exact mem_inj (up_inj q)
    by_cases z : l ∈ Lbl.kept F n
    · rw [if_pos z, if_pos (this.mpr z), getS_map (up_inj q)]
    · rw [if_neg z, if_neg (fun w => z (this.mp w)), h.why hl]
  have hq : K74.told F' (n + 1) (getS (sF.map (sm (up q)))) q = farD q := by
    unfold K74.told farD
    have : q ∉ Lbl.kept F' (n + 1) := by
      rw [h.kept]
      intro z
      obtain ⟨x, _, e⟩ := List.mem_map.mp z
      exact up_ne q x e
    rw [if_neg this, h.whyq]
  rw [range_up h.le, List.map_append, List.map_append, List.map_map, List.map_map]
  have h1 : (List.range q).map (K74.told F' (n + 1) (getS (sF.map (sm (up q)))) ∘ up q) = (List.range q).map (toldUp F n (getS sF) q) := List.map_congr_left fun x hx => one x (by have := List.mem_range.mp hx; have := h.le; omega)
  have h2 : ((List.range (n - q)).map (q + ·)).map (K74.told F' (n + 1) (getS (sF.map (sm (up q)))) ∘ up q) = ((List.range (n - q)).map (q + ·)).map (toldUp F n (getS sF) q) := List.map_congr_left fun x hx => by
    obtain ⟨y, hy, rfl⟩ := List.mem_map.mp hx
    have := List.mem_range.mp hy
    exact one _ (by omega)
  rw [h1, h2, List.map_cons, List.map_nil, hq]
end
/-! ### the placed ones alone -/
section
variable {F F' : Ch → Ch → Bool} {n : Nat}
def pick (ks : List Nat) (n i : Nat) : Nat := if h : i < ks.length then ks[i] else n + i
structure Alone (F F' : Ch → Ch → Bool) (n : Nat) : Prop where
  eq : ∀ c d : Ch, c.1 < (kept F n).length → d.1 < (kept F n).length → F (cm (pick (kept F n) n) c) (cm (pick (kept F n) n) d) = F' c d
theorem pick_get {ks : List Nat} {i : Nat} (h : i < ks.length) (n : Nat) : pick ks n i = ks[i] := dif_pos h
theorem kept_asc (F : Ch → Ch → Bool) (n : Nat) : (kept F n).Pairwise (· < ·) := List.Pairwise.sublist (kept_sub F n) List.pairwise_lt_range
theorem pick_mono {a b : Nat} (h : a < b) (hb : b < (kept F n).length) : pick (kept F n) n a < pick (kept F n) n b := by
  rw [pick_get (Nat.lt_trans h hb), pick_get hb]
  exact List.pairwise_iff_getElem.mp (kept_asc F n) a b _ hb h
theorem pick_inj (F : Ch → Ch → Bool) (n : Nat) : ∀ a b, pick (kept F n) n a = pick (kept F n) n b → a = b := fun a b h => by
  by_cases ha : a < (kept F n).length
  · by_cases hb : b < (kept F n).length
    · rcases Nat.lt_trichotomy a b with z | z | z
      · have := pick_mono (F := F) (n := n) z hb; omega
      · exact z
      · have := pick_mono (F := F) (n := n) z ha; omega
    · rw [pick_get ha] at h
      unfold pick at h
      rw [dif_neg hb] at h
      have := kept_lt (F := F) (n := n) _ (List.getElem_mem ha)
      omega
  · by_cases hb : b < (kept F n).length
    · rw [pick_get hb] at h
      unfold pick at h
      rw [dif_neg ha] at h
      have := kept_lt (F := F) (n := n) _ (List.getElem_mem hb)
      omega
    · unfold pick at h
      rw [dif_neg ha, dif_neg hb] at h
      omega
theorem Alone.emb (h : Alone F F' n) : Emb F' (kept F n).length F n (pick (kept F n) n) := ⟨pick_inj F n, fun a b hab hb => pick_mono hab hb, fun a ha => by rw [pick_get ha]; exact kept_lt _ (List.getElem_mem ha), h.eq⟩
theorem map_pick (F : Ch → Ch → Bool) (n m : Nat) (hm : m ≤ (kept F n).length) : (List.range m).map (pick (kept F n) n) = (kept F n).take m := by
  refine List.ext_getElem? fun i => ?_
  rw [List.getElem?_map]
  by_cases z : i < m
  · rw [List.getElem?_range z, List.getElem?_take_of_lt z, List.getElem?_eq_getElem (by omega)]
    simp only [Option.map_some, pick_get (show i < (kept F n).length by omega)]
  · rw [List.getElem?_eq_none (by simp; omega), List.getElem?_eq_none (by rw [List.length_take]; omega)]; rfl
theorem take_flt (F : Ch → Ch → Bool) (n i : Nat) (hi : i < (kept F n).length) : (kept F n).filter (fun x => decide (x < (kept F n)[i])) = (kept F n).take i := by
  have h := kept_asc F n
  have hp := List.pairwise_iff_getElem.mp h
  have e : kept F n = (kept F n).take i ++ (kept F n).drop i := (List.take_append_drop i _).symm
  have h1 : ((kept F n).take i).filter (fun x => decide (x < (kept F n)[i])) = (kept F n).take i := filter_all fun x hx => by
    obtain ⟨j, hj, rfl⟩ := List.mem_iff_getElem.mp hx
    rw [List.length_take] at hj
    rw [List.getElem_take, decide_eq_true_eq]
    exact hp j i _ hi (by omega)
  have h2 : ((kept F n).drop i).filter (fun x => decide (x < (kept F n)[i])) = [] := filter_no fun x hx => by
    obtain ⟨j, hj, rfl⟩ := List.mem_iff_getElem.mp hx
    rw [List.length_drop] at hj
    rw [List.getElem_drop, decide_eq_false_iff_not]
    cases j with
    | zero => simp
    | succ j =>
      have := hp i (i + (j + 1)) hi (by omega) (by omega)
      omega
  exact (congrArg (List.filter fun x => decide (x < (kept F n)[i])) e).trans (by rw [List.filter_append, h1, h2, List.append_nil])
theorem Alone.kept (h : Alone F F' n) : Lbl.kept F' (Lbl.kept F n).length = List.range (Lbl.kept F n).length := by
  have step : ∀ m, m ≤ (Lbl.kept F n).length → Lbl.keptL F' (Lbl.kept F n).length (List.range m) [] = List.range m := by
    intro m
    induction m with
    | zero => intro _; rfl
    | succ m ih =>
      intro hm
      rw [List.range_succ, keptL_app, ih (by omega), Lbl.keptL]
      have := h.emb.reason (ms := List.range m ++ [m]) (fun x hx => by rw [← List.range_succ] at hx; have := List.mem_range.mp hx; omega) (l := m) (by omega)
      rw [List.map_append, map_pick F n m (by omega), List.map_cons, List.map_nil, pick_get (show m < (Lbl.kept F n).length by omega), ← take_flt F n m (by omega)] at this
      have hm2 : (Lbl.kept F n)[m] ∈ Lbl.kept F n := List.getElem_mem _
      have hw := (kept_iff (kept_lt _ hm2)).mp hm2
      unfold K74.why at hw
      rw [hw] at this
      have := rmap_none.mp this.symm
      rw [this, if_pos rfl]; rfl
  exact step _ (Nat.le_refl _)
theorem Alone.sides (h : Alone F F' n) {sF s2 : List (Nat × Bool)} (hF : sidesL F n (Lbl.kept F n) (Lbl.kept F n) [] = some sF)
    (h2 : sidesL F' (Lbl.kept F n).length (Lbl.kept F' (Lbl.kept F n).length) (Lbl.kept F' (Lbl.kept F n).length) [] = some s2) {i : Nat} (hi : i < (Lbl.kept F n).length) : getS s2 i = getS sF (Lbl.kept F n)[i] := by
  have hr : ∀ l ∈ List.range (Lbl.kept F n).length, l < (Lbl.kept F n).length := fun l hl => List.mem_range.mp hl
  have := h.emb.sidesL (ms := List.range (Lbl.kept F n).length) hr (List.range (Lbl.kept F n).length) [] hr
  rw [map_pick F n _ (Nat.le_refl _), List.take_length, List.map_nil, hF] at this
  rw [h.kept] at h2
  rw [h2] at this
  have e := Option.some.inj this
  rw [e, ← pick_get hi n]
  exact (getS_map (pick_inj F n) s2 i).symm
end
end K74

set_option Elab.async false
set_option linter.all false
set_option maxRecDepth 100000
namespace K74
open PySem PySem.Spec PyProof.Rows L2 Cs Lbl
/-! ### a further label in the clear -/
structure Clear (F F' : Ch → Ch → Bool) (n q : Nat) : Prop where
  le : q ≤ n
  eq : ∀ c d : Ch, c.1 < n → d.1 < n → F' (cm (up q) c) (cm (up q) d) = F c d
  out : ∀ e, F' (q, false) e = false
  inn : ∀ c, F' c (q, true) = false
section
variable {F F' : Ch → Ch → Bool} {n q : Nat}
theorem Clear.emb (h : Clear F F' n q) : Emb F n F' (n + 1) (up q) := ⟨up_inj q, fun _ _ hab _ => up_mono q hab, fun a ha => by unfold up; split <;> omega, h.eq⟩
def dropQ (q : Nat) (ms : List Nat) : List Nat := ms.filter fun x => decide (x ≠ q)
theorem Clear.sink (h : Clear F F' n q) (ms : List Nat) : Sink (nbr F' (n + 1)) (okM (dropQ q ms)) (okM ms) (q, false) := by
  refine ⟨?_, fun c => ?_⟩
  · unfold nbr
    have : (choices (List.range (n + 1))).filter (F' (q, false)) = [] := List.filter_eq_nil_iff.mpr fun e _ => by rw [h.out e]; simp
    rw [this]; rfl
  · rw [List.filter_filter]
    refine List.filter_congr fun d hd => ?_
    have hF := (mem_nbr.mp hd).2
    have hne : d ≠ (q, true) := by rintro rfl; rw [h.inn] at hF; cases hF
    unfold okM nzk dropQ
    rw [Bool.eq_iff_iff, Bool.and_eq_true, decide_eq_true_eq, decide_eq_true_eq, decide_eq_true_eq, List.mem_filter, decide_eq_true_eq]
    constructor
    · rintro ⟨h1, h2⟩
      exact ⟨fun e => h2 (by rw [e]), h1⟩
    · rintro ⟨h1, h2⟩
      refine ⟨h2, fun e => ?_⟩
      obtain ⟨a, b⟩ := d
      simp only at e
      subst e
      cases b
      · exact h1 rfl
      · exact hne rfl
theorem Clear.path (h : Clear F F' n q) (ms : List Nat) {s g : Ch} (hs : s.1 ≠ q) (hg : g.1 ≠ q) : pathM F' (n + 1) ms s g = pathM F' (n + 1) (dropQ q ms) s g :=
  (h.sink ms).path (fun e => hs (by rw [e])) (fun e => hg (by rw [e])) nodes_ok nodes_ok
theorem Clear.reason (h : Clear F F' n q) (ms : List Nat) {l : Nat} (hl : l ≠ q) : reason F' (n + 1) ms l = Lbl.reason F' (n + 1) (dropQ q ms) l := by
  unfold Lbl.reason
  rw [h.path ms (s := (l, false)) (g := (l, true)) hl hl, h.path ms (s := (l, true)) (g := (l, false)) hl hl]
theorem Clear.stay (h : Clear F F' n q) {ms : List Nat} {x : Ch} (r : R F' (n + 1) ms (q, false) x) : x = (q, false) := by
  induction r with
  | refl => rfl
  | step r a b ih =>
    subst ih
    have := (mem_nbr.mp a).2
    rw [h.out] at this; cases this
theorem Clear.own (h : Clear F F' n q) (ms : List Nat) : Lbl.reason F' (n + 1) ms q = none := by
  unfold Lbl.reason
  cases e : pathM F' (n + 1) ms (q, false) (q, true) with
  | none => rfl
  | some a =>
    have := h.stay (pathM_some e).rch
    cases this
theorem Clear.reasonUp (h : Clear F F' n q) {ks ks' : List Nat} (hk : ∀ l ∈ ks, l < n) (e : dropQ q ks' = ks.map (up q)) {l : Nat} (hl : l < n) : Lbl.reason F' (n + 1) (ks' ++ [up q l]) (up q l) = rmap (up q) (Lbl.reason F n (ks ++ [l]) l) := by
  rw [h.reason _ (up_ne q l)]
  have : dropQ q (ks' ++ [up q l]) = (ks ++ [l]).map (up q) := by
    unfold dropQ at e ⊢
    rw [List.filter_append, e, List.map_append]
    congr 1
    exact List.filter_cons_of_pos (by simpa using up_ne q l)
  rw [this]
  exact h.emb.reason (fun x hx => by
    rcases List.mem_append.mp hx with z | z
    · exact hk x z
    · have : x = l := List.mem_singleton.mp z
      omega) hl
theorem Clear.keptL (h : Clear F F' n q) : ∀ (ls ks ks' : List Nat), (∀ l ∈ ls, l < n) → (∀ l ∈ ks, l < n) → dropQ q ks' = ks.map (up q) → ∃ r, Lbl.keptL F n ls ks = ks ++ r ∧ Lbl.keptL F' (n + 1) (ls.map (up q)) ks' = ks' ++ r.map (up q)
  | [], ks, ks', _, _, _ => ⟨[], by rw [Lbl.keptL, List.append_nil], by simp [Lbl.keptL]⟩
  | l :: ls, ks, ks', hl, hk, e => by
    have hl1 := hl l (List.mem_cons_self ..)
    have hl2 : ∀ x ∈ ls, x < n := fun x hx => hl x (List.mem_cons_of_mem _ hx)
    have hr := h.reasonUp hk e hl1
    rw [List.map_cons, Lbl.keptL, Lbl.keptL, hr]
    simp only [rmap_none]
    split
    · obtain ⟨r, h1, h2⟩ := Clear.keptL h ls (ks ++ [l]) (ks' ++ [up q l]) hl2 (fun x hx => by
        rcases List.mem_append.mp hx with z | z
        · exact hk x z
        · have : x = l := List.mem_singleton.mp z
          omega) (by
        unfold dropQ at e ⊢
        rw [List.filter_append, e, List.map_append]
        congr 1
        exact List.filter_cons_of_pos (by simpa using up_ne q l))
      exact ⟨l :: r, by rw [h1]; simp, by rw [h2]; simp⟩
    · exact Clear.keptL h ls ks ks' hl2 hk e
theorem drop_up (q : Nat) (ks : List Nat) : dropQ q (ks.map (up q)) = ks.map (up q) := List.filter_eq_self.mpr fun x hx => by
  obtain ⟨y, _, rfl⟩ := List.mem_map.mp hx
  simpa using up_ne q y
/-- which are kept: the same, and the further one -/
theorem Clear.kept (h : Clear F F' n q) : ∃ a r, Lbl.kept F n = a ++ r ∧ Lbl.kept F' (n + 1) = a.map (up q) ++ [q] ++ r.map (up q) := by
  obtain ⟨m, rfl⟩ : ∃ m, n = q + m := ⟨n - q, by have := h.le; omega⟩
  obtain ⟨a, h1, h2⟩ := h.keptL (List.range q) [] [] (fun l hl => by have := List.mem_range.mp hl; omega) (fun l hl => by cases hl) rfl
  rw [List.nil_append] at h1 h2
  have ha : ∀ l ∈ a, l < q + m := fun l hl => by
    obtain ⟨r, hr, hs⟩ := keptL_sub F (q + m) (List.range q) []
    rw [h1, List.nil_append] at hr
    have := List.mem_range.mp (hs.subset (hr ▸ hl))
    omega
  obtain ⟨r, h3, h4⟩ := h.keptL ((List.range m).map (q + ·)) a (a.map (up q) ++ [q]) (fun l hl => by
    obtain ⟨y, hy, rfl⟩ := List.mem_map.mp hl
    have := List.mem_range.mp hy
    omega) ha (by
    unfold dropQ
    rw [List.filter_append]
    have := drop_up q a
    unfold dropQ at this
    rw [this]
    have : [q].filter (fun x => decide (x ≠ q)) = [] := by simp
    rw [this, List.append_nil])
  refine ⟨a, r, ?_, ?_⟩
  · unfold Lbl.kept
    rw [List.range_add, keptL_app, h1, h3]
  · unfold Lbl.kept
    rw [range_up h.le, Nat.add_sub_cancel_left, keptL_app, keptL_app, h2, Lbl.keptL, h.own, if_pos rfl, Lbl.keptL, h4]
theorem Clear.mem (h : Clear F F' n q) (l : Nat) : up q l ∈ Lbl.kept F' (n + 1) ↔ l ∈ Lbl.kept F n := by
  obtain ⟨a, r, h1, h2⟩ := h.kept
  rw [h1, h2]
  simp only [List.mem_append, List.mem_singleton, mem_inj (up_inj q), up_ne q l, or_false]
theorem Clear.memq (h : Clear F F' n q) : q ∈ Lbl.kept F' (n + 1) := by
  obtain ⟨a, r, h1, h2⟩ := h.kept
  rw [h2]; simp
theorem Clear.drop (h : Clear F F' n q) : dropQ q (Lbl.kept F' (n + 1)) = (Lbl.kept F n).map (up q) := by
  obtain ⟨a, r, h1, h2⟩ := h.kept
  have h3 := drop_up q a
  have h4 := drop_up q r
  unfold dropQ at h3 h4 ⊢
  rw [h1, h2, List.filter_append, List.filter_append, h3, h4, List.map_append]
  have : [q].filter (fun x => decide (x ≠ q)) = [] := by simp
  rw [this, List.append_nil]
theorem Clear.why (h : Clear F F' n q) {l : Nat} (hl : l < n) : K74.why F' (n + 1) (up q l) = rmap (up q) (K74.why F n l) := by
  unfold K74.why
  refine h.reasonUp (fun x hx => kept_lt x (List.mem_filter.mp hx).1) ?_ hl
  have e := h.drop
  unfold dropQ at e ⊢
  rw [List.filter_filter]
  have : (fun a => decide (a ≠ q) && decide (a < up q l)) = fun a => decide (a < up q l) && decide (a ≠ q) := by funext a; exact Bool.and_comm _ _
  rw [this, ← List.filter_filter, e, List.filter_map]
  congr 1
  refine List.filter_congr fun x _ => ?_
  show decide (up q x < up q l) = decide (x < l)
  rw [decide_eq_decide]
  refine ⟨fun z => ?_, up_mono q⟩
  by_cases y : x < l
  · exact y
  · rcases Nat.lt_or_ge l x with w | w
    · have := up_mono q w; omega
    · have : x = l := by omega
      subst this; omega
def down (q m : Nat) : Nat := if m < q then m else m - 1
theorem down_up (q l : Nat) : down q (up q l) = l := by
  unfold down up
  by_cases h : l < q
  · rw [if_pos h, if_pos h]
  · rw [if_neg h, if_neg (by omega)]; omega
theorem up_cases (q x : Nat) : x = q ∨ ∃ l, x = up q l := by
  by_cases h : x = q
  · exact .inl h
  · refine .inr ⟨down q x, ?_⟩
    unfold down up
    by_cases z : x < q
    · rw [if_pos z, if_pos z]
    · rw [if_neg z, if_neg (by omega)]; omega
theorem Clear.least (h : Clear F F' n q) {f : Nat → Bool} (hf : Least F n (Lbl.kept F n) f) : Least F' (n + 1) (Lbl.kept F' (n + 1)) (fun m => if m = q then false else f (down q m)) := by
  have fu : ∀ l, (if up q l = q then false else f (down q (up q l))) = f l := fun l => by rw [if_neg (up_ne q l), down_up]
  refine ⟨⟨fun l' hl' e he hF => ?_⟩, fun g hg l' hl' hb hg0 => ?_⟩
  · rcases up_cases q l' with rfl | ⟨l, rfl⟩
    · simp only [if_true] at hF
      rw [h.out] at hF; cases hF
    · have hl := (h.mem l).mp hl'
      simp only [fu] at hF ⊢
      obtain ⟨m', b⟩ := e
      rcases up_cases q m' with rfl | ⟨m, rfl⟩
      · cases b
        · simp
        · rw [h.inn] at hF; cases hF
      · have hm := (h.mem m).mp he
        have := h.eq (l, f l) (m, b) (kept_lt l hl) (kept_lt m hm)
        have h2 : F (l, f l) (m, b) = true := by rw [← this]; exact hF
        have := hf.good.cl l hl (m, b) hm h2
        simp only [fu]; exact this
  · rcases up_cases q l' with rfl | ⟨l, rfl⟩
    · simp
    · have hl := (h.mem l).mp hl'
      simp only [fu]
      refine hf.le (fun m => g (up q m)) ⟨fun a ha e he hF => ?_⟩ l hl (fun m hm hlt => ?_) hg0
      · have := h.eq (a, g (up q a)) e (kept_lt a ha) (kept_lt e.1 he)
        exact hg.cl (up q a) ((h.mem a).mpr ha) (cm (up q) e) ((h.mem e.1).mpr he) (by rw [← hF, ← this]; rfl)
      · have := hb (up q m) ((h.mem m).mpr hm) (up_mono q hlt)
        rw [fu] at this
        exact this
end
end K74

set_option Elab.async false
set_option linter.all false
set_option maxRecDepth 100000
namespace K74
open PySem PySem.Spec PyProof.Rows L2 Cs Lbl
/-! ### an obstacle that is alone, as a label -/
def su (c : Ch) : Ch := (c.1 + 1, c.2)
structure Blk (F F3 : Ch → Ch → Bool) (n : Nat) (β : Ch → Bool) : Prop where
  sk : Skew F n
  sk3 : Skew F3 (n + 1)
  apart : ∀ c d : Ch, c.1 < n → d.1 < n → c.1 ≠ d.1 → F3 (su c) (su d) = F c d
  own : ∀ c : Ch, c.1 < n → F c (neg c) = (F3 (su c) (su (neg c)) || β c)
  to0 : ∀ (c : Ch) (a : Bool), c.1 < n → F3 (su c) (0, a) = β c
  of0 : ∀ (a : Bool) (c : Ch), c.1 < n → F3 (0, a) (su c) = β (neg c)
  own0 : ∀ a b : Bool, F3 (0, a) (0, b) = false
section
variable {F F3 : Ch → Ch → Bool} {n : Nat} {β : Ch → Bool}
theorem mem0 {ms : List Nat} {x : Nat} : x + 1 ∈ 0 :: ms.map (· + 1) ↔ x ∈ ms := by simp
theorem Blk.good (h : Blk F F3 n β) {ms : List Nat} (hm : ∀ l ∈ ms, l < n) (g : Nat → Bool) : Good F3 (n + 1) (0 :: ms.map (· + 1)) g ↔ Good F n ms fun l => g (l + 1) := by
  constructor
  · intro G
    -- no chosen one touches the block
    have free : ∀ l ∈ ms, β (l, g (l + 1)) = false := fun l hl => by
      cases e : β (l, g (l + 1)) with
      | false => rfl
      | true =>
        have t := h.to0 (l, g (l + 1)) true (hm l hl)
        have f := h.to0 (l, g (l + 1)) false (hm l hl)
        rw [e] at t f
        have a := G.cl (l + 1) (mem0.mpr hl) (0, true) (by simp) t
        have b := G.cl (l + 1) (mem0.mpr hl) (0, false) (by simp) f
        simp only at a b
        rw [a] at b; cases b
    refine ⟨fun l hl e he hF => ?_⟩
    by_cases z : e.1 = l
    · obtain ⟨m, b⟩ := e
      simp only at z
      subst z
      by_cases y : b = g (m + 1)
      · exact y.symm
      · have hb : b = !g (m + 1) := by cases b <;> cases hg : g (m + 1) <;> simp_all
        have hn : (m, b) = neg (m, g (m + 1)) := by rw [hb]; rfl
        rw [hn, h.own _ (hm m hl), free m hl, Bool.or_false] at hF
        have := G.cl (m + 1) (mem0.mpr hl) (su (neg (m, g (m + 1)))) (mem0.mpr hl) hF
        rw [hb]; exact this
    · have := h.apart (l, g (l + 1)) e (hm l hl) (hm _ he) (fun w => z w.symm)
      exact G.cl (l + 1) (mem0.mpr hl) (su e) (mem0.mpr he) (by rw [← hF, ← this]; rfl)
  · intro G
    have free : ∀ l ∈ ms, F (l, g (l + 1)) (neg (l, g (l + 1))) = false := fun l hl => by
      cases e : F (l, g (l + 1)) (neg (l, g (l + 1))) with
      | false => rfl
      | true =>
        have := G.cl l hl (neg (l, g (l + 1))) hl e
        simp [neg] at this
    have nob : ∀ l ∈ ms, β (l, g (l + 1)) = false ∧ F3 (su (l, g (l + 1))) (su (neg (l, g (l + 1)))) = false := fun l hl => by
      have := free l hl
      rw [h.own _ (hm l hl), Bool.or_eq_false_iff] at this
      exact ⟨this.2, this.1⟩
    refine ⟨fun l' hl' e he hF => ?_⟩
    obtain ⟨e1, b⟩ := e
    cases l' with
    | zero =>
      cases e1 with
      | zero => rw [h.own0] at hF; cases hF
      | succ m =>
        have hmm : m ∈ ms := mem0.mp he
        have := h.of0 (g 0) (m, b) (hm m hmm)
        have hb : β (neg (m, b)) = true := by rw [← this]; exact hF
        by_cases y : b = g (m + 1)
        · exact y.symm
        · have hn : neg (m, b) = (m, g (m + 1)) := by
            cases b <;> cases hg : g (m + 1) <;> simp_all [neg]
          rw [hn, (nob m hmm).1] at hb; cases hb
    | succ l =>
      have hl : l ∈ ms := mem0.mp hl'
      cases e1 with
      | zero =>
        have := h.to0 (l, g (l + 1)) b (hm l hl)
        have hb : β (l, g (l + 1)) = true := by rw [← this]; exact hF
        rw [(nob l hl).1] at hb; cases hb
      | succ m =>
        have hmm : m ∈ ms := mem0.mp he
        by_cases z : l = m
        · subst z
          by_cases y : b = g (l + 1)
          · exact y.symm
          · have hn : (l + 1, b) = su (neg (l, g (l + 1))) := by
              cases b <;> cases hg : g (l + 1) <;> simp_all [neg, su]
            rw [hn] at hF
            have := (nob l hl).2
            have hF' : F3 (su (l, g (l + 1))) (su (neg (l, g (l + 1)))) = true := hF
            rw [this] at hF'; cases hF'
        · have := h.apart (l, g (l + 1)) (m, b) (hm l hl) (hm m hmm) z
          exact G.cl l hl (m, b) hmm (by rw [← this]; exact hF)
def g0 (f : Nat → Bool) (m : Nat) : Bool := if m = 0 then false else f (m - 1)
theorem g0_s (f : Nat → Bool) : (fun l => g0 f (l + 1)) = f := by funext l; simp [g0]
theorem Blk.solv (h : Blk F F3 n β) {ms : List Nat} (hm : ∀ l ∈ ms, l < n) : (∃ g, Good F3 (n + 1) (0 :: ms.map (· + 1)) g) ↔ ∃ f, Good F n ms f :=
  ⟨fun ⟨g, G⟩ => ⟨_, (h.good hm g).mp G⟩, fun ⟨f, G⟩ => ⟨g0 f, (h.good hm _).mpr (by rw [g0_s]; exact G)⟩⟩
theorem Blk.keptL (h : Blk F F3 n β) : ∀ (ls ks : List Nat), (∀ l ∈ ls, l < n) → (∀ l ∈ ks, l < n) → Fine F n ks → Fine F3 (n + 1) (0 :: ks.map (· + 1)) → Lbl.keptL F3 (n + 1) (ls.map (· + 1)) (0 :: ks.map (· + 1)) = 0 :: (Lbl.keptL F n ls ks).map (· + 1)
  | [], ks, _, _, _, _ => by simp [Lbl.keptL]
  | l :: ls, ks, hl, hk, f1, f3 => by
    have hl1 := hl l (List.mem_cons_self ..)
    have hl2 : ∀ x ∈ ls, x < n := fun x hx => hl x (List.mem_cons_of_mem _ hx)
    have hkl : ∀ x ∈ ks ++ [l], x < n := fun x hx => by
      rcases List.mem_append.mp hx with z | z
      · exact hk x z
      · have : x = l := List.mem_singleton.mp z
        omega
    have e3 : (0 :: ks.map (· + 1)) ++ [l + 1] = 0 :: (ks ++ [l]).map (· + 1) := by simp
    have b3 : ∀ x ∈ (0 :: ks.map (· + 1)) ++ [l + 1], x < n + 1 := fun x hx => by
      rw [e3] at hx
      rcases List.mem_cons.mp hx with z | z
      · omega
      · obtain ⟨y, hy, rfl⟩ := List.mem_map.mp z
        have := hkl y hy
        omega
    have r1 := reason_iff h.sk f1 hkl
    have r3 := reason_iff h.sk3 f3 b3
    rw [e3, h.solv hkl, ← r1] at r3
    rw [List.map_cons, Lbl.keptL, Lbl.keptL, e3]
    by_cases c : Lbl.reason F n (ks ++ [l]) l = none
    · rw [if_pos c, if_pos (r3.mpr c)]
      have g1 : ∃ f, Good F n (ks ++ [l]) f := r1.mp c
      obtain ⟨g, G3⟩ := (h.solv hkl).mpr g1
      obtain ⟨f, G1⟩ := g1
      exact Blk.keptL h ls (ks ++ [l]) hl2 hkl G1.fine G3.fine
    · rw [if_neg c, if_neg (fun w => c (r3.mp w))]
      exact Blk.keptL h ls ks hl2 hk f1 f3
theorem Blk.kept (h : Blk F F3 n β) : Lbl.kept F3 (n + 1) = 0 :: (Lbl.kept F n).map (· + 1) := by
  have G0 : Good F3 (n + 1) ([] ++ [0]) fun _ => false := ⟨fun l hl e he hF => by
    have h1 : l = 0 := by simpa using hl
    have h2 : e.1 = 0 := by simpa using he
    obtain ⟨e1, b⟩ := e
    simp only at h2
    subst h1 h2
    rw [h.own0] at hF; cases hF⟩
  have r0 : Lbl.reason F3 (n + 1) ([] ++ [0]) 0 = none := (reason_iff h.sk3 (fun l hl => by cases hl) (fun m hm => by
    have : m = 0 := by simpa using hm
    omega)).mpr ⟨_, G0⟩
  have := h.keptL (List.range n) [] (fun l hl => List.mem_range.mp hl) (fun l hl => by cases hl) (fun l hl => by cases hl) G0.fine
  unfold Lbl.kept
  rw [List.range_succ_eq_map, Lbl.keptL, r0, if_pos rfl]
  exact this
theorem Blk.least (h : Blk F F3 n β) {f : Nat → Bool} (hf : Least F n (Lbl.kept F n) f) : Least F3 (n + 1) (Lbl.kept F3 (n + 1)) (g0 f) := by
  rw [h.kept]
  refine ⟨(h.good kept_lt _).mpr (by rw [g0_s]; exact hf.good), fun g hg l hl hb hgl => ?_⟩
  cases l with
  | zero => rfl
  | succ l =>
    have hl' : l ∈ Lbl.kept F n := mem0.mp hl
    show g0 f (l + 1) = false
    have : g0 f (l + 1) = f l := congrFun (g0_s f) l
    rw [this]
    refine hf.le _ ((h.good kept_lt g).mp hg) l hl' (fun m hm hlt => ?_) hgl
    have h2 := hb (m + 1) (mem0.mpr hm) (by omega)
    rw [h2]
    exact congrFun (g0_s f) m
end
end K74

set_option Elab.async false
set_option linter.all false
set_option maxRecDepth 100000
namespace K74
open PySem PySem.Spec PyProof.Rows L2 Cs Lbl
/-! ### problems made of a problem -/
def Pb.part (p : Pb) (m : Nat) : Pb := ⟨p.area, p.obs, p.lbs.take m⟩
def Pb.ins (p : Pb) (q : Nat) (r : Rc × Rc) : Pb := ⟨p.area, p.obs, p.lbs.take q ++ [r] ++ p.lbs.drop q⟩
def Pb.only (p : Pb) (ks : List Nat) : Pb := ⟨p.area, p.obs, ks.map fun l => p.lbs.getD l default⟩
theorem frc_of {p p' : Pb} {φ : Nat → Nat} (hi : ∀ a b, φ a = φ b → a = b) (ha : p'.area = p.area) (ho : p'.obs = p.obs) {c d : Ch} (hc : p'.lbs.getD (φ c.1) default = p.lbs.getD c.1 default) (hd : p'.lbs.getD (φ d.1) default = p.lbs.getD d.1 default) : frcB p' (cm φ c) (cm φ d) = frcB p c d := by
  have r : ∀ c : Ch, p'.lbs.getD (φ c.1) default = p.lbs.getD c.1 default → rcOf p' (cm φ c) = rcOf p c := fun c h => by
    unfold rcOf cm
    simp only [h]
  have fr : freeB p' (cm φ c) = freeB p c := by unfold freeB; rw [r c hc, ha, ho]
  have nd : neg (cm φ d) = cm φ (neg d) := rfl
  have e1 : (cm φ c).1 = (cm φ d).1 ↔ c.1 = d.1 := ⟨hi _ _, fun e => by show φ c.1 = φ d.1; rw [e]⟩
  unfold frcB
  rw [fr, nd, r c hc, r (neg d) hd]
  simp only [e1]
  rfl
theorem FP_of {p p' : Pb} {φ : Nat → Nat} (hi : ∀ a b, φ a = φ b → a = b) (ha : p'.area = p.area) (ho : p'.obs = p.obs) {c d : Ch} (hc : c.1 < p.lbs.length) (hd : d.1 < p.lbs.length) (hc' : φ c.1 < p'.lbs.length) (hd' : φ d.1 < p'.lbs.length)
    (ec : p'.lbs.getD (φ c.1) default = p.lbs.getD c.1 default) (ed : p'.lbs.getD (φ d.1) default = p.lbs.getD d.1 default) : FP p' (cm φ c) (cm φ d) = FP p c d := by
  unfold FP
  have h1 : (cm φ c).1 < p'.lbs.length := hc'
  have h2 : (cm φ d).1 < p'.lbs.length := hd'
  rw [decide_eq_true h1, decide_eq_true h2, decide_eq_true hc, decide_eq_true hd, frc_of hi ha ho ec ed]
theorem cm_id (c : Ch) : cm id c = c := rfl
theorem part_len {p : Pb} {m : Nat} (h : m ≤ p.lbs.length) : (p.part m).lbs.length = m := by
  unfold Pb.part
  simp only [List.length_take]; omega
theorem FP_part {p : Pb} {m : Nat} (h : m ≤ p.lbs.length) : ∀ c d : Ch, c.1 < m → d.1 < m → FP p c d = FP (p.part m) c d := fun c d hc hd => by
  have g : ∀ l, l < m → p.lbs.getD l default = (p.part m).lbs.getD l default := fun l hl => by
    unfold Pb.part
    rw [List.getD_eq_getElem?_getD, List.getD_eq_getElem?_getD, List.getElem?_take_of_lt hl]
  have pl := part_len h
  have := FP_of (p := p.part m) (p' := p) (φ := id) (fun _ _ e => e) rfl rfl (c := c) (d := d) (by omega) (by omega) (show c.1 < _ by omega) (show d.1 < _ by omega) (g c.1 hc) (g d.1 hd)
  rwa [cm_id, cm_id] at this
theorem ins_len {p : Pb} {q : Nat} (r : Rc × Rc) (h : q ≤ p.lbs.length) : (p.ins q r).lbs.length = p.lbs.length + 1 := by
  unfold Pb.ins
  simp only [List.length_append, List.length_take, List.length_drop, List.length_singleton]; omega
theorem ins_get {p : Pb} {q l : Nat} (r : Rc × Rc) (h : q ≤ p.lbs.length) (hl : l < p.lbs.length) : (p.ins q r).lbs.getD (up q l) default = p.lbs.getD l default := by
  unfold Pb.ins up
  rw [List.getD_eq_getElem?_getD, List.getD_eq_getElem?_getD]
  congr 1
  split
  · rename_i z
    rw [List.append_assoc, List.getElem?_append_left (by rw [List.length_take]; omega), List.getElem?_take_of_lt z]
  · rename_i z
    have e : (p.lbs.take q ++ [r]).length = q + 1 := by rw [List.length_append, List.length_take, List.length_singleton]; omega
    rw [List.getElem?_append_right (by omega), e, List.getElem?_drop]
    congr 1; omega
theorem ins_at {p : Pb} {q : Nat} (r : Rc × Rc) (h : q ≤ p.lbs.length) : (p.ins q r).lbs.getD q default = r := by
  unfold Pb.ins
  have e : (p.lbs.take q).length = q := by rw [List.length_take]; omega
  rw [List.getD_eq_getElem?_getD, List.append_assoc, List.getElem?_append_right (by omega), e, Nat.sub_self]
  rfl
theorem far_ins {p : Pb} {q : Nat} {r : Rc × Rc} (h : q ≤ p.lbs.length) (h1 : inB r.1 p.area = false) (h2 : inB r.2 p.area = false) : Far (FP p) (FP (p.ins q r)) p.lbs.length q := by
  refine ⟨h, fun c d hc hd => ?_, fun b => ?_⟩
  · have il := ins_len r h
    have hu : ∀ a, a < p.lbs.length → up q a < (p.ins q r).lbs.length := fun a ha => by rw [il]; unfold up; split <;> omega
    exact FP_of (p := p) (p' := p.ins q r) (up_inj q) rfl rfl hc hd (hu _ hc) (hu _ hd) (ins_get r h hc) (ins_get r h hd)
  · have hq : q < (p.ins q r).lbs.length := by rw [ins_len r h]; omega
    have hf : freeB (p.ins q r) (q, b) = false := by
      unfold freeB rcOf
      simp only [ins_at r h]
      have : (p.ins q r).area = p.area := rfl
      rw [this]
      cases b
      · simp [h1]
      · simp [h2]
    unfold FP frcB
    simp [hq, hf]
theorem alone_only (p : Pb) : Alone (FP p) (FP (p.only (kept (FP p) p.lbs.length))) p.lbs.length := ⟨fun c d hc hd => by
  have ol : (p.only (kept (FP p) p.lbs.length)).lbs.length = (kept (FP p) p.lbs.length).length := by unfold Pb.only; simp
  have g : ∀ i, i < (kept (FP p) p.lbs.length).length → p.lbs.getD (pick (kept (FP p) p.lbs.length) p.lbs.length i) default = (p.only (kept (FP p) p.lbs.length)).lbs.getD i default := fun i hi => by
    rw [pick_get hi]
    unfold Pb.only
    rw [List.getD_eq_getElem?_getD (l := List.map _ _), List.getElem?_map, List.getElem?_eq_getElem hi]
    rfl
  have pk : ∀ i, i < (kept (FP p) p.lbs.length).length → pick (kept (FP p) p.lbs.length) p.lbs.length i < p.lbs.length := fun i hi => by
    rw [pick_get hi]; exact kept_lt _ (List.getElem_mem hi)
  exact FP_of (p := p.only (kept (FP p) p.lbs.length)) (p' := p) (pick_inj (FP p) p.lbs.length) rfl rfl (by omega) (by omega) (pk _ hc) (pk _ hd) (g _ hc) (g _ hd)⟩
section
variable {ns : List Int} {k n : Nat} {t : Tp} {W : Sto} {Q : D → Sto → Prop}
/-- placing, said shortly -/
theorem c_put {p : Pb} (hn : p.lbs.length ≤ 20) (h : ∀ sF, sidesL (FP p) p.lbs.length (kept (FP p) p.lbs.length) (kept (FP p) p.lbs.length) [] = some sF → (∀ l ∈ kept (FP p) p.lbs.length, l ∈ sF.map (·.1)) →
    Q (.tup ((List.range p.lbs.length).map (told (FP p) p.lbs.length (getS sF)))) (tp (ns.map .int) t ++ W)) : wp (callF tab G (k + 6) "place_labels" [p.d] (tp (ns.map .int) t ++ W)) Q := by
  obtain ⟨sF, hF, hall, _⟩ := sides_ex (FP_skew p)
  exact c_place (by omega) hF hall (h sF hF hall)
theorem cut_take {xs : List D} {i : Nat} (h : i ≤ xs.length) : Cs.cutD xs none (some (i : Int)) = xs.take i := by
  unfold Cs.cutD
  rw [HT.sIx_none, HT.sIx_nat]
  simp only [List.drop_zero, Nat.sub_zero]
  congr 1; omega
theorem cut_drop {xs : List D} {i : Nat} (h : i ≤ xs.length) : Cs.cutD xs (some (i : Int)) none = xs.drop i := by
  unfold Cs.cutD
  rw [HT.sIx_none, HT.sIx_nat, Nat.min_eq_left h]
  exact List.take_of_length_le (by rw [List.length_drop]; omega)
theorem getL_mid (J L : Sto) (xs : List D) : getL (J ++ .lst xs :: L) J.length = some xs := by
  unfold getL; rw [List.getElem?_append_right (Nat.le_refl _), Nat.sub_self]; rfl
theorem getM_mid (J L : Sto) (xs : List D) : getM (J ++ .lst xs :: L) J.length = some xs := by
  unfold getM; rw [List.getElem?_append_right (Nat.le_refl _), Nat.sub_self]; rfl
theorem set_mid (J L : Sto) (x y : SO) : (J ++ x :: L).set J.length y = J ++ y :: L := by
  rw [List.set_append_right _ _ (Nat.le_refl _), Nat.sub_self]; rfl
theorem rD_pure : ∀ r, (rD r).pure = true
  | none => rfl
  | some (a, b) => by simp [rD, D.pure, D.pureL, pureL_ch]
/-! renumbering -/
def vD (l : List Ch) : D := .tup (l.map chD)
def ChI (ns : List Int) (t : Tp) (W J : Sto) (q : Nat) (cs : List Ch) (xs : List D) (S : Sto) : Prop :=
  ∃ (ds os : List Ch), cs = ds ++ os ∧ xs = os.map chD ∧ S = tp (ns.map .int) t ++ (W ++ (J ++ [.lst (ds.map fun c => chD (cm (up q) c))]))
def CsI (ns : List Int) (t : Tp) (W J : Sto) (q : Nat) (a b c d : Option D) (m : Nat) (cs : List (List Ch)) (xs : List D) (env : Ev) (S : Sto) : Prop :=
  ∃ (ds os : List (List Ch)) (o5 : Option D) (J' : Sto), cs = ds ++ os ∧ xs = os.map vD ∧ env = [a, b, c, d, some (.loc (ad W m)), o5, none] ∧
    S = tp (ns.map .int) t ++ (W ++ (J ++ (.lst (ds.map fun l => vD (l.map (cm (up q)))) :: J')))
def RnI (ns : List Int) (t : Tp) (W : Sto) (F : Ch → Ch → Bool) (n : Nat) (f : Nat → Bool) (q : Nat) (a b : Option D) (xs : List D) (env : Ev) (S : Sto) : Prop :=
  ∃ (ds ls : List Nat) (o3 o4 o5 : Option D) (J : Sto), List.range n = ds ++ ls ∧ xs = ls.map (told F n f) ∧ env = [a, b, some (.loc (ad W 0)), o3, o4, o5, none] ∧
    S = tp (ns.map .int) t ++ (W ++ (.lst (ds.map (toldUp F n f q)) :: J))
theorem c_renum {F : Ch → Ch → Bool} {f : Nat → Bool} {q : Nat} {j : Int} (hj : j = q) (hn : n ≤ 20) (hq : q ≤ n)
    (h : Q (.loc (ad W 0)) (tp (ns.map .int) t ++ (W ++ [.lst ((List.range n).map (toldUp F n f q))]))) :
    wp (callF tab G (k + 1) "_law_renumbered" [.tup ((List.range n).map (told F n f)), .int j] (tp (ns.map .int) t ++ W)) Q := by
  subst hj
  rw [callF_succ (by decide) rfl]
  refine wp_run rfl rfl ?_
  simp [d_law_renumbered, start']
  refine wp_forQ (I := RnI ns t W F n f q _ _) ?_ ?_ ?_ _ _ _ ⟨[], List.range n, _, _, _, [], rfl, rfl, rfl, rfl⟩
  · intros; exact still_nil _
  · rintro x xs env S ⟨ds, ls, o3, o4, o5, J, e, hX, rfl, rfl⟩
    cases ls with
    | nil => cases hX
    | cons l ls =>
      cases hX
      refine ⟨_, rfl, ?_⟩
      have hl : l < n := List.mem_range.mp (by rw [e]; simp)
      have hz : ds.length < sizeLine := by rw [sizeLine_eq]; have := congrArg List.length e; rw [List.length_append, List.length_range] at this; omega
      obtain ⟨i1, _, i3⟩ := isi_int (F := F) f hl (tp (ns.map D.int) t ++ (W ++ (.lst (ds.map (toldUp F n f q)) :: J)))
      have nx : ∀ o3 o4 o5 J, RnI ns t W F n f q (some (.tup ((List.range n).map (told F n f)))) (some (nD q)) (ls.map (told F n f)) [some (.tup ((List.range n).map (told F n f))), some (nD q), some (.loc (ad W 0)), o3, o4, o5, none] (tp (ns.map .int) t ++ (W ++ (.lst ((ds ++ [l]).map (toldUp F n f q)) :: J))) :=
        fun o3 o4 o5 J => ⟨ds ++ [l], ls, o3, o4, o5, J, by rw [e]; simp, rfl, rfl, rfl⟩
      by_cases d : l ∈ kept F n
      · simp only [d, decide_true, Bool.not_true] at i3
        simp [i1, i3, hz]
        have ht : told F n f l = toldUp F n f q l := by unfold told toldUp; rw [if_pos d, if_pos d]
        have := nx (some (told F n f l)) o4 o5 J
        rw [ht]
        rw [ht] at this
        simpa using this
      · simp only [d, decide_false, Bool.not_false] at i3
        obtain ⟨a, b, hw⟩ := why_some hl d
        obtain ⟨ca, cb⟩ := why_chn (by omega) hw
        have ht : told F n f l = .tup ([a, b].map vD) := by unfold told; rw [if_neg d, hw]; rfl
        have hu : toldUp F n f q l = .tup ([a, b].map fun l => vD (l.map (cm (up q)))) := by unfold toldUp; rw [if_neg d, hw]; rfl
        simp [i1, i3]
        rw [ht]
        simp only [items_tup, lift_some, wp_some]
        have lens : ∀ c ∈ [a, b], c.length ≤ 200 := by
          intro c hc
          have := ca.sz
          have := cb.sz
          simp at hc
          rcases hc with rfl | rfl <;> omega
        generalize hcs : [a, b] = cs at *
        have hcl : cs.length = 2 := by rw [← hcs]; rfl
        refine wp_forQ (I := CsI ns t W (.lst (ds.map (toldUp F n f q)) :: J) q _ _ _ _ (J.length + 1) cs) ?_ ?_ ?_ _ _ _ ⟨[], cs, _, [], rfl, rfl, rfl, by simp⟩
        · intros; exact still_nil _
        · rintro x2 xs2 env S ⟨ds2, os2, o5', J', e2, hX, rfl, rfl⟩
          cases os2 with
          | nil => cases hX
          | cons c os2 =>
            cases hX
            refine ⟨_, rfl, ?_⟩
            have hcc := lens c (by rw [e2]; simp)
            have it : ∀ S, items .seq [vD c] S = some (c.map chD, []) := fun S => rfl
            generalize hJ2 : SO.lst (ds.map (toldUp F n f q)) :: J ++ SO.lst (ds2.map fun l => vD (l.map (cm (up q)))) :: J' = J2
            have j1 : getL J2 (J.length + 1) = some (ds2.map fun l => vD (l.map (cm (up q)))) := by rw [← hJ2]; show getL (J ++ _) _ = _; exact getL_mid ..
            have j2 : getM J2 (J.length + 1) = some (ds2.map fun l => vD (l.map (cm (up q)))) := by rw [← hJ2]; show getM (J ++ _) _ = _; exact getM_mid ..
            simp [j1, it]
            refine wp.mono (wp_lcL (I := ChI ns t W J2 q c) (Q := fun S => S = tp (ns.map .int) t ++ (W ++ (J2 ++ [.lst (c.map fun c => chD (cm (up q) c))]))) ?_ ?_ ?_ _ _ ⟨[], c, rfl, rfl, rfl⟩) ?_
            · intros; exact still_nil _
            · rintro x3 xs3 S ⟨ds3, os3, e3, hX, rfl⟩
              cases os3 with
              | nil => cases hX
              | cons y os3 =>
                cases hX
                refine ⟨_, rfl, ?_⟩
                have hz3 : ds3.length < sizeLine := by rw [sizeLine_eq]; have := congrArg List.length e3; rw [List.length_append] at this; omega
                have hy : D.tup [.int ((y.1 : Int) + if q ≤ y.1 then 1 else 0), .int (sd y.2)] = chD (cm (up q) y) := by
                  unfold chD cm up
                  by_cases z : y.1 < q
                  · rw [if_neg (by omega)]; simp [z]
                  · rw [if_pos (by omega)]; simp [z]
                simp [wipeE, Tg.slots, ch0, ch1, hz3]
                simp only [hy]
                exact ⟨ds3 ++ [y], os3, by rw [e3]; simp, rfl, by simp⟩
            · rintro S ⟨ds3, os3, e3, hX, rfl⟩
              cases os3 with
              | cons _ _ => cases hX
              | nil => rw [e3, List.append_nil]
            · rintro _ S rfl
              have hz2 : ds2.length < sizeLine := by rw [sizeLine_eq]; have := congrArg List.length e2; rw [List.length_append] at this; omega
              have j3 : getM (J2 ++ [.lst (c.map fun c => chD (cm (up q) c))]) (J.length + 1) = some (ds2.map fun l => vD (l.map (cm (up q)))) := by
                rw [← hJ2]; show getM ((J ++ _) ++ _) _ = _; rw [List.append_assoc]; exact getM_mid ..
              simp [j3, hz2]
              have hset : (J2 ++ [SO.lst (c.map fun c => chD (cm (up q) c))]).set (J.length + 1) (.lst ((ds2.map fun l => vD (l.map (cm (up q)))) ++ [.tup (c.map fun c => chD (cm (up q) c))])) =
                  (SO.lst (ds.map (toldUp F n f q)) :: J) ++ SO.lst ((ds2 ++ [c]).map fun l => vD (l.map (cm (up q)))) :: (J' ++ [SO.lst (c.map fun c => chD (cm (up q) c))]) := by
                rw [← hJ2]
                show SO.lst _ :: ((J ++ _) ++ _).set J.length _ = _
                rw [List.append_assoc, List.cons_append, set_mid]
                simp [vD]
              rw [hset]
              exact ⟨ds2 ++ [c], os2, _, _, by rw [e2]; simp, rfl, rfl, rfl⟩
        · rintro env S ⟨ds2, os2, o5', J', e2, hX, rfl, rfl⟩
          cases os2 with
          | cons _ _ => cases hX
          | nil =>
            rw [List.append_nil] at e2
            subst e2
            generalize hJ2 : SO.lst (ds.map (toldUp F n f q)) :: J ++ SO.lst (cs.map fun l => vD (l.map (cm (up q)))) :: J' = J2
            have j1 : getL J2 (J.length + 1) = some (cs.map fun l => vD (l.map (cm (up q)))) := by rw [← hJ2]; show getL (J ++ _) _ = _; exact getL_mid ..
            have j2 : getM J2 0 = some (ds.map (toldUp F n f q)) := by rw [← hJ2]; rfl
            have j3 : getL J2 0 = some (ds.map (toldUp F n f q)) := by rw [← hJ2]; rfl
            simp [j1, j2, j3, hz]
            rw [← hu]
            have hset : J2.set 0 (.lst (ds.map (toldUp F n f q) ++ [toldUp F n f q l])) = SO.lst ((ds ++ [l]).map (toldUp F n f q)) :: (J ++ SO.lst (cs.map fun l => vD (l.map (cm (up q)))) :: J') := by
              rw [← hJ2]; simp
            rw [hset]
            exact nx _ _ _ _
  · rintro env S ⟨ds, ls, o3, o4, o5, J, e, hX, rfl, rfl⟩
    cases ls with
    | cons _ _ => cases hX
    | nil =>
      rw [List.append_nil] at e
      subst e
      simp
      refine wp_fin_tpL (i := 0) rfl (pureL_iff.mpr fun d hd => ?_) h
      obtain ⟨l, _, rfl⟩ := List.mem_map.mp hd
      unfold toldUp
      split
      · rfl
      · exact rD_pure _
end
end K74

set_option Elab.async false
set_option linter.all false
set_option maxRecDepth 100000
namespace K74
open PySem PySem.Spec PyProof.Rows L2 Cs Lbl
@[simp] theorem trOp_tup (xs : List D) (S : Sto) : trOp (.tup xs) S = some (.tup xs.reverse, S) := rfl
section
variable {ns : List Int} {k n : Nat} {t : Tp} {W S : Sto} {Q : D → Sto → Prop}
theorem c_linside {a b : Rc} (h : Q (.bl (inB a b)) S) : wp (callF tab G (k + 1) "_law_inside" [a.d, b.d] S) Q := by
  rw [callF_succ (by decide) rfl]
  refine wp_run rfl rfl ?_
  unfold inB at h
  by_cases h1 : a.x < b.x
  · rw [decide_eq_false (by omega)] at h
    simp [d_law_inside, start', Rc.d, h1]
    exact wp_fin_same rfl h
  by_cases h2 : a.y < b.y
  · rw [decide_eq_false (by omega)] at h
    simp [d_law_inside, start', Rc.d, h1, h2]
    exact wp_fin_same rfl h
  by_cases h3 : b.x + b.w < a.x + a.w
  · rw [decide_eq_false (by omega)] at h
    simp [d_law_inside, start', Rc.d, h1, h2, h3]
    exact wp_fin_same rfl h
  · simp [d_law_inside, start', Rc.d, h1, h2, h3]
    refine wp_fin_same rfl ?_
    have : decide (b.x ≤ a.x ∧ b.y ≤ a.y ∧ a.x + a.w ≤ b.x + b.w ∧ a.y + a.h ≤ b.y + b.h) = decide (a.y + a.h ≤ b.y + b.h) := by rw [decide_eq_decide]; omega
    rwa [this] at h
theorem c_loverlap {a b : Rc} (h : Q (.bl (ovB a b)) S) : wp (callF tab G (k + 1) "_law_overlap" [a.d, b.d] S) Q := by
  rw [callF_succ (by decide) rfl]
  refine wp_run rfl rfl ?_
  simp [d_law_overlap, start', Rc.d]
  generalize hl : (if a.x < b.x then b.x else a.x) = l
  generalize ht : (if a.y < b.y then b.y else a.y) = t
  generalize hr : (if b.x + b.w < a.x + a.w then b.x + b.w else a.x + a.w) = r
  generalize hw : (if b.y + b.h < a.y + a.h then b.y + b.h else a.y + a.h) = w
  have key : ovB a b = decide (l < r ∧ t < w) := by
    unfold ovB
    rw [decide_eq_decide]
    omega
  rw [key] at h
  by_cases h1 : l < r
  · simp [h1] at h
    simp [h1]
    exact wp_fin_same rfl h
  · simp [h1] at h
    simp [h1]
    exact wp_fin_same rfl h
def LfI (S : Sto) (a b : Option D) (one : Rc) (obs : List Rc) (xs : List D) (env : Ev) (S' : Sto) : Prop :=
  ∃ (os : List Rc) (o : Option D), xs = os.map Rc.d ∧ (obs.all fun o => !ovB one o) = (os.all fun o => !ovB one o) ∧ env = [a, b, o] ∧ S' = S
theorem c_lfree {A one : Rc} {obs : List Rc} {x : D} (h : Q (.bl (inB one A && obs.all fun o => !ovB one o)) S) : wp (callF tab G (k + 2) "_law_free" [.tup [A.d, .tup (obs.map Rc.d), x], one.d] S) Q := by
  rw [callF_succ (by decide) rfl]
  refine wp_run rfl rfl ?_
  simp [d_law_free, start']
  refine c_linside ?_
  cases hi : inB one A with
  | false =>
    rw [hi] at h
    simp
    exact wp_fin_same rfl h
  | true =>
    rw [hi, Bool.true_and] at h
    simp
    refine wp_forQ (I := LfI S _ _ one obs) ?_ ?_ ?_ _ _ _ ⟨obs, none, rfl, rfl, rfl, rfl⟩
    · intros; exact still_nil _
    · rintro x xs env S' ⟨os, o, hX, ho, rfl, rfl⟩
      cases os with
      | nil => cases hX
      | cons y os =>
        cases hX
        refine ⟨_, rfl, ?_⟩
        simp
        refine c_loverlap ?_
        cases hy : ovB one y with
        | true =>
          simp
          refine wp_fin_same rfl ?_
          rw [ho] at h
          simp only [List.all_cons, hy, Bool.not_true, Bool.false_and] at h
          exact h
        | false =>
          simp
          exact ⟨os, _, rfl, by rw [ho]; simp only [List.all_cons, hy, Bool.not_false, Bool.true_and], rfl, rfl⟩
    · rintro env S' ⟨os, o, hX, ho, rfl, rfl⟩
      cases os with
      | cons _ _ => cases hX
      | nil =>
        simp
        refine wp_fin_same rfl ?_
        rw [ho] at h
        exact h
theorem cut_take' {xs : List D} {i : Nat} {j : Int} (hj : j = i) (h : i ≤ xs.length) (S : Sto) : slop (.tup xs) none (some j) S = some (.tup (xs.take i), S) := by
  show some (D.tup (Cs.cutD _ _ _), S) = _
  rw [hj, cut_take h]
theorem cut_drop' {xs : List D} {i : Nat} {j : Int} (hj : j = i) (h : i ≤ xs.length) (S : Sto) : slop (.tup xs) (some j) none S = some (.tup (xs.drop i), S) := by
  show some (D.tup (Cs.cutD _ _ _), S) = _
  rw [hj, cut_drop h]
theorem c_lalone {p : Pb} {i : Nat} {j : Int} {b : Rc} (hj : j = i) (ho : p.obs.length ≤ 100) (hb : p.obs[i]? = some b) (h : Q (.bl (inB b p.area && (p.obs.take i ++ p.obs.drop (i + 1)).all fun o => !ovB b o)) S) :
    wp (callF tab G (k + 3) "_law_alone" [p.d, .int j] S) Q := by
  rw [callF_succ (by decide) rfl]
  refine wp_run rfl rfl ?_
  have hi : i < p.obs.length := (List.getElem?_eq_some_iff.mp hb).1
  have e0 : ∀ S, iop p.d (.int 0) S = some (p.area.d, S) := fun S => by simp [Pb.d]
  have e1 : ∀ S, iop p.d (.int 1) S = some (.tup (p.obs.map Rc.d), S) := fun S => by simp [Pb.d]
  have s1 := cut_take' (xs := p.obs.map Rc.d) hj (by simp; omega)
  have s2 := cut_drop' (xs := p.obs.map Rc.d) (j := j + 1) (i := i + 1) (by omega) (by simp; omega)
  rw [← List.map_take] at s1
  rw [← List.map_drop] at s2
  have sz := bop_tup (a := (p.obs.take i).map Rc.d) (b := (p.obs.drop (i + 1)).map Rc.d) (by rw [sizeLine_eq]; simp; omega)
  rw [← List.map_append] at sz
  have at1 : atI (p.obs.map Rc.d) j = some b.d := by rw [hj]; exact atI_map hb
  simp [-List.map_take, -List.map_drop, -List.map_append, d_law_alone, start', e0, e1, bndE, isNonE, s1, s2, sz, at1]
  refine c_lfree ?_
  exact wp_fin_same rfl h
end
end K74

set_option Elab.async false
set_option linter.all false
set_option maxRecDepth 100000
namespace K74
open PySem PySem.Spec PyProof.Rows L2 Cs Lbl
theorem clear_ins {p : Pb} {q : Nat} {r : Rc × Rc} (h : q ≤ p.lbs.length) (hf : inB r.1 p.area = true ∧ ∀ o ∈ p.obs, ovB r.1 o = false) (hno : ∀ l ∈ p.lbs, ovB r.1 l.1 = false ∧ ovB r.1 l.2 = false) : Clear (FP p) (FP (p.ins q r)) p.lbs.length q := by
  have il := ins_len r h
  have hu : ∀ a, a < p.lbs.length → up q a < (p.ins q r).lbs.length := fun a ha => by rw [il]; unfold up; split <;> omega
  have r0 : rcOf (p.ins q r) (q, false) = r.1 := by unfold rcOf; simp only [ins_at r h]; rfl
  have fr : freeB (p.ins q r) (q, false) = true := by
    unfold freeB
    rw [r0]
    have e1 : (p.ins q r).area = p.area := rfl
    have e2 : (p.ins q r).obs = p.obs := rfl
    rw [e1, e2, hf.1, Bool.true_and, List.all_eq_true]
    intro o ho
    rw [hf.2 o ho]; rfl
  have out : ∀ e, FP (p.ins q r) (q, false) e = false := fun e => by
    obtain ⟨m', b⟩ := e
    unfold FP frcB
    by_cases hm : m' < (p.ins q r).lbs.length
    · by_cases hq : q = m'
      · subst hq
        rw [if_pos rfl, fr]; simp
      · rw [if_neg hq, r0]
        rcases up_cases q m' with e | ⟨m, rfl⟩
        · exact absurd e.symm hq
        · have hmn : m < p.lbs.length := by rw [il] at hm; unfold up at hm; have := h; split at hm <;> omega
          have hg := ins_get r h hmn
          have mem : p.lbs.getD m default ∈ p.lbs := by rw [List.getD_eq_getElem?_getD, List.getElem?_eq_getElem hmn]; exact List.getElem_mem hmn
          have hh := hno _ mem
          have : ovB r.1 (rcOf (p.ins q r) (neg (up q m, b))) = false := by
            unfold rcOf neg
            simp only [hg]
            cases b
            · exact hh.2
            · exact hh.1
          rw [this]; simp
    · simp [hm]
  refine ⟨h, fun c d hc hd => FP_of (p := p) (p' := p.ins q r) (up_inj q) rfl rfl hc hd (hu _ hc) (hu _ hd) (ins_get r h hc) (ins_get r h hd), out, fun c => ?_⟩
  cases e : FP (p.ins q r) c (q, true) with
  | false => rfl
  | true =>
    have b : c.1 < (p.ins q r).lbs.length ∧ q < (p.ins q r).lbs.length := by
      unfold FP at e
      rw [Bool.and_eq_true, Bool.and_eq_true, decide_eq_true_eq, decide_eq_true_eq] at e
      exact ⟨e.1, e.2.1⟩
    have := (FP_skew (p.ins q r)).sk c (q, true) b.1 b.2 e
    rw [show neg (q, true) = (q, false) from rfl, out] at this
    cases this
def Pb.turn (p : Pb) (i : Nat) (b : Rc) : Pb := ⟨p.area, p.obs.take i ++ p.obs.drop (i + 1), (b, b) :: p.lbs⟩
theorem blk_turn {p : Pb} {i : Nat} {b : Rc} (hb : p.obs[i]? = some b) (hf : (inB b p.area && (p.obs.take i ++ p.obs.drop (i + 1)).all fun o => !ovB b o) = true) :
    Blk (FP p) (FP (p.turn i b)) p.lbs.length (fun c => ovB (rcOf p c) b) := by
  have len : (p.turn i b).lbs.length = p.lbs.length + 1 := rfl
  have hi : i < p.obs.length := (List.getElem?_eq_some_iff.mp hb).1
  have rs : ∀ c : Ch, rcOf (p.turn i b) (su c) = rcOf p c := fun c => by
    unfold rcOf su Pb.turn
    simp only [List.getD_cons_succ]
  have r0 : ∀ a, rcOf (p.turn i b) (0, a) = b := fun a => by
    unfold rcOf Pb.turn
    simp only [List.getD_cons_zero]
    cases a <;> rfl
  have split : ∀ P : Rc → Bool, p.obs.all P = ((p.obs.take i ++ p.obs.drop (i + 1)).all P && P b) := fun P => by
    have e : p.obs = p.obs.take i ++ b :: p.obs.drop (i + 1) := by
      have hg : p.obs[i] = b := by rw [List.getElem?_eq_getElem hi] at hb; exact Option.some.inj hb
      rw [← hg, List.getElem_cons_drop, List.take_append_drop]
    conv => lhs; rw [e]
    rw [List.all_append, List.all_append, List.all_cons]
    cases (List.take i p.obs).all P <;> cases (List.drop (i + 1) p.obs).all P <;> cases P b <;> rfl
  have fr : ∀ c : Ch, freeB p c = (freeB (p.turn i b) (su c) && !ovB (rcOf p c) b) := fun c => by
    unfold freeB
    rw [rs, split]
    have e1 : (p.turn i b).area = p.area := rfl
    have e2 : (p.turn i b).obs = p.obs.take i ++ p.obs.drop (i + 1) := rfl
    rw [e1, e2, Bool.and_assoc]
  have sl : ∀ c : Ch, c.1 < p.lbs.length → (su c).1 < (p.turn i b).lbs.length := fun c hc => by rw [len]; show c.1 + 1 < _; omega
  have z : 0 < (p.turn i b).lbs.length := by rw [len]; omega
  refine ⟨FP_skew p, by have := FP_skew (p.turn i b); rwa [len] at this, fun c d hc hd hne => ?_, fun c hc => ?_, fun c a hc => ?_, fun a c hc => ?_, fun a a' => ?_⟩
  · unfold FP frcB
    have n1 : ¬ (su c).1 = (su d).1 := fun e => hne (by have : c.1 + 1 = d.1 + 1 := e; omega)
    rw [decide_eq_true (sl c hc), decide_eq_true (sl d hd), decide_eq_true hc, decide_eq_true hd, if_neg n1, if_neg hne, rs, show neg (su d) = su (neg d) from rfl, rs]
  · have hn : (neg c).1 < p.lbs.length := hc
    have e1 : c.1 = (neg c).1 := rfl
    have e2 : (su c).1 = (su (neg c)).1 := rfl
    have ne : c.2 ≠ (neg c).2 := by cases c with | mk l x => cases x <;> simp [neg]
    have ne2 : (su c).2 ≠ (su (neg c)).2 := ne
    unfold FP frcB
    rw [decide_eq_true hc, decide_eq_true hn, decide_eq_true (sl c hc), decide_eq_true (sl (neg c) hn), if_pos e1, if_pos e2, fr c, decide_eq_true ne, decide_eq_true ne2]
    simp [Bool.not_and]
  · unfold FP frcB
    have n1 : ¬ (su c).1 = (0, a).1 := by show ¬ c.1 + 1 = 0; omega
    rw [decide_eq_true (sl c hc), if_neg n1, rs, show neg (0, a) = (0, !a) from rfl, r0]
    have : decide ((0, a).1 < (p.turn i b).lbs.length) = true := decide_eq_true z
    rw [this]; rfl
  · unfold FP frcB
    have n1 : ¬ (0, a).1 = (su c).1 := by show ¬ 0 = c.1 + 1; omega
    have : decide ((0, a).1 < (p.turn i b).lbs.length) = true := decide_eq_true z
    rw [this, decide_eq_true (sl c hc), if_neg n1, r0, show neg (su c) = su (neg c) from rfl, rs, ovB_symm]; rfl
  · have f0 : freeB (p.turn i b) (0, a) = true := by
      unfold freeB
      rw [r0]; exact hf
    unfold FP frcB
    rw [if_pos rfl, f0]; simp
end K74

set_option Elab.async false
set_option linter.all false
set_option maxRecDepth 100000
namespace K74
open PySem PySem.Spec PyProof.Rows L2 Cs Lbl
theorem least_of {F : Ch → Ch → Bool} {n : Nat} (sk : Skew F n) {sF : List (Nat × Bool)} (h : sidesL F n (kept F n) (kept F n) [] = some sF) : Least F n (kept F n) (getS sF) :=
  sides_least sk (kept_fine sk).2 (kept_fine sk).1 (kept_asc F n) h
section
variable {F F' : Ch → Ch → Bool} {n q : Nat}
theorem Clear.told (h : Clear F F' n q) (sk : Skew F n) (sk' : Skew F' (n + 1)) {sF sG : List (Nat × Bool)} (hF : sidesL F n (Lbl.kept F n) (Lbl.kept F n) [] = some sF) (hG : sidesL F' (n + 1) (Lbl.kept F' (n + 1)) (Lbl.kept F' (n + 1)) [] = some sG) :
    (List.range (n + 1)).map (K74.told F' (n + 1) (getS sG)) = (List.range q).map (toldUp F n (getS sF) q) ++ [.int 0] ++ ((List.range (n - q)).map (q + ·)).map (toldUp F n (getS sF) q) := by
  have un := (least_of sk' hG).uniq (h.least (least_of sk hF))
  have one : ∀ l, l < n → K74.told F' (n + 1) (getS sG) (up q l) = toldUp F n (getS sF) q l := fun l hl => by
    unfold K74.told toldUp
    by_cases z : l ∈ Lbl.kept F n
    · have z' := (h.mem l).mpr z
      have e := un _ z'
      simp only [if_neg (up_ne q l), down_up] at e
      rw [if_pos z, if_pos z', e]
    · rw [if_neg z, if_neg (fun w => z ((h.mem l).mp w)), h.why hl]
  have hq : K74.told F' (n + 1) (getS sG) q = .int 0 := by
    have e := un _ h.memq
    simp only [if_true] at e
    unfold K74.told
    rw [if_pos h.memq, e]; rfl
  rw [range_up h.le, List.map_append, List.map_append, List.map_map, List.map_map]
  have h1 : (List.range q).map (K74.told F' (n + 1) (getS sG) ∘ up q) = (List.range q).map (toldUp F n (getS sF) q) := List.map_congr_left fun x hx => one x (by have := List.mem_range.mp hx; have := h.le; omega)
  have h2 : ((List.range (n - q)).map (q + ·)).map (K74.told F' (n + 1) (getS sG) ∘ up q) = ((List.range (n - q)).map (q + ·)).map (toldUp F n (getS sF) q) := List.map_congr_left fun x hx => by
    obtain ⟨y, hy, rfl⟩ := List.mem_map.mp hx
    have := List.mem_range.mp hy
    exact one _ (by omega)
  rw [h1, h2, List.map_cons, List.map_nil, hq]
def sideD (F : Ch → Ch → Bool) (n : Nat) (f : Nat → Bool) (l : Nat) : D := if l ∈ kept F n then .int (sd (f l)) else .non
theorem Blk.sides {F3 : Ch → Ch → Bool} {β : Ch → Bool} (h : Blk F F3 n β) {sF sG : List (Nat × Bool)} (hF : sidesL F n (Lbl.kept F n) (Lbl.kept F n) [] = some sF) (hG : sidesL F3 (n + 1) (Lbl.kept F3 (n + 1)) (Lbl.kept F3 (n + 1)) [] = some sG) :
    (List.range (n + 1)).map (sideD F3 (n + 1) (getS sG)) = .int 0 :: (List.range n).map (sideD F n (getS sF)) := by
  have un := (least_of h.sk3 hG).uniq (h.least (least_of h.sk hF))
  rw [List.range_succ_eq_map, List.map_cons, List.map_map]
  have hk := h.kept
  have m0 : 0 ∈ Lbl.kept F3 (n + 1) := by rw [hk]; simp
  have e0 : sideD F3 (n + 1) (getS sG) 0 = .int 0 := by
    unfold sideD
    rw [if_pos m0, un 0 m0]; rfl
  rw [e0]
  congr 1
  refine List.map_congr_left fun l _ => ?_
  show sideD F3 (n + 1) (getS sG) (l + 1) = _
  unfold sideD
  have hm : l + 1 ∈ Lbl.kept F3 (n + 1) ↔ l ∈ Lbl.kept F n := by rw [hk]; exact mem0
  by_cases z : l ∈ Lbl.kept F n
  · have e := un _ (hm.mpr z)
    have e2 : g0 (getS sF) (l + 1) = getS sF l := congrFun (g0_s (getS sF)) l
    rw [if_pos z, if_pos (hm.mpr z), e, e2]
  · rw [if_neg z, if_neg (fun w => z (hm.mp w))]
end
/-! shown and compared -/
theorem told_list_nc {F : Ch → Ch → Bool} {n : Nat} (f : Nat → Bool) (hn : n ≤ 20) : Nc 4 700000 (.tup ((List.range n).map (told F n f))) :=
  (Nc.tup (n := 3) (w := 30000) fun d hd => by
    obtain ⟨l, hl, rfl⟩ := List.mem_map.mp hd
    exact told_nc f hn (List.mem_range.mp hl)).mono (by omega) (by simp; omega)
@[simp] theorem mInsert_ad {W : Sto} (sc : List D) (t : Tp) (J : Sto) (i : Nat) (j : Int) (y : D) : mInsert (.loc (ad W i)) [.int j, y] (tp sc t ++ (W ++ J)) = match getM J i with
    | some xs => if xs.length < sizeLine ∧ 0 ≤ j ∧ j < 2 ^ 63 then some (.non, tp sc t ++ (W ++ J.set i (.lst (xs.take j.toNat ++ [y] ++ xs.drop j.toNat)))) else none
    | none => none := by
  simp only [mInsert, tp_getM, tp_set] <;> rfl
theorem due_eq {n a : Nat} (h : a ≤ n) (g : Nat → D) (y : D) : ((List.range n).map g).take a ++ [y] ++ ((List.range n).map g).drop a = (List.range a).map g ++ [y] ++ ((List.range (n - a)).map (a + ·)).map g := by
  obtain ⟨m, rfl⟩ : ∃ m, n = a + m := ⟨n - a, by omega⟩
  have e : ((List.range a).map g).length = a := by simp
  rw [List.range_add, List.map_append, Nat.add_sub_cancel_left, List.take_append_of_le_length (by omega), List.drop_append_of_le_length (by omega), List.take_of_length_le (by omega), List.drop_of_length_le (by omega), List.nil_append]
theorem sideD_nc {F : Ch → Ch → Bool} {n l : Nat} (f : Nat → Bool) : Nc 0 40 (sideD F n f l) := by
  unfold sideD
  split
  · exact .int (by unfold sd; split <;> decide) 0
  · exact ⟨rfl, by simp [D.py, PyData.canLay0], by simp [D.py, PyData.showable], by simp [D.py, PyData.intsShort], by simp [D.py, PyData.depth], by simp [D.py, PyData.weight]⟩
theorem repr_loc {n w m : Nat} {xs : List D} {S : Sto} (e : getL S m = some xs) (h : ∀ d ∈ xs, Nc n w d) (hn : n < 60) (hw : xs.length * (w + 1) ≤ 1000000) : bRepr [.loc m] S = some (.str (PyData.list (D.pyL xs)).shown, S) := by
  obtain ⟨h1, h2, h3, h4, h5, h6⟩ := NcL_facts h
  have hl : (PyData.list (D.pyL xs)).canLay0 = true := by simpa [PyData.canLay0] using h2
  have so : shOk (.list (D.pyL xs)) := by
    refine ⟨by simpa [PyData.showable] using h3, PyData.hasDict_of_canLay _ hl, by simp only [PyData.depth]; omega, ?_⟩
    have := PyData.shown_le 13 (by decide) (.list (D.pyL xs)) (PyData.leavesShort_of_canLay0 13 _ hl (by simpa [PyData.intsShort] using h4))
    have hw2 : (PyData.list (D.pyL xs)).weight ≤ xs.length * (w + 1) := by simpa [PyData.weight] using h6
    rw [sizeLine_eq]; omega
  show (match getL S m with | some xs => _ | none => _) = _
  simp only [e]
  rw [if_pos ⟨h1, so⟩]
end K74

set_option Elab.async false
set_option linter.all false
set_option maxRecDepth 100000
namespace K74
open PySem PySem.Spec PyProof.Rows L2 Cs Lbl
theorem atI_told {F : Ch → Ch → Bool} {n l : Nat} (f : Nat → Bool) (h : l < n) : atI ((List.range n).map (told F n f)) (l : Int) = some (told F n f l) := atI_map (f := told F n f) (by rw [List.getElem?_range h])
section
variable {ns : List Int} {k n : Nat} {t : Tp} {W : Sto} {Q : D → Sto → Prop}
def SdsI (ns : List Int) (t : Tp) (W : Sto) (F : Ch → Ch → Bool) (n : Nat) (f : Nat → Bool) (xs : List D) (S : Sto) : Prop :=
  ∃ (ds ls : List Nat) (J : Sto), List.range n = ds ++ ls ∧ xs = ls.map (told F n f) ∧ S = tp (ns.map .int) t ++ (W ++ (.lst (ds.map (sideD F n f)) :: J))
theorem c_lsides {F : Ch → Ch → Bool} {f : Nat → Bool} (hn : n ≤ 20) (h : Q (.loc (ad W 0)) (tp (ns.map .int) t ++ (W ++ [.lst ((List.range n).map (sideD F n f))]))) :
    wp (callF tab G (k + 1) "_law_sides" [.tup ((List.range n).map (told F n f))] (tp (ns.map .int) t ++ W)) Q := by
  rw [callF_succ (by decide) rfl]
  refine wp_run rfl rfl ?_
  simp [d_law_sides, start']
  refine wp.mono (wp_lcL (I := SdsI ns t W F n f) (Q := fun S => ∃ J, S = tp (ns.map .int) t ++ (W ++ (.lst ((List.range n).map (sideD F n f)) :: J))) ?_ ?_ ?_ _ _ ⟨[], List.range n, [], rfl, rfl, rfl⟩) ?_
  · intros; exact still_nil _
  · rintro x xs S ⟨ds, ls, J, e, hX, rfl⟩
    cases ls with
    | nil => cases hX
    | cons l ls =>
      cases hX
      refine ⟨_, rfl, ?_⟩
      have hl : l < n := List.mem_range.mp (by rw [e]; simp)
      have hz : ds.length < sizeLine := by rw [sizeLine_eq]; have := congrArg List.length e; rw [List.length_append, List.length_range] at this; omega
      obtain ⟨i1, _, i3⟩ := isi_int (F := F) f hl (tp (ns.map D.int) t ++ (W ++ (.lst (ds.map (sideD F n f)) :: (J ++ [.lst [told F n f l, .non]]))))
      by_cases d : l ∈ kept F n
      · simp only [d, decide_true, Bool.not_true] at i3
        have hs : sideD F n f l = told F n f l := by unfold sideD told; rw [if_pos d, if_pos d]
        simp [wipeE, Tg.slots, i1, i3, hz]
        exact ⟨ds ++ [l], ls, J ++ [.lst [told F n f l, .non]], by rw [e]; simp, rfl, by simp [hs]⟩
      · simp only [d, decide_false, Bool.not_false] at i3
        have hs : sideD F n f l = .non := by unfold sideD; rw [if_neg d]
        simp [wipeE, Tg.slots, i1, i3, hz]
        exact ⟨ds ++ [l], ls, J ++ [.lst [told F n f l, .non]], by rw [e]; simp, rfl, by simp [hs]⟩
  · rintro S ⟨ds, ls, J, e, hX, rfl⟩
    cases ls with
    | cons _ _ => cases hX
    | nil => rw [e, List.append_nil]; exact ⟨J, rfl⟩
  · rintro _ S ⟨J, rfl⟩
    exact wp_fin_tpL (i := 0) rfl (pureL_iff.mpr fun d hd => by
      obtain ⟨l, _, rfl⟩ := List.mem_map.mp hd
      exact (sideD_nc f).pure) h
def Pb.wide (p : Pb) : Pb := ⟨⟨p.area.x, p.area.y, p.area.w + 110, p.area.h⟩, p.obs, p.lbs⟩
theorem FP_again (p : Pb) : FP ⟨p.area, p.obs.reverse ++ p.obs.take 1, p.lbs⟩ = FP p := by
  have fr : ∀ c, freeB ⟨p.area, p.obs.reverse ++ p.obs.take 1, p.lbs⟩ c = freeB p c := fun c => by
    have r : rcOf ⟨p.area, p.obs.reverse ++ p.obs.take 1, p.lbs⟩ c = rcOf p c := rfl
    unfold freeB
    rw [r]
    congr 1
    rw [Bool.eq_iff_iff, List.all_eq_true, List.all_eq_true]
    constructor
    · intro h x hx
      exact h x (List.mem_append_left _ (List.mem_reverse.mpr hx))
    · intro h x hx
      rcases List.mem_append.mp hx with z | z
      · exact h x (List.mem_reverse.mp z)
      · exact h x (List.mem_of_mem_take z)
  funext c d
  unfold FP frcB
  rw [fr]
  rfl
def AlI (S0 : Sto) (e1 : List (Option D)) (m : Nat) (xs : List D) (env : Ev) (S : Sto) : Prop :=
  ∃ (o : Option D), (∀ x ∈ xs, ∃ i : Nat, x = nD i ∧ i < m) ∧ env = e1 ++ [o, none, none, none] ∧ S = S0
theorem law_mid (ns : List Int) (k : Nat) (W : Sto) {t : Tp} (ht : t.ok 900000) : wp (exSs ⟨callF tab G (k + 8), G⟩ (d_law.body.drop 1) [some (.loc 0), some (.loc 2), none, none, none, none, none, none, none, none, none, none, none, none, none, none, none] (tp (ns.map .int) t ++ W)) (retQ [.ro (ns.map .int)] fun d _ => d = .bl true) := by
  have pre : ∀ (t : Tp) (X : Sto), wp (fin [.ro (ns.map .int)] (.bl true, tp (ns.map .int) t ++ X)) fun d _ => d = .bl true := fun t X =>
    wp_fin_p rfl ⟨by simp [tp], fun i so hi e => by
      have : i = 0 := by simp at hi; omega
      subst this
      exact .inl e⟩ rfl
  simp [d_law]
  refine c_problem (n := 170) (k := k + 3) (most := 7) rfl (by omega) (ht.mono (by omega)) fun p0 t2 hp k2 => ?_
  obtain ⟨hp1, w0, w1, h0, h1, hp2, hbl, hbo⟩ := hp
  have hn : p0.lbs.length ≤ 7 := by omega
  have e0 : ∀ (p : Pb) S, iop p.d (.int 0) S = some (p.area.d, S) := fun p S => by simp [Pb.d]
  have e1 : ∀ (p : Pb) S, iop p.d (.int 1) S = some (.tup (p.obs.map Rc.d), S) := fun p S => by simp [Pb.d]
  have pw : D.tup [D.tup [.int p0.area.x, .int p0.area.y, .int (p0.area.w + 110), .int p0.area.h], .tup (p0.obs.map Rc.d), .tup (p0.lbs.map lbD)] = p0.wide.d := rfl
  simp [e0, e1, e2_pb, i0_rc, i1_rc, i2_rc, i3_rc]
  rw [pw]
  generalize hp : p0.wide = p
  have hpl : p.lbs = p0.lbs := by rw [← hp]; rfl
  have hpo : p.obs = p0.obs := by rw [← hp]; rfl
  have hpa : p.area = ⟨p0.area.x, p0.area.y, p0.area.w + 110, p0.area.h⟩ := by rw [← hp]; rfl
  refine c_put (k := k + 2) (by rw [hpl]; omega) fun sF hF hall => ?_
  refine c_draw (n := 169) k2 (by omega) (by omega) fun ai t3 a0 a1 k3 => ?_
  obtain ⟨a, hai⟩ : ∃ a : Nat, ai = a := Int.eq_ofNat_of_zero_le a0
  have ha : a ≤ p.lbs.length := by rw [hpl]; omega
  refine c_draw (n := 168) k3 (by decide) (by decide) fun c t4 c0 c1 k4 => ?_
  simp only [bop_add, wp_some]
  refine c_draw (n := 167) k4 (by omega) (by omega) fun u t5 u0 u1 k5 => ?_
  simp only [bop_add, wp_some]
  refine c_draw (n := 166) k5 (by decide) (by decide) fun v t6 v0 v1 k6 => ?_
  refine c_draw (n := 165) k6 (by decide) (by decide) fun w2 t7 w20 w21 k7 => ?_
  refine c_draw (n := 164) k7 (by decide) (by decide) fun h2 t8 h20 h21 k8 => ?_
  refine c_rect (k := k + 5) (n := 160) k8 w20 h20 (by omega) (by omega) (by omega) (by omega) fun r2 t9 _ k9 => ?_
  have hfd : D.tup [.int (p0.area.x + p0.area.w + 100 + c), .int (p0.area.y + u), .int v, .int 6] = Rc.d ⟨p0.area.x + p0.area.w + 100 + c, p0.area.y + u, v, 6⟩ := rfl
  have tail : ∀ (r2 : Rc) (t' : Tp), wp (exSs ⟨callF tab G (k + 8), G⟩ (d_law.body.drop 10) [some (.loc 0), some (.loc 2), some p0.d, some (.tup (p0.lbs.map lbD)), some p.d, some (.tup ((List.range p.lbs.length).map (told (FP p) p.lbs.length (getS sF)))), some (.int ai), some (.int (p0.area.x + p0.area.w + 100 + c)), some (Rc.d ⟨p0.area.x + p0.area.w + 100 + c, p0.area.y + u, v, 6⟩), some r2.d, none, none, none, none, none, none, none] (tp (ns.map .int) t' ++ W)) (retQ [.ro (ns.map .int)] fun d _ => d = .bl true) := by
    intro r2 t'
    rw [← hpl]
    generalize hB : (⟨p0.area.x + p0.area.w + 100 + c, p0.area.y + u, v, 6⟩ : Rc) = B
    have fB : inB B p.area = true := by
      rw [← hB, hpa]; unfold inB
      rw [decide_eq_true_eq]; dsimp only; omega
    have nB : ∀ r : Rc, Bd p0.area r → ovB B r = false := fun r hr => by
      unfold Bd at hr
      rw [← hB]; unfold ovB
      rw [decide_eq_false_iff_not]; dsimp only; omega
    have cl := clear_ins (p := p) (q := a) (r := (B, r2)) ha ⟨fB, fun o ho => nB o (hbo o (by rw [← hpo]; exact ho))⟩ fun l hl => ⟨nB _ (hbl l (by rw [← hpl]; exact hl)).1, nB _ (hbl l (by rw [← hpl]; exact hl)).2⟩
    have hnp : p.lbs.length ≤ 7 := by rw [hpl]; exact hn
    have hop : p.obs.length ≤ 3 := by rw [hpo]; exact hp2
    simp [d_law]
    refine c_renum (k := k + 7) (f := getS sF) hai (by omega) ha ?_
    have hN : ai.toNat = a := by omega
    have hz : (List.range p.lbs.length).length < sizeLine := by rw [sizeLine_eq]; simp; omega
    have ct1 := cut_take' (xs := p.lbs.map lbD) hai (by simpa using ha)
    have ct2 := cut_drop' (xs := p.lbs.map lbD) hai (by simpa using ha)
    rw [← List.map_take] at ct1
    rw [← List.map_drop] at ct2
    have bl : D.tup [B.d, r2.d] = lbD (B, r2) := rfl
    have sz1 := bop_tup (a := (p.lbs.take a).map lbD) (b := [lbD (B, r2)]) (by rw [sizeLine_eq]; simp; omega)
    have sz2 := bop_tup (a := (p.lbs.take a).map lbD ++ [lbD (B, r2)]) (b := (p.lbs.drop a).map lbD) (by rw [sizeLine_eq]; simp; omega)
    have pd : D.tup [p.area.d, .tup (p.obs.map Rc.d), .tup ((p.lbs.take a).map lbD ++ [lbD (B, r2)] ++ (p.lbs.drop a).map lbD)] = (p.ins a (B, r2)).d := by
      unfold Pb.d Pb.ins
      simp only [List.map_append, List.map_cons, List.map_nil]
    have il := ins_len (B, r2) ha
    have dq := due_eq ha (toldUp (FP p) p.lbs.length (getS sF) a) (.int 0)
    generalize hL : (List.range p.lbs.length).map (toldUp (FP p) p.lbs.length (getS sF) a) = L at *
    have hLl : L.length < sizeLine := by rw [← hL]; simpa using hz
    have h63 : ai < 9223372036854775808 := by omega
    rw [bl]
    simp [-List.map_take, -List.map_drop, -List.append_assoc, hN, a0, hLl, h63, bndE, isNonE, ct1, ct2, sz1, sz2, e0, e1]
    rw [pd]
    refine c_put (k := k + 2) (by omega) fun sG hG _ => ?_
    have rt := repr_nc (told_list_nc (F := FP (p.ins a (B, r2))) (n := (p.ins a (B, r2)).lbs.length) (getS sG) (by omega)) (by omega) (by omega)
    have skG := FP_skew (p.ins a (B, r2))
    rw [il] at rt hG skG ⊢
    have tq := cl.told (FP_skew p) skG hF hG
    rw [tq, ← dq] at rt ⊢
    have ct3 := cut_take' (xs := p.obs.map Rc.d) (i := min 1 p.obs.length) (j := 1)
    have s1 : ∀ S, slop (.tup (p.obs.map Rc.d)) none (some 1) S = some (.tup ((p.obs.take 1).map Rc.d), S) := fun S => by
      show some (D.tup (Cs.cutD _ _ _), S) = _
      have : Cs.cutD (p.obs.map Rc.d) none (some (1 : Int)) = (p.obs.take 1).map Rc.d := by
        unfold Cs.cutD
        rw [HT.sIx_none]
        have : HT.sIx (p.obs.map Rc.d).length (p.obs.map Rc.d).length (some (1 : Int)) = min 1 (p.obs.map Rc.d).length := HT.sIx_nat _ _ 1
        rw [this, List.drop_zero, Nat.sub_zero, List.map_take]
        simp only [List.length_map]
        rcases Nat.lt_or_ge p.obs.length 1 with z | z
        · have : p.obs = [] := List.eq_nil_of_length_eq_zero (by omega)
          rw [this]; rfl
        · rw [Nat.min_eq_left z]
      rw [this]
    have sz3 := bop_tup (a := (p.obs.map Rc.d).reverse) (b := (p.obs.take 1).map Rc.d) (by rw [sizeLine_eq]; simp; omega)
    have pa : D.tup [p.area.d, .tup ((p.obs.map Rc.d).reverse ++ (p.obs.take 1).map Rc.d), .tup (p.lbs.map lbD)] = Pb.d ⟨p.area, p.obs.reverse ++ p.obs.take 1, p.lbs⟩ := by
      unfold Pb.d
      simp only [List.map_append, List.map_reverse]
    obtain ⟨j, hj⟩ : ∃ j : Int, j = p.obs.length := ⟨_, rfl⟩
    have eb : ∀ S, bLen [.tup (p.obs.map Rc.d)] S = some (.int j, S) := fun S => by rw [hj]; simp
    simp [-List.map_take, -List.map_drop, -List.append_assoc, -List.map_reverse, -bLen_tup, rt, e0, e1, bndE, isNonE, s1, sz3]
    rw [pa]
    have fa := FP_again p
    refine c_put (k := k + 2) (by show p.lbs.length ≤ 20; omega) fun sH hH _ => ?_
    have la : (⟨p.area, p.obs.reverse ++ p.obs.take 1, p.lbs⟩ : Pb).lbs.length = p.lbs.length := rfl
    rw [fa, la] at hH ⊢
    have hs : sH = sF := by rw [hF] at hH; exact (Option.some.inj hH).symm
    subst hs
    have rt2 := repr_nc (told_list_nc (F := FP p) (n := p.lbs.length) (getS sH) (by omega)) (by omega) (by omega)
    simp [-List.map_take, -List.map_drop, -List.append_assoc, -List.map_reverse, -bLen_tup, rt2, eb, items_rng (show smallI j from ⟨by omega, by omega⟩)]
    generalize hW : W ++ [SO.lst (L.take a ++ [D.int 0] ++ L.drop a)] = W1
    simp [-bLen_tup, -List.map_take, -List.map_reverse, e1, eb, items_rng (show smallI j from ⟨by omega, by omega⟩)]
    have hr : rngD 0 j.toNat = (List.range p.obs.length).map nD := by rw [hj]; simp only [Int.toNat_natCast, rngD_nat]
    rw [hr]
    refine wp_forQ (I := AlI (tp (ns.map .int) t' ++ W1) [some (.loc 0), some (.loc 2), some p0.d, some (.tup (p.lbs.map lbD)), some p.d, some (.tup ((List.range p.lbs.length).map (told (FP p) p.lbs.length (getS sH)))), some (.int ai), some (.int (p0.area.x + p0.area.w + 100 + c)), some B.d, some r2.d, some (.loc (ad W 0)), some (p.ins a (B, r2)).d, some (.tup ((p.obs.map Rc.d).reverse ++ (p.obs.take 1).map Rc.d))] p.obs.length) ?_ ?_ ?_ _ _ _ ⟨none, fun x hx => ?_, rfl, rfl⟩
    · intros; exact still_nil _
    · rintro x xs env S ⟨o, hx, rfl, rfl⟩
      obtain ⟨i, ex, hi⟩ := hx x (List.mem_cons_self ..)
      obtain ⟨zi, hzi⟩ : ∃ z : Int, z = (i : Int) := ⟨_, rfl⟩
      have ex2 : x = .int zi := by rw [ex, hzi]
      clear ex
      subst ex2
      refine ⟨_, rfl, ?_⟩
      have hb : p.obs[i]? = some p.obs[i] := List.getElem?_eq_getElem hi
      generalize p.obs[i] = b at hb
      simp
      refine c_lalone (k := k + 5) hzi (by omega) hb ?_
      cases hf : (inB b p.area && (p.obs.take i ++ p.obs.drop (i + 1)).all fun o => !ovB b o) with
      | false =>
        simp
        exact ⟨_, fun x h => hx x (List.mem_cons_of_mem _ h), rfl, rfl⟩
      | true =>
        have at1 : atI (p.obs.map Rc.d) zi = some b.d := by rw [hzi]; exact atI_map hb
        have q1 := cut_take' (xs := p.obs.map Rc.d) (i := i) (j := zi) hzi (by simp; omega)
        have q2 := cut_drop' (xs := p.obs.map Rc.d) (j := zi + 1) (i := i + 1) (by omega) (by simp; omega)
        rw [← List.map_take] at q1
        rw [← List.map_drop] at q2
        have z1 := bop_tup (a := (p.obs.take i).map Rc.d) (b := (p.obs.drop (i + 1)).map Rc.d) (by rw [sizeLine_eq]; simp; omega)
        have z2 := bop_tup (a := [D.tup [b.d, b.d]]) (b := p.lbs.map lbD) (by rw [sizeLine_eq]; simp; omega)
        have bb : D.tup [b.d, b.d] = lbD (b, b) := rfl
        have pt : D.tup [p.area.d, .tup ((p.obs.take i).map Rc.d ++ (p.obs.drop (i + 1)).map Rc.d), .tup ([D.tup [b.d, b.d]] ++ p.lbs.map lbD)] = (p.turn i b).d := by
          unfold Pb.d Pb.turn
          simp only [List.map_append, List.map_cons]
          rfl
        have blk := blk_turn hb hf
        simp [-List.map_take, -List.map_drop, -List.cons_append, e0, e1, at1, bndE, isNonE, q1, q2, z1]
        refine wp_eq (z2 _) ?_
        show wp (callF tab G (k + 8) "place_labels" [D.tup [p.area.d, .tup ((p.obs.take i).map Rc.d ++ (p.obs.drop (i + 1)).map Rc.d), .tup ([D.tup [b.d, b.d]] ++ p.lbs.map lbD)]] _) _
        rw [pt]
        refine c_put (k := k + 2) (by show p.lbs.length + 1 ≤ 20; omega) fun sK hK _ => ?_
        have lt : (p.turn i b).lbs.length = p.lbs.length + 1 := rfl
        rw [lt] at hK ⊢
        have sides := blk.sides hF hK
        refine c_lsides (k := k + 7) (by omega) ?_
        rw [sides]
        have ncs : ∀ d ∈ D.int 0 :: (List.range p.lbs.length).map (sideD (FP p) p.lbs.length (getS sH)), Nc 0 40 d := fun d hd => by
          rcases List.mem_cons.mp hd with rfl | hd
          · exact .int (by decide) 0
          · obtain ⟨l, _, rfl⟩ := List.mem_map.mp hd
            exact sideD_nc _
        have hlen : (D.int 0 :: (List.range p.lbs.length).map (sideD (FP p) p.lbs.length (getS sH))).length * (40 + 1) ≤ 1000000 := by simp; omega
        have r1 := fun (J : Sto) (m : Nat) (h : getL J m = some (D.int 0 :: (List.range p.lbs.length).map (sideD (FP p) p.lbs.length (getS sH)))) => repr_loc (S := tp (ns.map D.int) t' ++ (W1 ++ J)) (m := Cs.ad W1 m) (by rw [tp_getL]; exact h) ncs (by omega) hlen
        generalize hsd : (List.range p.lbs.length).map (sideD (FP p) p.lbs.length (getS sH)) = SD at *
        have r10 := r1 [.lst (D.int 0 :: SD)] 0 rfl
        simp [r10]
        refine c_lsides (k := k + 7) (by omega) ?_
        rw [hsd]
        have hSD : 1 + SD.length ≤ sizeLine := by rw [← hsd, sizeLine_eq]; simp; omega
        have r13 := r1 [.lst (D.int 0 :: SD), .lst [D.int 0], .lst SD, .lst (D.int 0 :: SD)] 3 rfl
        have hSD2 : SD.length + 1 ≤ sizeLine := by omega
        simp [hSD, hSD2, r13]
        rw [← hW]
        exact pre _ _
    · rintro env S ⟨o, hx, rfl, rfl⟩
      simp
      rw [← hW]
      exact pre _ _
    · obtain ⟨z, hz, rfl⟩ := List.mem_map.mp hx
      exact ⟨z, rfl, List.mem_range.mp hz⟩
  rw [hfd]
  have tl := fun r2 t' => tail r2 t'
  simp [d_law] at tl
  by_cases e : p0.lbs = []
  · have := tl r2 t9
    simp [e] at this
    simp [e]
    exact this
  · have hlen : 0 < p0.lbs.length := List.length_pos_iff.mpr e
    simp [e]
    refine c_draw (n := 159) k9 (by decide) (by decide) fun r t10 r0 r1 k10 => ?_
    by_cases e2 : r = 0
    · simp [e2]
      refine c_draw (n := 158) k10 (by omega) (by omega) fun r t11 r0 r1 k11 => ?_
      simp
      refine wp_atI r0 (by simpa using r1) fun m hm => ?_
      obtain ⟨l, hlm, rfl⟩ := lbD_mem hm
      refine c_draw (n := 157) k11 (by omega) (by omega) fun r t12 r0 r1 k12 => ?_
      refine wp_lb (A := p0.area) r0 r1 (hbl l hlm) fun cc bc => ?_
      exact tl cc t12
    · have := tl r2 t10
      simp [e2]
      exact this
theorem law_holds (ns : List Int) (k : Nat) : ∃ S', callF tab G (k + 9) "law" [.loc 0] [.ro (ns.map D.int)] = some (.bl true, S') := by
  have : wp (callF tab G (k + 9) "law" [.loc 0] [.ro (ns.map D.int)]) fun d _ => d = .bl true := by
    rw [callF_succ (by decide) rfl]
    refine wp_run rfl rfl ?_
    simp [d_law, start']
    rw [callF_succ (by decide) rfl]
    refine tape_ok _ ns fun t ht => ?_
    have := law_mid ns k [] ht
    simpa [d_law] using this
  obtain ⟨d, S', e, rfl⟩ := this
  exact ⟨S', e⟩
end
end K74

set_option Elab.async false
set_option linter.all false
set_option maxRecDepth 100000
namespace K74
open PySem PySem.Spec PyProof.Rows L2 Cs
theorem all_mk {l : PySem.W.OpenLaw} {w : World} {K : PySem.W.Frag} {h : Heap} {mg : Str → Option Value} {fa : Addr} (X : K.In h) (G' : h.Ns mainGlobals mg) (hfa : mg "law" = some (.ref fa))
    {f0 : Addr} {o0 n0 : Option Addr} {s0 : Array (Option Value)} {p0 q0 r0 t0 u0 v0 : Value}
    (a0 : PySem.W.nsIn K mainGlobals "inside" = some (some (.ref f0)))
    (l0 : K.lookup f0 = some ⟨p0, o0, .func (PySem.W.fnOf "inside" "inside" (defArgs (topS 1)) (defBody (topS 1)) (defScope (topS 1)) .none q0 r0 t0 n0 u0 v0), s0⟩)
    (c0 : PySem.W.codeIn K u0 "inside" = true) (k0 : PySem.W.keepIn K (.ref f0) = true)
    {f1 : Addr} {o1 n1 : Option Addr} {s1 : Array (Option Value)} {p1 q1 r1 t1 u1 v1 : Value}
    (a1 : PySem.W.nsIn K mainGlobals "common" = some (some (.ref f1)))
    (l1 : K.lookup f1 = some ⟨p1, o1, .func (PySem.W.fnOf "common" "common" (defArgs (topS 2)) (defBody (topS 2)) (defScope (topS 2)) .none q1 r1 t1 n1 u1 v1), s1⟩)
    (c1 : PySem.W.codeIn K u1 "common" = true) (k1 : PySem.W.keepIn K (.ref f1) = true)
    {f2 : Addr} {o2 n2 : Option Addr} {s2 : Array (Option Value)} {p2 q2 r2 t2 u2 v2 : Value}
    (a2 : PySem.W.nsIn K mainGlobals "overlap" = some (some (.ref f2)))
    (l2 : K.lookup f2 = some ⟨p2, o2, .func (PySem.W.fnOf "overlap" "overlap" (defArgs (topS 3)) (defBody (topS 3)) (defScope (topS 3)) .none q2 r2 t2 n2 u2 v2), s2⟩)
    (c2 : PySem.W.codeIn K u2 "overlap" = true) (k2 : PySem.W.keepIn K (.ref f2) = true)
    {f3 : Addr} {o3 n3 : Option Addr} {s3 : Array (Option Value)} {p3 q3 r3 t3 u3 v3 : Value}
    (a3 : PySem.W.nsIn K mainGlobals "chosen_rectangle" = some (some (.ref f3)))
    (l3 : K.lookup f3 = some ⟨p3, o3, .func (PySem.W.fnOf "chosen_rectangle" "chosen_rectangle" (defArgs (topS 5)) (defBody (topS 5)) (defScope (topS 5)) .none q3 r3 t3 n3 u3 v3), s3⟩)
    (c3 : PySem.W.codeIn K u3 "chosen_rectangle" = true) (k3 : PySem.W.keepIn K (.ref f3) = true)
    {f4 : Addr} {o4 n4 : Option Addr} {s4 : Array (Option Value)} {p4 q4 r4 t4 u4 v4 : Value}
    (a4 : PySem.W.nsIn K mainGlobals "other_choice" = some (some (.ref f4)))
    (l4 : K.lookup f4 = some ⟨p4, o4, .func (PySem.W.fnOf "other_choice" "other_choice" (defArgs (topS 6)) (defBody (topS 6)) (defScope (topS 6)) .none q4 r4 t4 n4 u4 v4), s4⟩)
    (c4 : PySem.W.codeIn K u4 "other_choice" = true) (k4 : PySem.W.keepIn K (.ref f4) = true)
    {f5 : Addr} {o5 n5 : Option Addr} {s5 : Array (Option Value)} {p5 q5 r5 t5 u5 v5 : Value}
    (a5 : PySem.W.nsIn K mainGlobals "is_free" = some (some (.ref f5)))
    (l5 : K.lookup f5 = some ⟨p5, o5, .func (PySem.W.fnOf "is_free" "is_free" (defArgs (topS 7)) (defBody (topS 7)) (defScope (topS 7)) .none q5 r5 t5 n5 u5 v5), s5⟩)
    (c5 : PySem.W.codeIn K u5 "is_free" = true) (k5 : PySem.W.keepIn K (.ref f5) = true)
    {f6 : Addr} {o6 n6 : Option Addr} {s6 : Array (Option Value)} {p6 q6 r6 t6 u6 v6 : Value}
    (a6 : PySem.W.nsIn K mainGlobals "forces" = some (some (.ref f6)))
    (l6 : K.lookup f6 = some ⟨p6, o6, .func (PySem.W.fnOf "forces" "forces" (defArgs (topS 8)) (defBody (topS 8)) (defScope (topS 8)) .none q6 r6 t6 n6 u6 v6), s6⟩)
    (c6 : PySem.W.codeIn K u6 "forces" = true) (k6 : PySem.W.keepIn K (.ref f6) = true)
    {f7 : Addr} {o7 n7 : Option Addr} {s7 : Array (Option Value)} {p7 q7 r7 t7 u7 v7 : Value}
    (a7 : PySem.W.nsIn K mainGlobals "links_of" = some (some (.ref f7)))
    (l7 : K.lookup f7 = some ⟨p7, o7, .func (PySem.W.fnOf "links_of" "links_of" (defArgs (topS 10)) (defBody (topS 10)) (defScope (topS 10)) .none q7 r7 t7 n7 u7 v7), s7⟩)
    (c7 : PySem.W.codeIn K u7 "links_of" = true) (k7 : PySem.W.keepIn K (.ref f7) = true)
    {f8 : Addr} {o8 n8 : Option Addr} {s8 : Array (Option Value)} {p8 q8 r8 t8 u8 v8 : Value}
    (a8 : PySem.W.nsIn K mainGlobals "first_path" = some (some (.ref f8)))
    (l8 : K.lookup f8 = some ⟨p8, o8, .func (PySem.W.fnOf "first_path" "first_path" (defArgs (topS 11)) (defBody (topS 11)) (defScope (topS 11)) .none q8 r8 t8 n8 u8 v8), s8⟩)
    (c8 : PySem.W.codeIn K u8 "first_path" = true) (k8 : PySem.W.keepIn K (.ref f8) = true)
    {f9 : Addr} {o9 n9 : Option Addr} {s9 : Array (Option Value)} {p9 q9 r9 t9 u9 v9 : Value}
    (a9 : PySem.W.nsIn K mainGlobals "reason_over" = some (some (.ref f9)))
    (l9 : K.lookup f9 = some ⟨p9, o9, .func (PySem.W.fnOf "reason_over" "reason_over" (defArgs (topS 12)) (defBody (topS 12)) (defScope (topS 12)) .none q9 r9 t9 n9 u9 v9), s9⟩)
    (c9 : PySem.W.codeIn K u9 "reason_over" = true) (k9 : PySem.W.keepIn K (.ref f9) = true)
    {f10 : Addr} {o10 n10 : Option Addr} {s10 : Array (Option Value)} {p10 q10 r10 t10 u10 v10 : Value}
    (a10 : PySem.W.nsIn K mainGlobals "forced" = some (some (.ref f10)))
    (l10 : K.lookup f10 = some ⟨p10, o10, .func (PySem.W.fnOf "forced" "forced" (defArgs (topS 14)) (defBody (topS 14)) (defScope (topS 14)) .none q10 r10 t10 n10 u10 v10), s10⟩)
    (c10 : PySem.W.codeIn K u10 "forced" = true) (k10 : PySem.W.keepIn K (.ref f10) = true)
    {f11 : Addr} {o11 n11 : Option Addr} {s11 : Array (Option Value)} {p11 q11 r11 t11 u11 v11 : Value}
    (a11 : PySem.W.nsIn K mainGlobals "is_possible" = some (some (.ref f11)))
    (l11 : K.lookup f11 = some ⟨p11, o11, .func (PySem.W.fnOf "is_possible" "is_possible" (defArgs (topS 15)) (defBody (topS 15)) (defScope (topS 15)) .none q11 r11 t11 n11 u11 v11), s11⟩)
    (c11 : PySem.W.codeIn K u11 "is_possible" = true) (k11 : PySem.W.keepIn K (.ref f11) = true)
    {f12 : Addr} {o12 n12 : Option Addr} {s12 : Array (Option Value)} {p12 q12 r12 t12 u12 v12 : Value}
    (a12 : PySem.W.nsIn K mainGlobals "sides_over" = some (some (.ref f12)))
    (l12 : K.lookup f12 = some ⟨p12, o12, .func (PySem.W.fnOf "sides_over" "sides_over" (defArgs (topS 16)) (defBody (topS 16)) (defScope (topS 16)) .none q12 r12 t12 n12 u12 v12), s12⟩)
    (c12 : PySem.W.codeIn K u12 "sides_over" = true) (k12 : PySem.W.keepIn K (.ref f12) = true)
    {f13 : Addr} {o13 n13 : Option Addr} {s13 : Array (Option Value)} {p13 q13 r13 t13 u13 v13 : Value}
    (a13 : PySem.W.nsIn K mainGlobals "kept_over" = some (some (.ref f13)))
    (l13 : K.lookup f13 = some ⟨p13, o13, .func (PySem.W.fnOf "kept_over" "kept_over" (defArgs (topS 17)) (defBody (topS 17)) (defScope (topS 17)) .none q13 r13 t13 n13 u13 v13), s13⟩)
    (c13 : PySem.W.codeIn K u13 "kept_over" = true) (k13 : PySem.W.keepIn K (.ref f13) = true)
    {f14 : Addr} {o14 n14 : Option Addr} {s14 : Array (Option Value)} {p14 q14 r14 t14 u14 v14 : Value}
    (a14 : PySem.W.nsIn K mainGlobals "place_labels" = some (some (.ref f14)))
    (l14 : K.lookup f14 = some ⟨p14, o14, .func (PySem.W.fnOf "place_labels" "place_labels" (defArgs (topS 18)) (defBody (topS 18)) (defScope (topS 18)) .none q14 r14 t14 n14 u14 v14), s14⟩)
    (c14 : PySem.W.codeIn K u14 "place_labels" = true) (k14 : PySem.W.keepIn K (.ref f14) = true)
    {f15 : Addr} {o15 n15 : Option Addr} {s15 : Array (Option Value)} {p15 q15 r15 t15 u15 v15 : Value}
    (a15 : PySem.W.nsIn K mainGlobals "_law_tape" = some (some (.ref f15)))
    (l15 : K.lookup f15 = some ⟨p15, o15, .func (PySem.W.fnOf "_law_tape" "_law_tape" (defArgs (topS 20)) (defBody (topS 20)) (defScope (topS 20)) .none q15 r15 t15 n15 u15 v15), s15⟩)
    (c15 : PySem.W.codeIn K u15 "_law_tape" = true) (k15 : PySem.W.keepIn K (.ref f15) = true)
    {f16 : Addr} {o16 n16 : Option Addr} {s16 : Array (Option Value)} {p16 q16 r16 t16 u16 v16 : Value}
    (a16 : PySem.W.nsIn K mainGlobals "_law_draw" = some (some (.ref f16)))
    (l16 : K.lookup f16 = some ⟨p16, o16, .func (PySem.W.fnOf "_law_draw" "_law_draw" (defArgs (topS 21)) (defBody (topS 21)) (defScope (topS 21)) .none q16 r16 t16 n16 u16 v16), s16⟩)
    (c16 : PySem.W.codeIn K u16 "_law_draw" = true) (k16 : PySem.W.keepIn K (.ref f16) = true)
    {f17 : Addr} {o17 n17 : Option Addr} {s17 : Array (Option Value)} {p17 q17 r17 t17 u17 v17 : Value}
    (a17 : PySem.W.nsIn K mainGlobals "_law_inside" = some (some (.ref f17)))
    (l17 : K.lookup f17 = some ⟨p17, o17, .func (PySem.W.fnOf "_law_inside" "_law_inside" (defArgs (topS 22)) (defBody (topS 22)) (defScope (topS 22)) .none q17 r17 t17 n17 u17 v17), s17⟩)
    (c17 : PySem.W.codeIn K u17 "_law_inside" = true) (k17 : PySem.W.keepIn K (.ref f17) = true)
    {f18 : Addr} {o18 n18 : Option Addr} {s18 : Array (Option Value)} {p18 q18 r18 t18 u18 v18 : Value}
    (a18 : PySem.W.nsIn K mainGlobals "_law_overlap" = some (some (.ref f18)))
    (l18 : K.lookup f18 = some ⟨p18, o18, .func (PySem.W.fnOf "_law_overlap" "_law_overlap" (defArgs (topS 23)) (defBody (topS 23)) (defScope (topS 23)) .none q18 r18 t18 n18 u18 v18), s18⟩)
    (c18 : PySem.W.codeIn K u18 "_law_overlap" = true) (k18 : PySem.W.keepIn K (.ref f18) = true)
    {f19 : Addr} {o19 n19 : Option Addr} {s19 : Array (Option Value)} {p19 q19 r19 t19 u19 v19 : Value}
    (a19 : PySem.W.nsIn K mainGlobals "_law_spot" = some (some (.ref f19)))
    (l19 : K.lookup f19 = some ⟨p19, o19, .func (PySem.W.fnOf "_law_spot" "_law_spot" (defArgs (topS 24)) (defBody (topS 24)) (defScope (topS 24)) .none q19 r19 t19 n19 u19 v19), s19⟩)
    (c19 : PySem.W.codeIn K u19 "_law_spot" = true) (k19 : PySem.W.keepIn K (.ref f19) = true)
    {f20 : Addr} {o20 n20 : Option Addr} {s20 : Array (Option Value)} {p20 q20 r20 t20 u20 v20 : Value}
    (a20 : PySem.W.nsIn K mainGlobals "_law_rectangle" = some (some (.ref f20)))
    (l20 : K.lookup f20 = some ⟨p20, o20, .func (PySem.W.fnOf "_law_rectangle" "_law_rectangle" (defArgs (topS 25)) (defBody (topS 25)) (defScope (topS 25)) .none q20 r20 t20 n20 u20 v20), s20⟩)
    (c20 : PySem.W.codeIn K u20 "_law_rectangle" = true) (k20 : PySem.W.keepIn K (.ref f20) = true)
    {f21 : Addr} {o21 n21 : Option Addr} {s21 : Array (Option Value)} {p21 q21 r21 t21 u21 v21 : Value}
    (a21 : PySem.W.nsIn K mainGlobals "_law_label" = some (some (.ref f21)))
    (l21 : K.lookup f21 = some ⟨p21, o21, .func (PySem.W.fnOf "_law_label" "_law_label" (defArgs (topS 26)) (defBody (topS 26)) (defScope (topS 26)) .none q21 r21 t21 n21 u21 v21), s21⟩)
    (c21 : PySem.W.codeIn K u21 "_law_label" = true) (k21 : PySem.W.keepIn K (.ref f21) = true)
    {f22 : Addr} {o22 n22 : Option Addr} {s22 : Array (Option Value)} {p22 q22 r22 t22 u22 v22 : Value}
    (a22 : PySem.W.nsIn K mainGlobals "_law_problem" = some (some (.ref f22)))
    (l22 : K.lookup f22 = some ⟨p22, o22, .func (PySem.W.fnOf "_law_problem" "_law_problem" (defArgs (topS 27)) (defBody (topS 27)) (defScope (topS 27)) .none q22 r22 t22 n22 u22 v22), s22⟩)
    (c22 : PySem.W.codeIn K u22 "_law_problem" = true) (k22 : PySem.W.keepIn K (.ref f22) = true)
    {f23 : Addr} {o23 n23 : Option Addr} {s23 : Array (Option Value)} {p23 q23 r23 t23 u23 v23 : Value}
    (a23 : PySem.W.nsIn K mainGlobals "_law_free" = some (some (.ref f23)))
    (l23 : K.lookup f23 = some ⟨p23, o23, .func (PySem.W.fnOf "_law_free" "_law_free" (defArgs (topS 28)) (defBody (topS 28)) (defScope (topS 28)) .none q23 r23 t23 n23 u23 v23), s23⟩)
    (c23 : PySem.W.codeIn K u23 "_law_free" = true) (k23 : PySem.W.keepIn K (.ref f23) = true)
    {f24 : Addr} {o24 n24 : Option Addr} {s24 : Array (Option Value)} {p24 q24 r24 t24 u24 v24 : Value}
    (a24 : PySem.W.nsIn K mainGlobals "_law_renumbered" = some (some (.ref f24)))
    (l24 : K.lookup f24 = some ⟨p24, o24, .func (PySem.W.fnOf "_law_renumbered" "_law_renumbered" (defArgs (topS 29)) (defBody (topS 29)) (defScope (topS 29)) .none q24 r24 t24 n24 u24 v24), s24⟩)
    (c24 : PySem.W.codeIn K u24 "_law_renumbered" = true) (k24 : PySem.W.keepIn K (.ref f24) = true)
    {f25 : Addr} {o25 n25 : Option Addr} {s25 : Array (Option Value)} {p25 q25 r25 t25 u25 v25 : Value}
    (a25 : PySem.W.nsIn K mainGlobals "_law_sides" = some (some (.ref f25)))
    (l25 : K.lookup f25 = some ⟨p25, o25, .func (PySem.W.fnOf "_law_sides" "_law_sides" (defArgs (topS 30)) (defBody (topS 30)) (defScope (topS 30)) .none q25 r25 t25 n25 u25 v25), s25⟩)
    (c25 : PySem.W.codeIn K u25 "_law_sides" = true) (k25 : PySem.W.keepIn K (.ref f25) = true)
    {f26 : Addr} {o26 n26 : Option Addr} {s26 : Array (Option Value)} {p26 q26 r26 t26 u26 v26 : Value}
    (a26 : PySem.W.nsIn K mainGlobals "_law_alone" = some (some (.ref f26)))
    (l26 : K.lookup f26 = some ⟨p26, o26, .func (PySem.W.fnOf "_law_alone" "_law_alone" (defArgs (topS 31)) (defBody (topS 31)) (defScope (topS 31)) .none q26 r26 t26 n26 u26 v26), s26⟩)
    (c26 : PySem.W.codeIn K u26 "_law_alone" = true) (k26 : PySem.W.keepIn K (.ref f26) = true)
    {f27 : Addr} {o27 n27 : Option Addr} {s27 : Array (Option Value)} {p27 q27 r27 t27 u27 v27 : Value}
    (a27 : PySem.W.nsIn K mainGlobals "law" = some (some (.ref f27)))
    (l27 : K.lookup f27 = some ⟨p27, o27, .func (PySem.W.fnOf "law" "law" (defArgs (topS 32)) (defBody (topS 32)) (defScope (topS 32)) .none q27 r27 t27 n27 u27 v27), s27⟩)
    (c27 : PySem.W.codeIn K u27 "law" = true) (k27 : PySem.W.keepIn K (.ref f27) = true)
    (z0 : PySem.W.nsIn K mainGlobals "len" = some none)
    (z1 : PySem.W.nsIn K mainGlobals "abs" = some none)
    (z2 : PySem.W.nsIn K mainGlobals "max" = some none)
    (z3 : PySem.W.nsIn K mainGlobals "min" = some none)
    (z4 : PySem.W.nsIn K mainGlobals "all" = some none)
    (z5 : PySem.W.nsIn K mainGlobals "any" = some none)
    (z6 : PySem.W.nsIn K mainGlobals "repr" = some none)
    (z7 : PySem.W.nsIn K mainGlobals "sorted" = some none)
    (z8 : PySem.W.nsIn K mainGlobals "int" = some none)
    (z9 : PySem.W.nsIn K mainGlobals "list" = some none)
    (z10 : PySem.W.nsIn K mainGlobals "tuple" = some none)
    (z11 : PySem.W.nsIn K mainGlobals "dict" = some none)
    (z12 : PySem.W.nsIn K mainGlobals "range" = some none)
    (z13 : PySem.W.nsIn K mainGlobals "reversed" = some none)
    (z14 : PySem.W.nsIn K mainGlobals "isinstance" = some none)
    (z15 : PySem.W.nsIn K mainGlobals "zip" = some none)
    (z16 : PySem.W.nsIn K mainGlobals "enumerate" = some none)
    (z17 : PySem.W.nsIn K mainGlobals "bool" = some none)
    (z18 : PySem.W.nsIn K mainGlobals "str" = some none)
    : ∃ fd : FuncData, (∀ (s : Shared) (v : Value), BindsTo s fd ⟨[v], []⟩ [("_law_script", v)]) ∧ ∀ base : Heap, K.In base → base.Ns mainGlobals mg → FnG l.prog w K mg base 9 fa fd ["_law_script"] (spF K 1 (callF tab K74.G 9 "law")) := by
  have F0 := fun_mk (st := topS 1) l0 c0 k0
  have b0 := F0.binds (ps := ["first", "second"]) fun _ _ _ _ _ _ us hl => match us, hl with | [_, _], _ => rfl
  have F1 := fun_mk (st := topS 2) l1 c1 k1
  have b1 := F1.binds (ps := ["first", "second"]) fun _ _ _ _ _ _ us hl => match us, hl with | [_, _], _ => rfl
  have F2 := fun_mk (st := topS 3) l2 c2 k2
  have b2 := F2.binds (ps := ["first", "second"]) fun _ _ _ _ _ _ us hl => match us, hl with | [_, _], _ => rfl
  have F3 := fun_mk (st := topS 5) l3 c3 k3
  have b3 := F3.binds (ps := ["problem", "choice"]) fun _ _ _ _ _ _ us hl => match us, hl with | [_, _], _ => rfl
  have F4 := fun_mk (st := topS 6) l4 c4 k4
  have b4 := F4.binds (ps := ["choice"]) fun _ _ _ _ _ _ us hl => match us, hl with | [_], _ => rfl
  have F5 := fun_mk (st := topS 7) l5 c5 k5
  have b5 := F5.binds (ps := ["problem", "choice"]) fun _ _ _ _ _ _ us hl => match us, hl with | [_, _], _ => rfl
  have F6 := fun_mk (st := topS 8) l6 c6 k6
  have b6 := F6.binds (ps := ["problem", "choice", "other"]) fun _ _ _ _ _ _ us hl => match us, hl with | [_, _, _], _ => rfl
  have F7 := fun_mk (st := topS 10) l7 c7 k7
  have b7 := F7.binds (ps := ["problem", "among"]) fun _ _ _ _ _ _ us hl => match us, hl with | [_, _], _ => rfl
  have F8 := fun_mk (st := topS 11) l8 c8 k8
  have b8 := F8.binds (ps := ["links", "members", "start", "goal"]) fun _ _ _ _ _ _ us hl => match us, hl with | [_, _, _, _], _ => rfl
  have F9 := fun_mk (st := topS 12) l9 c9 k9
  have b9 := F9.binds (ps := ["links", "members", "label"]) fun _ _ _ _ _ _ us hl => match us, hl with | [_, _, _], _ => rfl
  have F10 := fun_mk (st := topS 14) l10 c10 k10
  have b10 := F10.binds (ps := ["links", "members", "choice"]) fun _ _ _ _ _ _ us hl => match us, hl with | [_, _, _], _ => rfl
  have F11 := fun_mk (st := topS 15) l11 c11 k11
  have b11 := F11.binds (ps := ["choices"]) fun _ _ _ _ _ _ us hl => match us, hl with | [_], _ => rfl
  have F12 := fun_mk (st := topS 16) l12 c12 k12
  have b12 := F12.binds (ps := ["links", "members"]) fun _ _ _ _ _ _ us hl => match us, hl with | [_, _], _ => rfl
  have F13 := fun_mk (st := topS 17) l13 c13 k13
  have b13 := F13.binds (ps := ["links", "count"]) fun _ _ _ _ _ _ us hl => match us, hl with | [_, _], _ => rfl
  have F14 := fun_mk (st := topS 18) l14 c14 k14
  have b14 := F14.binds (ps := ["problem"]) fun _ _ _ _ _ _ us hl => match us, hl with | [_], _ => rfl
  have F15 := fun_mk (st := topS 20) l15 c15 k15
  have b15 := F15.binds (ps := ["_law_script"]) fun _ _ _ _ _ _ us hl => match us, hl with | [_], _ => rfl
  have F16 := fun_mk (st := topS 21) l16 c16 k16
  have b16 := F16.binds (ps := ["_law_tape_here", "_law_many"]) fun _ _ _ _ _ _ us hl => match us, hl with | [_, _], _ => rfl
  have F17 := fun_mk (st := topS 22) l17 c17 k17
  have b17 := F17.binds (ps := ["_law_one", "_law_area"]) fun _ _ _ _ _ _ us hl => match us, hl with | [_, _], _ => rfl
  have F18 := fun_mk (st := topS 23) l18 c18 k18
  have b18 := F18.binds (ps := ["_law_one", "_law_other"]) fun _ _ _ _ _ _ us hl => match us, hl with | [_, _], _ => rfl
  have F19 := fun_mk (st := topS 24) l19 c19 k19
  have b19 := F19.binds (ps := ["_law_tape_here", "_law_low", "_law_size", "_law_room"]) fun _ _ _ _ _ _ us hl => match us, hl with | [_, _, _, _], _ => rfl
  have F20 := fun_mk (st := topS 25) l20 c20 k20
  have b20 := F20.binds (ps := ["_law_tape_here", "_law_area", "_law_size"]) fun _ _ _ _ _ _ us hl => match us, hl with | [_, _, _], _ => rfl
  have F21 := fun_mk (st := topS 26) l21 c21 k21
  have b21 := F21.binds (ps := ["_law_tape_here", "_law_area", "_law_form", "_law_labels"]) fun _ _ _ _ _ _ us hl => match us, hl with | [_, _, _, _], _ => rfl
  have F22 := fun_mk (st := topS 27) l22 c22 k22
  have b22 := F22.binds (ps := ["_law_tape_here", "_law_most"]) fun _ _ _ _ _ _ us hl => match us, hl with | [_, _], _ => rfl
  have F23 := fun_mk (st := topS 28) l23 c23 k23
  have b23 := F23.binds (ps := ["_law_problem_here", "_law_one"]) fun _ _ _ _ _ _ us hl => match us, hl with | [_, _], _ => rfl
  have F24 := fun_mk (st := topS 29) l24 c24 k24
  have b24 := F24.binds (ps := ["_law_placement", "_law_at"]) fun _ _ _ _ _ _ us hl => match us, hl with | [_, _], _ => rfl
  have F25 := fun_mk (st := topS 30) l25 c25 k25
  have b25 := F25.binds (ps := ["_law_placement"]) fun _ _ _ _ _ _ us hl => match us, hl with | [_], _ => rfl
  have F26 := fun_mk (st := topS 31) l26 c26 k26
  have b26 := F26.binds (ps := ["_law_problem_here", "_law_at"]) fun _ _ _ _ _ _ us hl => match us, hl with | [_, _], _ => rfl
  have F27 := fun_mk (st := topS 32) l27 c27 k27
  have b27 := F27.binds (ps := ["_law_script"]) fun _ _ _ _ _ _ us hl => match us, hl with | [_], _ => rfl
  have tp : Top w K mg ents gs ds K74.G false := by
    refine ⟨fun e he => ?_, fun g hg => ?_, fun f hf => ?_, fun g hg => ?_, fun hg => ?_⟩
    · simp only [List.mem_cons, List.not_mem_nil, or_false] at he
      rcases he with rfl | rfl | rfl | rfl | rfl | rfl | rfl | rfl | rfl | rfl | rfl | rfl | rfl | rfl | rfl | rfl | rfl | rfl | rfl | rfl | rfl | rfl | rfl | rfl | rfl | rfl | rfl | rfl
      · exact ⟨f0, _, PySem.W.mg_of X G' a0, F0, b0⟩
      · exact ⟨f1, _, PySem.W.mg_of X G' a1, F1, b1⟩
      · exact ⟨f2, _, PySem.W.mg_of X G' a2, F2, b2⟩
      · exact ⟨f3, _, PySem.W.mg_of X G' a3, F3, b3⟩
      · exact ⟨f4, _, PySem.W.mg_of X G' a4, F4, b4⟩
      · exact ⟨f5, _, PySem.W.mg_of X G' a5, F5, b5⟩
      · exact ⟨f6, _, PySem.W.mg_of X G' a6, F6, b6⟩
      · exact ⟨f7, _, PySem.W.mg_of X G' a7, F7, b7⟩
      · exact ⟨f8, _, PySem.W.mg_of X G' a8, F8, b8⟩
      · exact ⟨f9, _, PySem.W.mg_of X G' a9, F9, b9⟩
      · exact ⟨f10, _, PySem.W.mg_of X G' a10, F10, b10⟩
      · exact ⟨f11, _, PySem.W.mg_of X G' a11, F11, b11⟩
      · exact ⟨f12, _, PySem.W.mg_of X G' a12, F12, b12⟩
      · exact ⟨f13, _, PySem.W.mg_of X G' a13, F13, b13⟩
      · exact ⟨f14, _, PySem.W.mg_of X G' a14, F14, b14⟩
      · exact ⟨f15, _, PySem.W.mg_of X G' a15, F15, b15⟩
      · exact ⟨f16, _, PySem.W.mg_of X G' a16, F16, b16⟩
      · exact ⟨f17, _, PySem.W.mg_of X G' a17, F17, b17⟩
      · exact ⟨f18, _, PySem.W.mg_of X G' a18, F18, b18⟩
      · exact ⟨f19, _, PySem.W.mg_of X G' a19, F19, b19⟩
      · exact ⟨f20, _, PySem.W.mg_of X G' a20, F20, b20⟩
      · exact ⟨f21, _, PySem.W.mg_of X G' a21, F21, b21⟩
      · exact ⟨f22, _, PySem.W.mg_of X G' a22, F22, b22⟩
      · exact ⟨f23, _, PySem.W.mg_of X G' a23, F23, b23⟩
      · exact ⟨f24, _, PySem.W.mg_of X G' a24, F24, b24⟩
      · exact ⟨f25, _, PySem.W.mg_of X G' a25, F25, b25⟩
      · exact ⟨f26, _, PySem.W.mg_of X G' a26, F26, b26⟩
      · exact ⟨f27, _, PySem.W.mg_of X G' a27, F27, b27⟩
    · cases hg
    · simp only [bltAll, bltFns, bltTys, isiTys, List.cons_append, List.nil_append, List.mem_cons, List.not_mem_nil, or_false] at hf
      rcases hf with rfl | rfl | rfl | rfl | rfl | rfl | rfl | rfl | rfl | rfl | rfl | rfl | rfl | rfl | rfl | rfl | rfl | rfl | rfl | rfl | rfl | rfl
      · exact PySem.W.mg_none_of X G' z0
      · exact PySem.W.mg_none_of X G' z1
      · exact PySem.W.mg_none_of X G' z2
      · exact PySem.W.mg_none_of X G' z3
      · exact PySem.W.mg_none_of X G' z4
      · exact PySem.W.mg_none_of X G' z5
      · exact PySem.W.mg_none_of X G' z6
      · exact PySem.W.mg_none_of X G' z7
      · exact PySem.W.mg_none_of X G' z8
      · exact PySem.W.mg_none_of X G' z9
      · exact PySem.W.mg_none_of X G' z10
      · exact PySem.W.mg_none_of X G' z11
      · exact PySem.W.mg_none_of X G' z12
      · exact PySem.W.mg_none_of X G' z13
      · exact PySem.W.mg_none_of X G' z14
      · exact PySem.W.mg_none_of X G' z15
      · exact PySem.W.mg_none_of X G' z16
      · exact PySem.W.mg_none_of X G' z17
      · exact PySem.W.mg_none_of X G' z18
      · exact PySem.W.mg_none_of X G' z10
      · exact PySem.W.mg_none_of X G' z8
      · exact PySem.W.mg_none_of X G' z9
    · cases hg
    · cases hg
  have hl := l27
  have e := hfa.symm.trans (PySem.W.mg_of X G' a27)
  cases e
  refine ⟨PySem.W.fnOf "law" "law" (defArgs (topS 32)) (defBody (topS 32)) (defScope (topS 32)) .none q27 r27 t27 n27 u27 v27, fun s v => .of_eq rfl, fun base hK hG => ?_⟩
  obtain ⟨a', fd', h1, h2, h3, h4⟩ := entry_ok (P := l.prog) (w := w) (base := base) tp tab fs fsOk entsOk 9 ed_law (by simp)
  have e := h1.symm.trans hfa
  cases e
  obtain ⟨oc, od, kV, doc, pm, an, cdv, ct, osl, rfl, lk, hcd⟩ := h2.ex
  have e := lk.symm.trans hl
  cases e
  exact h4
end K74
open PySem PySem.W PyProof.Rows
set_option maxHeartbeats 0 in
theorem PySem.Challenge.cw_chartspec_k74_labels_in_the_clear_and_ob_holds : PySem.Challenge.rw_chartspec_k74_labels_in_the_clear_and_ob.Holds := by
  w_on; o_law; k_head; (case hw => w_witness2)
  k_fill
  refine Cs.walkG (l := PySem.Challenge.rw_chartspec_k74_labels_in_the_clear_and_ob) (n := 63) (k := 9) (x := "_law_script") (C := Cs.callF K74.tab K74.G 9 "law") rfl (by decide) rfl ⟨rfl, by decide, by decide⟩ (fun w h Y => PySem.W.kIn_of Y) ?F (fun ns _ => K74.law_holds ns 0)
  case F =>
    intro w mg fa h KX G' hmg
    refine' K74.all_mk KX G' hmg ?a0 ?l0 ?c0 ?k0 ?a1 ?l1 ?c1 ?k1 ?a2 ?l2 ?c2 ?k2 ?a3 ?l3 ?c3 ?k3 ?a4 ?l4 ?c4 ?k4 ?a5 ?l5 ?c5 ?k5 ?a6 ?l6 ?c6 ?k6 ?a7 ?l7 ?c7 ?k7 ?a8 ?l8 ?c8 ?k8 ?a9 ?l9 ?c9 ?k9 ?a10 ?l10 ?c10 ?k10 ?a11 ?l11 ?c11 ?k11 ?a12 ?l12 ?c12 ?k12 ?a13 ?l13 ?c13 ?k13 ?a14 ?l14 ?c14 ?k14 ?a15 ?l15 ?c15 ?k15 ?a16 ?l16 ?c16 ?k16 ?a17 ?l17 ?c17 ?k17 ?a18 ?l18 ?c18 ?k18 ?a19 ?l19 ?c19 ?k19 ?a20 ?l20 ?c20 ?k20 ?a21 ?l21 ?c21 ?k21 ?a22 ?l22 ?c22 ?k22 ?a23 ?l23 ?c23 ?k23 ?a24 ?l24 ?c24 ?k24 ?a25 ?l25 ?c25 ?k25 ?a26 ?l26 ?c26 ?k26 ?a27 ?l27 ?c27 ?k27 ?z0 ?z1 ?z2 ?z3 ?z4 ?z5 ?z6 ?z7 ?z8 ?z9 ?z10 ?z11 ?z12 ?z13 ?z14 ?z15 ?z16 ?z17 ?z18
    (case a0 => k_is)
    (case l0 => k_is)
    (case c0 => k_is)
    (case k0 => k_is)
    (case a1 => k_is)
    (case l1 => k_is)
    (case c1 => k_is)
    (case k1 => k_is)
    (case a2 => k_is)
    (case l2 => k_is)
    (case c2 => k_is)
    (case k2 => k_is)
    (case a3 => k_is)
    (case l3 => k_is)
    (case c3 => k_is)
    (case k3 => k_is)
    (case a4 => k_is)
    (case l4 => k_is)
    (case c4 => k_is)
    (case k4 => k_is)
    (case a5 => k_is)
    (case l5 => k_is)
    (case c5 => k_is)
    (case k5 => k_is)
    (case a6 => k_is)
    (case l6 => k_is)
    (case c6 => k_is)
    (case k6 => k_is)
    (case a7 => k_is)
    (case l7 => k_is)
    (case c7 => k_is)
    (case k7 => k_is)
    (case a8 => k_is)
    (case l8 => k_is)
    (case c8 => k_is)
    (case k8 => k_is)
    (case a9 => k_is)
    (case l9 => k_is)
    (case c9 => k_is)
    (case k9 => k_is)
    (case a10 => k_is)
    (case l10 => k_is)
    (case c10 => k_is)
    (case k10 => k_is)
    (case a11 => k_is)
    (case l11 => k_is)
    (case c11 => k_is)
    (case k11 => k_is)
    (case a12 => k_is)
    (case l12 => k_is)
    (case c12 => k_is)
    (case k12 => k_is)
    (case a13 => k_is)
    (case l13 => k_is)
    (case c13 => k_is)
    (case k13 => k_is)
    (case a14 => k_is)
    (case l14 => k_is)
    (case c14 => k_is)
    (case k14 => k_is)
    (case a15 => k_is)
    (case l15 => k_is)
    (case c15 => k_is)
    (case k15 => k_is)
    (case a16 => k_is)
    (case l16 => k_is)
    (case c16 => k_is)
    (case k16 => k_is)
    (case a17 => k_is)
    (case l17 => k_is)
    (case c17 => k_is)
    (case k17 => k_is)
    (case a18 => k_is)
    (case l18 => k_is)
    (case c18 => k_is)
    (case k18 => k_is)
    (case a19 => k_is)
    (case l19 => k_is)
    (case c19 => k_is)
    (case k19 => k_is)
    (case a20 => k_is)
    (case l20 => k_is)
    (case c20 => k_is)
    (case k20 => k_is)
    (case a21 => k_is)
    (case l21 => k_is)
    (case c21 => k_is)
    (case k21 => k_is)
    (case a22 => k_is)
    (case l22 => k_is)
    (case c22 => k_is)
    (case k22 => k_is)
    (case a23 => k_is)
    (case l23 => k_is)
    (case c23 => k_is)
    (case k23 => k_is)
    (case a24 => k_is)
    (case l24 => k_is)
    (case c24 => k_is)
    (case k24 => k_is)
    (case a25 => k_is)
    (case l25 => k_is)
    (case c25 => k_is)
    (case k25 => k_is)
    (case a26 => k_is)
    (case l26 => k_is)
    (case c26 => k_is)
    (case k26 => k_is)
    (case a27 => k_is)
    (case l27 => k_is)
    (case c27 => k_is)
    (case k27 => k_is)
    (case z0 => k_is)
    (case z1 => k_is)
    (case z2 => k_is)
    (case z3 => k_is)
    (case z4 => k_is)
    (case z5 => k_is)
    (case z6 => k_is)
    (case z7 => k_is)
    (case z8 => k_is)
    (case z9 => k_is)
    (case z10 => k_is)
    (case z11 => k_is)
    (case z12 => k_is)
    (case z13 => k_is)
    (case z14 => k_is)
    (case z15 => k_is)
    (case z16 => k_is)
    (case z17 => k_is)
    (case z18 => k_is)
