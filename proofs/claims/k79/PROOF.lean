import PyProof.Rows.All
import Wide.All
import OpenK.AllK
import Wide.FinOn
import HandS.RevTup
import HandS.Rev
import HandS.MapObj
import HandS.ForMost
import HandS.Flow
import HandS.Wide
import HandS.Style
import HandS.Gcd
import HandS.TupAny
import HandS.Conv
import HandS.DictComp
import KE.KDictCopyH
import KE.KDictList
import KE.KDictZip
import KE.GoesMore
import KE.GoesEnum
import KE.KDictDisplayH
import KE.GoesZip
import HandS.IsInst
import HandS.Deep
import HandS.Replace
import PySem.Challenge.RW_chartspec_k79_channels_that_can_be_read
import PyProof.ReprLen
import HandS.HeadHook2
set_option Elab.async false
set_option linter.all false
set_option maxRecDepth 100000
set_option maxHeartbeats 1000000
namespace Cs
open PySem PySem.Spec PyProof.Rows RT
theorem nolen_rt : typeLookup (.type "reversed") "__len__" = pure none := by rw [typeLookup_type, builtinLookup_eq_fast]; kernel_rfl
theorem hint_rt : typeLookup (.type "reversed") "__length_hint__" = pure (some (.builtin "reversed.__length_hint__")) := by rw [typeLookup_type, builtinLookup_eq_fast]; kernel_rfl
theorem slot_rt_hint : Slot "reversed" "__length_hint__" "reversed.__length_hint__" :=
  .of (owner := "reversed") (n := "__length_hint__") (by rw [typeLookup_type, builtinLookup_eq_fast]; kernel_rfl) (by decide +kernel) (by decide +kernel) (by decide +kernel)
    (by first | exact .inl (by decide +kernel) | exact .inr (by decide +kernel)) (by rw [isSubtype_type]; kernel_rfl)
theorem entry_rt_hint : entryFor table "reversed.__length_hint__" = some Builtin.«reversed.__length_hint__» := entryFor_of_tree (by kernel_rfl)
theorem args_rt_hint (a : Value) : argsOk "reversed.__length_hint__" ⟨[a], []⟩ := by
  unfold argsOk; rw [signature?_of (id := "reversed.__length_hint__") (n := ['_', '_', 't', 'n', 'i', 'h', '_', 'h', 't', 'g', 'n', 'e', 'l', '_', '_']) (o := ['d', 'e', 's', 'r', 'e', 'v', 'e', 'r']) (by kernel_rfl) owner_rt]; kernel_rfl
theorem bk_rt_hint : builtinKind "reversed.__length_hint__" = some .method := by decide +kernel
theorem bind_rt_hint (self : Value) : bindSpecial (.builtin "reversed.__length_hint__") self = pure (.builtin "reversed.__length_hint__", [self]) := by
  have hop : withoutEnding? "reversed.__length_hint__" "#opaque" = none := by decide +kernel
  have hdat : withoutEnding? "reversed.__length_hint__" "#data" = none := by decide +kernel
  simp only [bindSpecial, typeOf, builtinType, hop, hdat, bk_rt_hint]; rfl
theorem walks_rt {prog : Program} {w : World} {A : Around} (hh : A.handled = none) (I l : Addr) (hne : l ≠ I) (items : Array Value) (hsz : items.size ≤ sizeLine) :
    Walks prog w A I [I, l] [I] items.size (fun i v => items[items.size - 1 - i]? = some v) (fun i h => i ≤ items.size ∧ IsRt h I l ((items.size : Int) - 1 - (i : Int)) ∧ IsTup h l items) where
  sub := fun b hb => by simp at hb; simp [hb]
  frame := fun _ _ _ x hk => ⟨x.1, x.2.1.at fun o e => hk I (by simp) o e, let ⟨o, ho, r⟩ := x.2.2; ⟨o, hk l (by simp) o ho, r⟩⟩
  item := fun i s Q E hi x hQ => by
    have e : (items.size : Int) - 1 - (i : Int) = ((items.size - 1 - i : Nat) : Int) := by omega
    have hit := x.2.1
    rw [e] at hit
    have hx : items[items.size - 1 - i]? = some (items[items.size - 1 - i]'(by omega)) := Array.getElem?_eq_getElem (by omega)
    refine next_rt_item hit x.2.2 hx hsz fun h' hit' hs' => ?_
    have e2 : ((items.size - 1 - i : Nat) : Int) - 1 = (items.size : Int) - 1 - ((i + 1 : Nat) : Int) := by omega
    rw [e2] at hit'
    exact hQ _ h' (s.toks + 1) hx ⟨hi, hit', let ⟨o, ho, r⟩ := x.2.2; ⟨o, (hs'.2 l hne).trans ho, r⟩⟩ fun b o hb eo => hs'.extBut b o (fun h => hb (by simp [h])) eo
  done := fun s Q E x hQ => by
    have e : (items.size : Int) - 1 - (items.size : Int) = -1 := by omega
    have hit := x.2.1
    rw [e] at hit
    exact next_rt_end hh hit fun h' he' => hQ h' s.toks fun b o hb eo => he' b o (fun h => hb (by simp [h])) eo
  self := fun _ _ _ _ x hQ => iter_rt x.2.1 hQ
section
variable {prog : Program} {w : World} {A : Around} {E : Value → Shared → Prop} {s : Shared}
theorem call_rt_hint {it t : Addr} {items : Array Value} {Q : Value → Shared → Prop} (hit : IsRt s.heap it t ((items.size : Int) - 1)) (ht : IsTup s.heap t items) (hsz : items.size ≤ sizeLine)
    (hQ : ∀ k k', Q (.int items.size k) { s with toks := k' }) : wpAny (model prog w) A (call (.builtin "reversed.__length_hint__") [.ref it]) Q E s := by
  obtain ⟨o, ho, hc, hd⟩ := id hit
  rw [sizeLine_eq] at hsz
  refine wpAny_call_entry slot_rt_hint hit.typeIs entry_rt_hint ?_ (args_rt_hint _)
  unfold Builtin.«reversed.__length_hint__»
  refine wpAny_bind (wpAny_of_eq (a := Value.ref it) rfl ?_)
  refine wpAny_bind (wpAny_field ho hd (x := .ref t) rfl ?_)
  show wpAny _ _ (if _ then _ else _) _ _ s
  rw [if_neg (by intro h; cases h)]
  refine wpAny_bind (len_tuple ht (by omega) ?_)
  refine wpAny_bind (wpAny_of_eq (a := some (items.size : Int)) rfl ?_)
  try dsimp only
  refine wpAny_bind (wpAny_field (s := { s with toks := s.toks + 1 + 1 }) ho hd (x := rawInt ((items.size : Int) - 1)) rfl ?_)
  show wpAny _ _ (if (items.size : Int) < ((items.size : Int) - 1) + 1 then _ else _) _ _ _
  rw [if_neg (by omega)]
  have e : ((items.size : Int) - 1) + 1 = items.size := by omega
  rw [e]
  unfold retInt
  refine wpAny_bind (wpAny_mkInt ?_)
  exact wpAny_pure ⟨_, rfl, hQ _ _⟩
theorem hint_rt_ok {it t : Addr} {items : Array Value} {Q : Bool → Shared → Prop} (hit : IsRt s.heap it t ((items.size : Int) - 1)) (ht : IsTup s.heap t items) (hsz : items.size ≤ sizeLine)
    (hQ : ∀ k', Q ((items.size : Int) != 0) { s with toks := k' }) : wpAny (model prog w) A (Builtin.List.listLengthHint (.ref it)) Q E s := by
  unfold Builtin.List.listLengthHint
  refine wpAny_bind (wpAny_specialOf hit.typeIs nolen_rt ?_)
  show wpAny _ A (specialOf (Value.ref it) (Str.ofString "__length_hint__") >>= _) _ _ _
  refine wpAny_bind (wpAny_specialOf hit.typeIs hint_rt ?_)
  generalize hid : ("reversed.__length_hint__" : String) = id0
  wp_delta
  rw [show splitId id0 = some ("reversed", "__length_hint__") from by subst hid; decide +kernel]
  subst hid
  refine wpAny_bind (wpAny_isInstance (b := true) hit.typeIs (by rw [isSubtype_type]; kernel_rfl) ?_)
  rw [if_neg (by decide)]
  try dsimp only
  rw [if_neg (by decide +kernel)]
  refine wpAny_bind (wpAny_rule ?_)
  refine wpAny_bind (wpAny_of_eq (bind_rt_hint _) ?_)
  try dsimp only
  refine wpAny_bind (wpAny_attempt (call_rt_hint hit ht hsz fun k k' => ?_))
  try dsimp only
  obtain ⟨z, hz⟩ : ∃ z : Int, (items.size : Int) = z := ⟨_, rfl⟩
  rw [hz]
  have hQ' := hQ k'
  rw [hz] at hQ'
  have hs := hsz
  rw [sizeLine_eq] at hs
  have f1 : Builtin.List.listFitsIndex z = true := by unfold Builtin.List.listFitsIndex; simp; omega
  have f2 : Builtin.List.listTooLong z.toNat = false := by unfold Builtin.List.listTooLong; rw [decide_eq_false_iff_not, sizeLine_eq]; omega
  have ea : asInt? (Value.int z k) = pure (some z) := rfl
  try dsimp only
  refine wpAny_bind (wpAny_of_eq ea ?_)
  try dsimp only
  rw [if_neg (by rw [f1]; decide)]
  try dsimp only
  rw [if_neg (by omega)]
  try dsimp only
  rw [if_neg (by rw [f2]; decide)]
  exact wpAny_pure hQ'
theorem collect_rt {it l : Addr} {items : Array Value} {Q : List Value → Shared → Prop} (hh : A.handled = none) (hit : IsRt s.heap it l ((items.size : Int) - 1)) (hl : IsTup s.heap l items) (hne : l ≠ it) (hn : items.size ≤ sizeLine)
    (hQ : ∀ (h' : Heap) (tk : Nat) (acc : Array Value), (∀ b o, b ≠ it → s.heap.get? b = some o → h'.get? b = some o) → ItemsOf (fun i v => items[items.size - 1 - i]? = some v) acc items.size → Q acc.toList { s with heap := h', toks := tk }) :
    wpAny (model prog w) A (collect (.ref it)) Q E s := by
  have W := (walks_rt (prog := prog) (w := w) (A := A.in1) hh it l hne items hn).toS
  obtain ⟨oi, hoi, _⟩ := id hit
  obtain ⟨ol, hol, _⟩ := id hl
  have hSi : s.heap.objs.size ≠ it := Nat.ne_of_gt (Heap.lt_size hoi)
  have hSl : s.heap.objs.size ≠ l := Nat.ne_of_gt (Heap.lt_size hol)
  have hSf : s.heap.objs.size ∉ [it, l] := by simp only [List.mem_cons, List.not_mem_nil, or_false, not_or]; exact ⟨hSi, hSl⟩
  unfold collect
  refine wpAny_bind (wpAny_runValue (codeAny_builtin F.entry_proto_collect ?_))
  rw [Around.under_plainId F.plain_proto_collect _]
  show wpAny _ A.in1 (newList [] >>= fun l' => again (.builtin "list.__iadd__" ⟨[l', .ref it], []⟩)) _ _ s
  refine wpAny_bind (wpAny_newObj_type ?_)
  refine wpAny_pure ⟨plainId_quiet F.plain_list_iadd _, codeAny_builtin F.entry_list_iadd ?_⟩
  rw [Around.under_plainId F.plain_list_iadd _]
  have hS₁ : (s.heap.push { cls := .type "list", data := .seq ([] : List Value).toArray }).get? s.heap.objs.size = some { cls := .type "list", data := .seq ([] : List Value).toArray } := Heap.get?_push_size _ rfl
  have hit1 : IsRt (s.heap.push { cls := .type "list", data := .seq ([] : List Value).toArray }) it l ((items.size : Int) - 1) := hit.at fun o e => Heap.get?_push_of_some _ e
  have hl1 : IsTup (s.heap.push { cls := .type "list", data := .seq ([] : List Value).toArray }) l items := let ⟨o, ho, r⟩ := hl; ⟨o, Heap.get?_push_of_some _ ho, r⟩
  have hT : ({ s with heap := s.heap.push { cls := .type "list", data := .seq ([] : List Value).toArray } } : Shared).TypeIs (.ref it) "reversed" := IsRt.typeIs (s := { s with heap := s.heap.push { cls := .type "list", data := .seq ([] : List Value).toArray } }) hit1
  have h1 : Builtin.List.listSameRef (.ref s.heap.objs.size) (.ref it) = false := by simp [Builtin.List.listSameRef, hSi]
  show wpAny _ A.in1 (Builtin.List.listExtendWith (.ref s.heap.objs.size) (.ref it) (.ref s.heap.objs.size)) _ _ _
  unfold Builtin.List.listExtendWith
  refine wpAny_bind (wpAny_typeOf hT ?_)
  rw [if_neg (by rw [h1]; decide)]
  refine wpAny_bind (iter_rt (s := { s with heap := s.heap.push { cls := .type "list", data := .seq ([] : List Value).toArray } }) hit1 ?_)
  refine wpAny_bind (wpAny_holding ?_)
  refine hint_rt_ok (s := { s with heap := s.heap.push { cls := .type "list", data := .seq ([] : List Value).toArray } }) hit1 hl1 hn fun k' => ?_
  have e0 : ((items.size : Nat) : Int) - 1 - ((0 : Nat) : Int) = (items.size : Int) - 1 := by omega
  have z : ∀ (h2 : Heap) (k2 : Nat),
      (∀ b o, b ≠ s.heap.objs.size → (s.heap.push { cls := .type "list", data := .seq ([] : List Value).toArray }).get? b = some o → h2.get? b = some o) → IsRt h2 it l ((items.size : Int) - 1) ∧ IsTup h2 l items := fun h2 k2 ho =>
    ⟨hit1.at fun o e => ho it o (Ne.symm hSi) e, let ⟨o, hoo, r⟩ := hl1; ⟨o, ho l o (Ne.symm hSl) hoo, r⟩⟩
  by_cases c : items.size = 0
  · rw [if_neg (by rw [c]; decide +kernel)]
    obtain ⟨y1, y2⟩ := z _ k' fun _ _ _ e => e
    refine wpAny_pure ⟨plainId_quiet F.plain_extend_loop _, codeAny_extend_loopS W hn _ hSf _ items.size 0 _ _ _ rfl (Nat.zero_le _) ⟨Nat.zero_le _, by rw [e0]; exact y1, y2⟩ hS₁ (ItemsOf.nil _) fun s' acc' c' hm hS' hacc => ?_⟩
    show wpAny _ A (load s.heap.objs.size >>= _) _ _ s'
    refine wpAny_bind (wpAny_load hS' ?_)
    refine wpAny_pure ?_
    rw [Moved.eq_with hm]
    refine hQ s'.heap s'.toks acc' (fun b o hb e => hm.heap b o (fun hmem => ?_) (Heap.get?_push_of_some _ e)) hacc
    rcases List.mem_cons.mp hmem with e' | hmem
    · exact absurd (Heap.lt_size e) (by rw [e']; exact Nat.lt_irrefl _)
    · exact hb (List.mem_singleton.mp hmem)
  · have hc : ((items.size : Int) != 0) = true := by rw [bne_iff_ne]; omega
    rw [if_pos (by rw [hc]; rfl)]
    refine wpAny_bind (wpAny_rule ?_)
    refine wpAny_bind ?_
    show wpAny _ A.in1 (updateSeq s.heap.objs.size (·.push .none) >>= fun _ => updateSeq s.heap.objs.size (·.pop)) _ _ _
    refine wpAny_bind (wpAny_updateSeq hS₁ rfl ?_)
    have hS₂ := Heap.get?_update_self (Obj.mapSeq (·.push Value.none)) hS₁ rfl
    refine wpAny_updateSeq hS₂ rfl ?_
    have hS₃ := Heap.get?_update_self (Obj.mapSeq (·.pop)) hS₂ rfl
    have oth : ∀ b o, b ≠ s.heap.objs.size → (s.heap.push { cls := .type "list", data := .seq ([] : List Value).toArray }).get? b = some o →
        (((s.heap.push { cls := .type "list", data := .seq ([] : List Value).toArray }).update s.heap.objs.size (Obj.mapSeq (·.push Value.none))).update s.heap.objs.size (Obj.mapSeq (·.pop))).get? b = some o :=
      fun b o hb e => (Heap.get?_update_other _ _ (Ne.symm hb)).trans ((Heap.get?_update_other _ _ (Ne.symm hb)).trans e)
    obtain ⟨y1, y2⟩ := z _ k' oth
    refine wpAny_pure ⟨plainId_quiet F.plain_extend_loop _, codeAny_extend_loopS W hn _ hSf _ items.size 0 _ _ _ rfl (Nat.zero_le _) ⟨Nat.zero_le _, by rw [e0]; exact y1, y2⟩ hS₃ (ItemsOf.nil _) fun s' acc' c' hm hS' hacc => ?_⟩
    show wpAny _ A (load s.heap.objs.size >>= _) _ _ s'
    refine wpAny_bind (wpAny_load hS' ?_)
    refine wpAny_pure ?_
    rw [Moved.eq_with hm]
    refine hQ s'.heap s'.toks acc' (fun b o hb e => hm.heap b o (fun hmem => ?_) (oth b o (Nat.ne_of_lt (Heap.lt_size e)) (Heap.get?_push_of_some _ e))) hacc
    rcases List.mem_cons.mp hmem with e' | hmem
    · exact absurd (Heap.lt_size e) (by rw [e']; exact Nat.lt_irrefl _)
    · exact hb (List.mem_singleton.mp hmem)
theorem code_tuple_new_rt {it l : Addr} {items : Array Value} {Q₁ : Value → Shared → Prop} (hh : A.handled = none) (hit : IsRt s.heap it l ((items.size : Int) - 1)) (hl : IsTup s.heap l items) (hne : l ≠ it) (hn : items.size ≤ sizeLine)
    (h : ∀ (h' : Heap) (tk : Nat) (acc : Array Value), (∀ b o, b ≠ it → s.heap.get? b = some o → h'.get? b = some o) → ItemsOf (fun i v => items[items.size - 1 - i]? = some v) acc items.size →
      Q₁ (.ref h'.objs.size) { s with heap := h'.push { cls := .type "tuple", data := .seq acc }, toks := tk }) :
    codeAny (model prog w) A (.call (.builtin "tuple.__new__") ⟨[.type "tuple", .ref it], []⟩) (wants Q₁ E) s := by
  refine codeAny_of_tree ?_
  show wpAny _ A.in1 (do checkBuiltinCall "tuple.__new__" ⟨[.type "tuple", .ref it], []⟩; again (.builtin "tuple.__new__" ⟨[.type "tuple", .ref it], []⟩)) _ _ s
  refine wpAny_bind (wpAny_of_eq (F.newCall_tuple_1 _) (wpAny_pure ⟨plainId_quiet F.plain_tuple_new _, codeAny_builtin F.entry_tuple_new ?_⟩))
  rw [Around.under_plainId F.plain_tuple_new _]
  have hsub := sub_tuple_self
  have hinit := init_tuple_lookup
  have hmh := madeHere_tuple
  have hTI : s.TypeIs (.ref it) "reversed" := hit.typeIs
  have hh1 : A.in1.handled = none := hh
  wp_walk using wpAny_typeOf hTI, collect_rt (A := A.in1) hh1 hit hl hne hn
  intro h' tk acc hk hacc
  show wpAny _ _ (Builtin.Tuple.tupleExact acc.toList.toArray >>= fun v => ret v) _ _ _
  unfold Builtin.Tuple.tupleExact
  refine wpAny_bind (wpAny_newObj_type ?_ (by show acc.toList.toArray.size ≤ sizeLine; simp only [Array.toArray_toList]; rw [hacc.1]; exact hn))
  refine wpAny_pure ?_
  have e : acc.toList.toArray = acc := by simp
  rw [e]
  exact h h' tk acc hk hacc
theorem call_tuple_rt {it l : Addr} {items : Array Value} {Q : Value → Shared → Prop} (hh : A.handled = none) (hit : IsRt s.heap it l ((items.size : Int) - 1)) (hl : IsTup s.heap l items) (hne : l ≠ it) (hn : items.size ≤ sizeLine)
    (hQ : ∀ (h' : Heap) (tk : Nat) (acc : Array Value), (∀ b o, b ≠ it → s.heap.get? b = some o → h'.get? b = some o) → ItemsOf (fun i v => items[items.size - 1 - i]? = some v) acc items.size →
      Q (.ref h'.objs.size) { s with heap := h'.push { cls := .type "tuple", data := .seq acc }, toks := tk }) :
    wpAny (model prog w) A (call (.type "tuple") [.ref it]) Q E s := by
  refine callType_codes (Q₁ := fun obj s₁ => s₁.TypeIs obj "tuple" ∧ Q obj s₁) F.called_tuple (F.typeCall_tuple_1 _) F.entry_object_init
    (code_tuple_new_rt (A := A.in1) hh hit hl hne hn fun h' tk acc hk hacc => ⟨⟨_, Heap.get?_push_size _ rfl, rfl⟩, hQ h' tk acc hk hacc⟩) fun obj s₁ h₁ => ?_
  exact ⟨h₁.1, F.args_object_init_2 obj _, object_init_meets F.called_tuple.init.lookup F.called_tuple.made (by decide) prog w A.in1 _ s₁ ⟨h₁.1, rfl, h₁.2⟩⟩
end
end Cs

set_option Elab.async false
set_option linter.all false
set_option maxRecDepth 100000
namespace Cs
open PySem PySem.Spec PyProof.Rows L2

/-- a value as data; lists and dicts by their place in the store -/
inductive D where
  | non | bl (b : Bool) | int (i : Int) | str (s : Str) | tup (xs : List D) | loc (n : Nat)
deriving Inhabited

/-- what stands at a place of the store: a list, a list that is only read, a dict with plain keys, a dict whose keys are tuples -/
inductive SO where
  | lst (xs : List D) | ro (xs : List D) | dk (kvs : List (Key × D)) | dt (kvs : List (List Key × D))
deriving Inhabited
abbrev Sto := List SO
abbrev Ev := List (Option D)

/-- how tuples are told of: as it comes; each as one that was made (none is a constant of the text); each by its object, which has no dict -/
inductive Md where
  | loose | trk | pln
deriving DecidableEq
class Sct where
  md : Md
def SqP (K : PySem.W.Frag) (H : Hp) (a : Addr) (xs : List V) : Prop := ∃ o, (H a = some (.frz o (.tup xs)) ∨ K.lookup a = some o) ∧ o.dict = none
def SqX [Sct] (K : PySem.W.Frag) (H : Hp) (a : Addr) (xs : List V) : Prop := SqT K H a xs ∧ (Sct.md = .trk → H a = some (.tup xs)) ∧ (Sct.md = .pln → SqP K H a xs)
theorem SqX.new [Sct] {K : PySem.W.Frag} {H : Hp} {a : Addr} {xs : List V} (h : Sct.md ≠ .pln) : SqX K (upd H a (.tup xs)) a xs := ⟨SqT.of upd_same, fun _ => upd_same, fun e => absurd e h⟩
theorem SqX.newP [Sct] {K : PySem.W.Frag} {H : Hp} {a : Addr} {xs : List V} {o : Obj} (h : Sct.md = .pln) (hd : o.dict = none) : SqX K (upd H a (.frz o (.tup xs))) a xs :=
  ⟨.inl (.inr ⟨o, upd_same⟩), fun e => (by rw [h] at e; cases e), fun _ => ⟨o, .inl upd_same, hd⟩⟩
variable [Sct]
mutual
def Rp (K : PySem.W.Frag) (H : Hp) (ρ : List Addr) : D → V → Prop
  | .non, v => v = .non
  | .bl b, v => v = .bl b
  | .int i, v => v = .int i
  | .str s, v => v = .str s
  | .tup ds, v => ∃ a vs, v = .ref a ∧ SqX K H a vs ∧ RpL K H ρ ds vs
  | .loc n, v => ∃ a, v = .ref a ∧ ρ[n]? = some a
def RpL (K : PySem.W.Frag) (H : Hp) (ρ : List Addr) : List D → List V → Prop
  | [], vs => vs = []
  | d :: ds, vs => ∃ v r, vs = v :: r ∧ Rp K H ρ d v ∧ RpL K H ρ ds r
end

/-- tuples and read-only things persist -/
structure Mono (H H' : Hp) : Prop where
  tup : ∀ b xs, H b = some (.tup xs) → H' b = some (.tup xs)
  frz : ∀ b o u, H b = some (.frz o u) → H' b = some (.frz o u)
theorem Mono.refl {H : Hp} : Mono H H := ⟨fun _ _ e => e, fun _ _ _ e => e⟩
theorem Mono.trans {A B C : Hp} (h : Mono A B) (k : Mono B C) : Mono A C := ⟨fun b x e => k.tup b x (h.tup b x e), fun b o u e => k.frz b o u (h.frz b o u e)⟩
theorem Mono.sqT {K : PySem.W.Frag} {H H' : Hp} {a : Addr} {xs : List V} (m : Mono H H') (h : SqT K H a xs) : SqT K H' a xs := by
  rcases h with (h | ⟨o, h⟩) | h
  · exact .inl (.inl (m.tup _ _ h))
  · exact .inl (.inr ⟨o, m.frz _ _ _ h⟩)
  · exact .inr h
theorem Mono.sqX {K : PySem.W.Frag} {H H' : Hp} {a : Addr} {xs : List V} (m : Mono H H') (h : SqX K H a xs) : SqX K H' a xs := ⟨m.sqT h.1, fun e => m.tup _ _ (h.2.1 e), fun e => let ⟨o, z, d⟩ := h.2.2 e; ⟨o, z.elim (fun z => .inl (m.frz _ _ _ z)) .inr, d⟩⟩
theorem Mono.new {H : Hp} {p : Addr} {o : HO} (h : H p = none) : Mono H (upd H p o) :=
  ⟨fun b xs e => by rw [upd_ne (ne_of_none e h)]; exact e, fun b o u e => by rw [upd_ne (ne_of_none e h)]; exact e⟩
theorem Mono.lst {H : Hp} {p : Addr} {xs : List V} {o : HO} (h : H p = some (.lst xs)) : Mono H (upd H p o) :=
  ⟨fun b ys e => by rw [upd_ne (ne_of e h (by intro z; cases z))]; exact e, fun b o u e => by rw [upd_ne (ne_of e h (by intro z; cases z))]; exact e⟩

theorem Mono.dk {H : Hp} {p : Addr} {xs : List (Key × V)} {o : HO} (h : H p = some (.dK xs)) : Mono H (upd H p o) :=
  ⟨fun b ys e => by rw [upd_ne (ne_of e h (by intro z; cases z))]; exact e, fun b o u e => by rw [upd_ne (ne_of e h (by intro z; cases z))]; exact e⟩
theorem Mono.dt {H : Hp} {p : Addr} {xs : List (List Key × V)} {o : HO} (h : H p = some (.dT xs)) : Mono H (upd H p o) :=
  ⟨fun b ys e => by rw [upd_ne (ne_of e h (by intro z; cases z))]; exact e, fun b o u e => by rw [upd_ne (ne_of e h (by intro z; cases z))]; exact e⟩

theorem pre_get {α : Type} {l l' : List α} (h : l <+: l') {i : Nat} {a : α} (e : l[i]? = some a) : l'[i]? = some a := by
  obtain ⟨t, rfl⟩ := h
  rw [List.getElem?_append_left (List.getElem?_eq_some_iff.mp e).1]; exact e

mutual
theorem Rp.mono {K : PySem.W.Frag} {H H' : Hp} {ρ ρ' : List Addr} (m : Mono H H') (p : ρ <+: ρ') : ∀ (d : D) (v : V), Rp K H ρ d v → Rp K H' ρ' d v
  | .non, _, h => h
  | .bl _, _, h => h
  | .int _, _, h => h
  | .str _, _, h => h
  | .tup ds, v, h => by
    obtain ⟨a, vs, e, hs, hr⟩ := h
    exact ⟨a, vs, e, m.sqX hs, RpL.mono m p ds vs hr⟩
  | .loc n, v, h => by
    obtain ⟨a, e, h⟩ := h
    exact ⟨a, e, pre_get p h⟩
theorem RpL.mono {K : PySem.W.Frag} {H H' : Hp} {ρ ρ' : List Addr} (m : Mono H H') (p : ρ <+: ρ') : ∀ (ds : List D) (vs : List V), RpL K H ρ ds vs → RpL K H' ρ' ds vs
  | [], _, h => h
  | d :: ds, vs, h => by
    obtain ⟨v, r, e, h1, h2⟩ := h
    exact ⟨v, r, e, Rp.mono m p d v h1, RpL.mono m p ds r h2⟩
end
end Cs

set_option Elab.async false
set_option linter.all false
set_option maxRecDepth 100000
namespace Cs
open PySem PySem.Spec PyProof.Rows L2

/-! ### rules that the hand layer lacks -/
/-- what is wanted of a new tuple: told of as one that was made, or by its object -/
def TQ (H : Hp) (xs : List V) (Q : VK) : Prop := ∀ p o, H p = none → o.cls = .type "tuple" → o.dict = none → Q (.ref p) (upd H p (.tup xs)) ∨ Q (.ref p) (upd H p (.frz o (.tup xs)))
theorem laidT {X : Cx} {pins : List (Addr × Obj)} {σ : L2.St} {H : Hp} {s : Shared} {h' : Heap} {p : Addr} {o : Obj} {its : List Value} {n t' : Nat} {xs : List V} {Q : VK} (I : Inv X pins σ H s) (k : ∀ b u, s.heap.get? b = some u → h'.get? b = some u)
    (hp : s.heap.objs.size ≤ p) (e : h'.get? p = some o) (hc : o.cls = .type "tuple") (hd : o.dict = none) (hdat : o.data = .seq its.toArray n) (r : Vals xs its) (hz : xs.length ≤ sizeLine) (q : TQ H xs Q) :
    EP X pins σ Q (.ref p) { s with heap := h', toks := t' } := by
  have new : ObjOk X.prog X.w (upd H p (.tup xs)) h' p (.tup xs) := ⟨hz, its, r, o, e, hc, n, hdat⟩
  have hn : H p = none := I.hok.fresh hp
  rcases q p o hn hc hd with q | q
  · exact ⟨.ref p, _, I.laid k hp new, rfl, q⟩
  · have new2 : ObjOk X.prog X.w (upd H p (.frz o (.tup xs))) h' p (.frz o (.tup xs)) := ⟨e, hz, its, r, o, e, hc, n, hdat⟩
    exact ⟨.ref p, _, I.laid k hp new2, rfl, q⟩
theorem obj_there {P : Program} {w : World} {H : Hp} {h : Heap} {a : Addr} {o : HO} (x : ObjOk P w H h a o) : ∃ u, h.get? a = some u := by
  cases o with
  | lst xs => obtain ⟨_, its, n, _, z⟩ := x; exact ⟨_, z⟩
  | tup xs => obtain ⟨_, its, _, u, z, _⟩ := x; exact ⟨u, z⟩
  | dK kvs => obtain ⟨_, _, vs, _, u, es, ep, z, _⟩ := x; exact ⟨u, z⟩
  | dT kvs => obtain ⟨_, _, vs, _, u, es, ep, z, _⟩ := x; exact ⟨u, z⟩
  | set S n => obtain ⟨u, _, _, _, z, _⟩ := x; exact ⟨u, z⟩
  | ins C dx fs => obtain ⟨_, _, _, z, _⟩ := x; exact ⟨_, z⟩
  | own y => exact x
  | xd fs => obtain ⟨_, ⟨u, _, _, z, _⟩, _⟩ := x; exact ⟨u, z⟩
  | rng lo hi => obtain ⟨_, _, _, z⟩ := x; exact ⟨_, z⟩
  | frz ob u => exact ⟨_, x.1⟩
  | tbl ps => exact ⟨_, x⟩
  | met f y => exact ⟨_, x⟩
  | ext φ => exact x.2.1
section
variable {X : Cx}
theorem pairs_at {H : Hp} : ∀ {kvs : List (List Key × V)} {ys : List (List Key × Addr × Value)}, KT H kvs ys → Paired (fun (kv : List Key × V) (a : Addr) => H a = some (.tup (kv.1.map kV))) kvs (ys.map (·.2.1))
  | _, _, .nil => .nil
  | _, _, .cons h t => .cons h.2.1 (pairs_at t)
/-- list(d), the keys tuples -/
theorem call_list_dT (hc : X.calm = true) : CallR X (.type "list") (fun xs H Q => ∃ p kvs, xs = [.ref p] ∧ H p = some (.dT kvs) ∧
    ∀ q as, H q = none → Paired (fun (kv : List Key × V) (a : Addr) => H a = some (.tup (kv.1.map kV))) kvs as → Q (.ref q) (upd H q (.lst (as.map V.ref)))) := by
  intro pins s σ H xs us Q I r h
  obtain ⟨p, kvs, rfl, hp, q⟩ := h
  obtain ⟨u, rfl, ru⟩ := vals1 r
  cases ru
  obtain ⟨z, low, ys, rel, o, es, ep, ho, hx, hdat, hes, _⟩ := dt_of I.hok hp
  have hl : es.size = kvs.length := by rw [← Array.length_toList, hes, List.length_map, Paired.length rel]
  refine PySem.W.kdl_call (KdlSrc.rawDict (es := es) (ep := ep) low) (I.ok.hd hc) ⟨o, ho, hx, hdat⟩ (by rw [hl]; exact z) fun h' tk acc c hkeep hS hacc => ?_
  have key : acc.toList = ys.map fun y => Value.ref y.2.1 := by
    refine List.ext_getElem? fun j => ?_
    rw [Array.getElem?_toList, List.getElem?_map]
    cases e : acc[j]? with
    | some w =>
      obtain ⟨hi, ew⟩ := hacc.2 j w e
      have e3 : es.toList[j]? = some es[j] := by rw [Array.getElem?_toList]; exact Array.getElem?_eq_getElem hi
      rw [hes, List.getElem?_map] at e3
      cases e4 : ys[j]? with
      | none => rw [e4] at e3; cases e3
      | some y =>
        rw [e4] at e3
        have e5 := Option.some.inj e3
        rw [ew, ← e5]; rfl
    | none =>
      have hj : acc.size ≤ j := Array.getElem?_eq_none_iff.mp e
      have : ys[j]? = none := by
        rw [List.getElem?_eq_none_iff, ← Paired.length rel, ← hl, ← hacc.1]; exact hj
      rw [this]; rfl
  have as : Paired (fun (kv : List Key × V) (a : Addr) => H a = some (.tup (kv.1.map kV))) kvs (ys.map (·.2.1)) := by
    exact pairs_at rel
  refine ⟨.ref s.heap.objs.size, upd H s.heap.objs.size (.lst ((ys.map (·.2.1)).map V.ref)), I.laid hkeep (Nat.le_refl _) ⟨?_, acc.toList, c, ?_, ?_⟩, rfl, q _ _ (I.hok.fresh (Nat.le_refl _)) as⟩
  · rw [List.length_map, List.length_map, ← Paired.length rel]; exact z
  · rw [key]
    clear key hes as hl
    generalize ys = l
    induction l with
    | nil => exact .nil
    | cons y l ih => exact .cons rfl ih
  · rw [Array.toArray_toList]; exact hS
/-- tuple(reversed(a)), a a list -/
theorem pe_trev {e : Expr} {te : TE} {p1 p2 p3 p4 : Pos} (hc : X.calm = true) (g1 : Gl X "tuple") (m1 : X.mg "tuple" = none) (g2 : Gl X "reversed") (m2 : X.mg "reversed" = none) (he : PE X e te)
    (hs : starEach [e] X.env = [(false, eval e X.env)]) :
    PE X (.Call (.Name "tuple" p1) [.Call (.Name "reversed" p2) [e] [] p3] [] p4) (fun σ H Q => te σ H fun x H1 => ∃ a xs, x = .ref a ∧ (SqL X.K H1 a xs ∨ SqT X.K H1 a xs) ∧ TQ H1 xs.reverse Q) := by
  refine ⟨fun pins s σ H Q I h => ?_⟩
  refine wpAny_Call_Name_kw (ld_blt I g1 m1 (show bootBuiltins "tuple" = some (.type "tuple") from by decide +kernel) ?_)
  refine PyProof.Rows.callWith_type1 ?_ rfl rfl
  show wpAny _ _ (spliced [(false, eval (.Call (.Name "reversed" p2) [e] [] p3) X.env)]) _ _ s
  refine Calls.spliced_cons ?_
  refine wpAny_Call_Name_kw (ld_blt I g2 m2 PyProof.Rows.boot_reversed ?_)
  refine PyProof.Rows.callWith_type1 ?_ hs rfl
  rw [hs]
  show wpAny _ _ (spliced [(false, eval e X.env)]) _ _ s
  refine Calls.spliced_cons (thn (he.run pins s σ H _ I h) fun u s1 ⟨x, H1, I1, r1, a, xs, e2, hq, q⟩ => Calls.spliced_nil ?_)
  subst e2
  cases r1
  rcases hq with hq | hq
  · obtain ⟨its, rv, pl, hz⟩ := I1.list hq
    have hl := rv.length
    refine call_reversed_list pl.isList (Calls.spliced_nil ?_)
    have new : H1 s1.heap.objs.size = none := I1.hok.fresh (Nat.le_refl _)
    have there : ∀ b o, s1.heap.get? b = some o → (s1.heap.push (revObj a ((its.toArray.size : Int) - 1))).get? b = some o := fun b o z => Heap.get?_push_of_some _ z
    have ne : a ≠ s1.heap.objs.size := by
      obtain ⟨o, n, ho, _⟩ := pl
      exact Nat.ne_of_lt (Heap.lt_size ho)
    refine RT.call_tuple_rev (l := a) (items := its.toArray) (I.ok.hd hc) ⟨_, Heap.get?_push_size _ rfl, rfl, rfl⟩ (pl.isList.at fun o z => there a o z) ne (by rw [List.size_toArray, ← hl]; exact hz) fun h' tk acc hk hacc => ?_
    have eacc : acc.toList = its.reverse := by
      refine List.ext_getElem? fun j => ?_
      rw [Array.getElem?_toList]
      cases e : acc[j]? with
      | some w =>
        have hj : j < acc.size := (Array.getElem?_eq_some_iff.mp e).1
        have h1 := hacc.2 j w e
        have h2 := hacc.1
        simp only [List.size_toArray, List.getElem?_toArray] at h1 h2
        rw [List.getElem?_reverse (by omega), h1]
      | none =>
        have hj : acc.size ≤ j := Array.getElem?_eq_none_iff.mp e
        have h2 := hacc.1
        simp only [List.size_toArray] at h2
        rw [List.getElem?_eq_none (by rw [List.length_reverse]; omega)]
    have keep : ∀ b o, b ≠ s1.heap.objs.size → s1.heap.get? b = some o → h'.get? b = some o := fun b o hb z => hk b o hb (there b o z)
    obtain ⟨f0, f1, f2, f3, f4, f5⟩ := I1.fpOk (H' := H1) (Nat.le_refl _) new
    have I2 : Inv X pins σ H1 { s1 with heap := h', toks := tk } := I1.turned keep f0 f1 f3 f4 f5
    refine laidT (s := { s1 with heap := h', toks := tk }) (its := acc.toList) (n := 0) I2 (fun b o z => Heap.get?_push_of_some _ z) (Nat.le_refl _) (Heap.get?_push_size _ rfl) rfl rfl (by rw [Array.toArray_toList]) (by rw [eacc]; exact rv.reverse) (by rw [List.length_reverse]; exact hz) q
  · obtain ⟨its, rv, pl, hz⟩ := I1.tuple hq
    have hl := rv.length
    refine RT.call_reversed_tup pl (fun A E Q k => len_tuple pl (by have := line63; simp only [List.size_toArray]; omega) k) (Calls.spliced_nil ?_)
    have new : H1 s1.heap.objs.size = none := I1.hok.fresh (Nat.le_refl _)
    have there : ∀ b o, s1.heap.get? b = some o → (s1.heap.push (RT.rtObj a ((its.toArray.size : Int) - 1))).get? b = some o := fun b o z => Heap.get?_push_of_some _ z
    have ne : a ≠ s1.heap.objs.size := by
      obtain ⟨o, ho, _⟩ := pl
      exact Nat.ne_of_lt (Heap.lt_size ho)
    refine call_tuple_rt (l := a) (items := its.toArray) (I.ok.hd hc) ⟨_, Heap.get?_push_size _ rfl, rfl, rfl⟩ (let ⟨o, ho, r⟩ := pl; ⟨o, there a o ho, r⟩) ne (by rw [List.size_toArray, ← hl]; exact hz) fun h' tk acc hk hacc => ?_
    have eacc : acc.toList = its.reverse := by
      refine List.ext_getElem? fun j => ?_
      rw [Array.getElem?_toList]
      cases e : acc[j]? with
      | some w =>
        have hj : j < acc.size := (Array.getElem?_eq_some_iff.mp e).1
        have h1 := hacc.2 j w e
        have h2 := hacc.1
        simp only [List.size_toArray, List.getElem?_toArray] at h1 h2
        rw [List.getElem?_reverse (by omega), h1]
      | none =>
        have hj : acc.size ≤ j := Array.getElem?_eq_none_iff.mp e
        have h2 := hacc.1
        simp only [List.size_toArray] at h2
        rw [List.getElem?_eq_none (by rw [List.length_reverse]; omega)]
    have keep : ∀ b o, b ≠ s1.heap.objs.size → s1.heap.get? b = some o → h'.get? b = some o := fun b o hb z => hk b o hb (there b o z)
    obtain ⟨f0, f1, f2, f3, f4, f5⟩ := I1.fpOk (H' := H1) (Nat.le_refl _) new
    have I2 : Inv X pins σ H1 { s1 with heap := h', toks := tk } := I1.turned keep f0 f1 f3 f4 f5
    refine laidT (s := { s1 with heap := h', toks := tk }) (its := acc.toList) (n := 0) I2 (fun b o z => Heap.get?_push_of_some _ z) (Nat.le_refl _) (Heap.get?_push_size _ rfl) rfl rfl (by rw [Array.toArray_toList]) (by rw [eacc]; exact rv.reverse) (by rw [List.length_reverse]; exact hz) q
/-- a written tuple -/
theorem pe_tupV {es : List Expr} {ta : TA} {n : Nat} {pos : Pos} (h : PA X es ta) : PE X (.Tuple es n pos) (fun σ H Q => ta σ H fun xs H1 => xs.length ≤ sizeLine ∧ TQ H1 xs Q) := by
  refine ⟨fun pins s σ H Q I hq => wpAny_Tuple_spliced (thn (h.run pos pins s σ H _ I hq) fun us s1 ⟨xs, H1, I1, r, z, q⟩ => ⟨by rw [← r.length]; exact z, ?_⟩)⟩
  exact laidT (its := us) (t' := s1.toks) (n := 0) I1 (fun b u e => Heap.get?_push_of_some _ e) (Nat.le_refl _) (Heap.get?_push_size _ rfl) rfl rfl rfl r z q
/-- t + u -/
theorem op_catV : OpR X (binaryOp .Add) (fun x y H Q => ∃ a b xs ys, x = .ref a ∧ y = .ref b ∧ SqT X.K H a xs ∧ SqT X.K H b ys ∧ xs.length + ys.length ≤ sizeLine ∧
    (xs = [] → Q (.ref b) H) ∧ (xs ≠ [] → ys = [] → Q (.ref a) H) ∧ (xs ≠ [] → ys ≠ [] → TQ H (xs ++ ys) Q)) := by
  intro pins s σ H x y v u Q I rx ry h
  obtain ⟨a, b, xs, ys, rfl, rfl, ha, hb, hz, q0, q1, q2⟩ := h
  by_cases c1 : xs = []
  · subst c1
    exact op_catA pins s σ H _ _ v u Q I rx ry ⟨a, b, [], ys, rfl, rfl, ha, hb, hz, q0, fun z => absurd rfl z, fun z => absurd rfl z⟩
  by_cases c2 : ys = []
  · subst c2
    exact op_catA pins s σ H _ _ v u Q I rx ry ⟨a, b, xs, [], rfl, rfl, ha, hb, hz, q0, q1, fun _ z => absurd rfl z⟩
  cases rx
  cases ry
  obtain ⟨its, r1, p1, _⟩ := I.tuple ha
  obtain ⟨jts, r2, p2, _⟩ := I.tuple hb
  refine HT.cat_tup p1 p2 (fun z => c1 (r1.nil_iff.mp z)) (fun z => absurd (r2.nil_iff.mp z) c2) (fun z => ?_) (by rw [← r1.length, ← r2.length]; exact hz)
  exact laidT (its := its ++ jts) (t' := s.toks) (n := 0) I (fun b u e => Heap.get?_push_of_some _ e) (Nat.le_refl _) (Heap.get?_push_size _ rfl) rfl rfl rfl (r1.append r2) (by rw [List.length_append]; exact hz) (q2 c1 c2)
/-- t[lo:hi] -/
theorem sl_tupV : SlR X (fun x lo hi H Q => ∃ a xs, x = .ref a ∧ SqT X.K H a xs ∧ (HT.sIx xs.length 0 lo = 0 ∧ HT.sIx xs.length xs.length hi = xs.length → Q (.ref a) H) ∧
    (¬ (HT.sIx xs.length 0 lo = 0 ∧ HT.sIx xs.length xs.length hi = xs.length) → TQ H (cutV xs lo hi) Q)) := by
  intro pins s σ H x v vl vu lo hi sl Q I rx hs pl pu h
  obtain ⟨a, xs, rfl, hx, q1, q2⟩ := h
  by_cases hw : HT.sIx xs.length 0 lo = 0 ∧ HT.sIx xs.length xs.length hi = xs.length
  · exact sl_tupA pins s σ H _ v vl vu lo hi sl Q I rx hs pl pu ⟨a, xs, rfl, hx, q1, fun z => absurd hw z⟩
  cases rx
  obtain ⟨its, r, ht, hz⟩ := I.tuple hx
  have hl : its.toArray.size = xs.length := by rw [List.size_toArray]; exact r.length.symm
  refine ⟨"tuple", _, PyProof.Rows.slot_tuple_getitem.lookup, ht.typeIs, HT.getItem_tuple_cut ht hs pl pu (by rw [hl]; exact hw) ?_ (by rw [hl]; exact hz)⟩
  rw [hl]
  exact laidT (t' := s.toks) (n := 0) I (fun b u e => Heap.get?_push_of_some _ e) (Nat.le_refl _) (Heap.get?_push_size _ rfl) rfl rfl rfl ((r.drop (HT.sIx xs.length 0 lo)).take (HT.sIx xs.length xs.length hi - HT.sIx xs.length 0 lo))
    (Nat.le_trans (cutV_length xs lo hi) hz) (q2 hw)
/-- tuple(x) -/
theorem call_tupV : CallR X (.type "tuple") (fun xs H Q => ∃ p ys, xs = [.ref p] ∧ ((SqL X.K H p ys ∧ TQ H ys Q) ∨ (SqT X.K H p ys ∧ Q (.ref p) H))) := by
  intro pins s σ H xs us Q I r h
  obtain ⟨p, ys, rfl, h⟩ := h
  rcases h with ⟨hq, q⟩ | h
  · obtain ⟨u, rfl, rx⟩ := vals1 r
    cases rx
    obtain ⟨its, r', pl, hz⟩ := I.list hq
    have hl := r'.length
    refine call_tuple_list pl.isList (fun h' kp => ?_) (by simp only [List.size_toArray] <;> omega)
    have I1 : Inv X pins σ H { s with heap := h' } := I.kept (t' := s.toks) kp
    exact laidT (s := { s with heap := h' }) (its := its) (t' := s.toks) (n := 0) I1 (fun b u e => Heap.get?_push_of_some _ e) (Nat.le_refl _) (Heap.get?_push_size _ rfl) rfl rfl rfl r' hz q
  · exact call_tuple_of pins s σ H _ us Q I r ⟨p, ys, rfl, .inr h⟩
/-- pairs, by their objects -/
theorem pairs_vals {pins : List (Addr × Obj)} {σ : L2.St} {H : Hp} {s : Shared} (I : Inv X pins σ H s) : ∀ {ps : List Addr} {kvs : List (Key × V)}, Paired (fun p kv => SqT X.K H p [kV kv.1, kv.2]) ps kvs →
    ∃ (prs : List (Key × Value)) (vps : List (Value × Value)), KV kvs prs ∧ vps.length = ps.length ∧ prs.length = ps.length ∧ (∀ (j : Nat) k v, vps[j]? = some (k, v) → ∃ (b : Addr) (key : Key), ps[j]? = some b ∧ IsTup s.heap b #[k, v] ∧ prs[j]? = some (key, v) ∧ keyIs key k = true)
  | _, _, .nil => ⟨[], [], .nil, rfl, rfl, fun j k v e => by simp at e⟩
  | _, _, .cons (a := p) (b := kv) h t => by
    obtain ⟨prs, vps, r, l1, l2, hp⟩ := pairs_vals I t
    obtain ⟨its, rv, ht, _⟩ := I.tuple h
    obtain ⟨u, y, rfl, ru, ry⟩ := vals2 rv
    refine ⟨(kv.1, y) :: prs, (u, y) :: vps, .cons ⟨rfl, ry⟩ r, by simp [l1], by simp [l2], fun j k v e => ?_⟩
    cases j with
    | zero =>
      cases Option.some.inj e
      exact ⟨p, kv.1, rfl, ht, rfl, kV_is (P := X.prog) (w := X.w) ru⟩
    | succ j =>
      obtain ⟨b, key, e1, e2, e3, e4⟩ := hp j k v (by simpa using e)
      exact ⟨b, key, by simpa using e1, e2, by simpa using e3, e4⟩
theorem obj_of {pins : List (Addr × Obj)} {σ : L2.St} {H : Hp} {s : Shared} {a : Addr} {o : Obj} {u : HO} (I : Inv X pins σ H s) (h : H a = some (.frz o u) ∨ X.K.lookup a = some o) : s.heap.get? a = some o := by
  rcases h with h | h
  · exact (I.hok _ _ h).1
  · exact I.kIn a o h
/-- dict(x), x a tuple of pairs, known to have no dict of its own -/
theorem call_dict_tup (hc : X.calm = true) : CallR X (.type "dict") (fun xs H Q => ∃ (a : Addr) (ps : List Addr) (kvs : List (Key × V)) (o : Obj), xs = [.ref a] ∧ SqT X.K H a (ps.map V.ref) ∧ (H a = some (.frz o (.tup (ps.map V.ref))) ∨ X.K.lookup a = some o) ∧ o.dict = none ∧
    Paired (fun p kv => SqT X.K H p [kV kv.1, kv.2]) ps kvs ∧ ∀ p, H p = none → Q (.ref p) (upd H p (.dK (mergeK [] kvs)))) := by
  intro pins s σ H xs us Q I r h
  obtain ⟨a, ps, kvs, o, rfl, ha, ho, hd, hp, q⟩ := h
  obtain ⟨u, rfl, ru⟩ := vals1 r
  cases ru
  obtain ⟨its, rv, ht, hz⟩ := I.tuple ha
  have ei := refs_at rv
  subst ei
  rw [List.length_map] at hz
  obtain ⟨prs, vps, rel, l1, l2, hpr⟩ := pairs_vals I hp
  have hg := obj_of I ho
  obtain ⟨o', ho', hcl, n, hdat⟩ := ht
  rw [hg] at ho'
  cases ho'
  have pa : PairItems s.heap (ps.map Value.ref).toArray (fun j => ps.getD j 0) vps := by
    refine ⟨by simp [l1], fun j k v e => ?_⟩
    obtain ⟨b, key, e1, e2, _⟩ := hpr j k v e
    have e5 : ps.getD j 0 = b := by rw [List.getD_eq_getElem?_getD, e1]; rfl
    exact ⟨by simp [e1, e5], .inl (by show s.heap.IsTuple (ps.getD j 0) _; rw [e5]; exact e2)⟩
  refine PySem.call_dict_pairs (knd := mixKind X.prog X.w) (kvs := prs) (PairArg.tuple a (ps.map Value.ref).toArray (fun j => ps.getD j 0) vps) (I.ok.hd hc) ⟨⟨o, n, hg, hcl, hd, hdat⟩, pa⟩
    ⟨by rw [l2, l1], fun i key v e => ?_⟩ (by rw [l1]; exact hz) fun h' tk hm k => ?_
  · obtain ⟨b, kk, _, _, e3, e4⟩ := hpr i key v e
    exact ⟨kk, e3, e4⟩
  · have hlen : (mergeK [] kvs).length ≤ sizeLine := by
      refine Nat.le_trans (length_mergeK kvs []) ?_
      rw [List.length_nil, Nat.zero_add, rel.length, l2]
      exact hz
    exact ⟨.ref s.heap.objs.size, upd H s.heap.objs.size (.dK (mergeK [] kvs)), I.laid (t' := tk) (fun b o e => k b o (by simp) e) (Nat.le_refl _) ⟨hlen, beq_eq_false_iff_ne.mpr (Nat.ne_of_gt I.big), merged [] prs, KV.merge rel .nil, hm⟩, rfl, q _ (I.hok.fresh (Nat.le_refl _))⟩
end
end Cs

set_option Elab.async false
set_option linter.all false
set_option maxRecDepth 100000
namespace Cs
open PySem PySem.Spec PyProof.Rows L2

/-! ### dict(zip(list, tuple)) -/
section
variable {prog : Program} {w : World} {A : Around} {E : Value → Shared → Prop} {s : Shared} {z TI TO i1 i2 T : Addr} {fp1 fp2 : List Addr} {n1 n2 i : Nat} {P1 P2 : Nat → Value → Prop} {St1 St2 : Nat → Heap → Prop} {f : Bool} {oT : Obj}
theorem zipH_item0 {Q : Value → Shared → Prop} (S : ZipSep2 z TI TO i1 i2 fp1 fp2) (D1 : Draws prog w A i1 fp1 n1 P1 St1) (D2 : Draws prog w A i2 fp2 n2 P2 St2)
    (hz : IsZipHeld s.heap z TI TO T f) (hT : s.heap.get? T = some oT) (hTI : IsTupOf2 s.heap TI (.ref i1) (.ref i2)) (st1 : St1 i s.heap) (st2 : St2 i s.heap) (c1 : i < n1) (c2 : i < n2)
    (hQ : ∀ x y h' tk, P1 i x → P2 i y → IsZipHeld h' z TI TO T true → St1 (i + 1) h' → St2 (i + 1) h' → IsTupOf2 h' s.heap.objs.size x y → (∀ b o, b ≠ z → b ≠ i1 → b ≠ i2 → s.heap.get? b = some o → h'.get? b = some o) →
      Q (.ref s.heap.objs.size) { s with heap := h', toks := tk }) :
    wpAny (model prog w) A (Builtin.«zip.__next__» ⟨[.ref z], []⟩) (fun fin s' => ∃ v, fin = .done (.ret v) ∧ Q v s') E s := by
  obtain ⟨hp, gn, dr, tk0, os⟩ := s
  show wpAny _ _ (field (.ref z) 2 >>= _) _ _ _
  refine wpAny_bind (wpAny_field hz rfl (x := .bool false) rfl ?_)
  show wpAny _ _ (field (.ref z) 3 >>= _) _ _ _
  refine wpAny_bind (wpAny_field hz rfl (x := .ref TI) rfl (wpAny_bind (wpAny_seqItems hTI rfl ?_)))
  show wpAny _ _ (Builtin.SmallTypes.ownedTupleIsFree (.ref z) >>= _) _ _ _
  refine wpAny_bind (wpAny_tupleHeld_zip hz hT fun ha hza sa => ?_)
  replace sa : Heap.SameBut z hp ha := sa
  simp only [Bool.false_eq_true, if_false]
  refine wpAny_bind ?_
  rw [← Array.forIn_toList]
  simp only [List.forIn_cons, List.forIn_nil]
  refine wpAny_bind (wpAny_bind (wpAny_holding ?_))
  show wpAny _ _ (Builtin.SmallTypes.nextOf (.ref i1) >>= _) _ _ ⟨ha, gn, dr, tk0, os⟩
  refine wpAny_bind (D1.item i _ _ _ c1 (D1.over st1 sa S.zf1) fun x hb tkb px sb1 sb => wpAny_pure (wpAny_pure ?_))
  replace sb : Heap.SameBut i1 ha hb := sb
  refine wpAny_bind (wpAny_bind (wpAny_holding ?_))
  show wpAny _ _ (Builtin.SmallTypes.nextOf (.ref i2) >>= _) _ _ ⟨hb, gn, dr, tkb, os⟩
  refine wpAny_bind (D2.item i _ _ _ c2 (D2.over (D2.over st2 sa S.zf2) sb S.sep1_2) fun y hc tkc py sc2 sc => wpAny_pure (wpAny_pure (wpAny_pure ?_)))
  replace sc : Heap.SameBut i2 hb hc := sc
  show wpAny _ _ (newTuple [x, y] >>= _) _ _ ⟨hc, gn, dr, tkc, os⟩
  refine wpAny_bind (wpAny_newTuple ?_)
  have size : hc.objs.size = hp.objs.size := by rw [sc.1, sb.1, sa.1]
  have zc : IsZipHeld hc z TI TO T true := sc.extBut _ _ S.zi2 (sb.extBut _ _ S.zi1 hza)
  have old : ∀ b o, b ≠ z → b ≠ i1 → b ≠ i2 → hp.get? b = some o → hc.get? b = some o := fun b o d1 d2 d3 e => sc.extBut _ _ d3 (sb.extBut _ _ d2 (sa.extBut _ _ d1 e))
  have up : ∀ b o, hc.get? b = some o → (hc.push { cls := .type "tuple", data := .seq #[x, y] }).get? b = some o := fun b o e => Heap.get?_push_of_some _ e
  refine wpAny_pure ⟨_, rfl, ?_⟩
  show Q (.ref hc.objs.size) ⟨hc.push { cls := .type "tuple", data := .seq #[x, y] }, gn, dr, tkc, os⟩
  have new : IsTupOf2 (hc.push { cls := .type "tuple", data := .seq #[x, y] }) hc.objs.size x y := Heap.get?_push_size _ rfl
  rw [size] at new ⊢
  exact hQ x y _ tkc px py (up _ _ zc) (D1.frame _ _ _ (D1.over sb1 sc S.sep2_1) fun b _ o e => up b o e) (D2.frame _ _ _ sc2 fun b _ o e => up b o e) new fun b o d1 d2 d3 e => up b o (old b o d1 d2 d3 e)
theorem zipH_end0 {Q : Fin → Shared → Prop} (S : ZipSep2 z TI TO i1 i2 fp1 fp2) (D1 : Draws prog w A i1 fp1 n1 P1 St1) (D2 : Draws prog w A i2 fp2 n2 P2 St2)
    (hz : IsZipHeld s.heap z TI TO T f) (hT : s.heap.get? T = some oT) (hTI : IsTupOf2 s.heap TI (.ref i1) (.ref i2)) (st1 : St1 i s.heap) (st2 : St2 i s.heap) (c1 : i ≤ n1) (c2 : i ≤ n2) (c3 : i = n1 ∨ i = n2)
    (hE : ∀ h' tk e, (∀ b o, b ≠ z → b ≠ i1 → b ≠ i2 → s.heap.get? b = some o → h'.get? b = some o) → (∃ o, h'.get? e = some o ∧ o.cls = .type "StopIteration") → E (.ref e) { s with heap := h', toks := tk }) :
    wpAny (model prog w) A (Builtin.«zip.__next__» ⟨[.ref z], []⟩) Q E s := by
  obtain ⟨hp, gn, dr, tk0, os⟩ := s
  show wpAny _ _ (field (.ref z) 2 >>= _) _ _ _
  refine wpAny_bind (wpAny_field hz rfl (x := .bool false) rfl ?_)
  show wpAny _ _ (field (.ref z) 3 >>= _) _ _ _
  refine wpAny_bind (wpAny_field hz rfl (x := .ref TI) rfl (wpAny_bind (wpAny_seqItems hTI rfl ?_)))
  show wpAny _ _ (Builtin.SmallTypes.ownedTupleIsFree (.ref z) >>= _) _ _ _
  refine wpAny_bind (wpAny_tupleHeld_zip hz hT fun ha hza sa => ?_)
  replace sa : Heap.SameBut z hp ha := sa
  simp only [Bool.false_eq_true, if_false]
  refine wpAny_bind ?_
  rw [← Array.forIn_toList]
  simp only [List.forIn_cons, List.forIn_nil]
  refine wpAny_bind (wpAny_bind (wpAny_holding ?_))
  show wpAny _ _ (Builtin.SmallTypes.nextOf (.ref i1) >>= _) _ _ ⟨ha, gn, dr, tk0, os⟩
  by_cases e1 : i = n1
  · subst e1
    refine wpAny_bind (D1.done _ _ _ (D1.over st1 sa S.zf1) fun hb e sb he => ?_)
    exact hE hb tk0 e (fun b o d1 d2 _ x => sb _ _ d2 (sa.extBut _ _ d1 x)) he
  · have e2 : i = n2 := c3.resolve_left e1
    subst e2
    refine wpAny_bind (D1.item i _ _ _ (by omega) (D1.over st1 sa S.zf1) fun x hb tkb px sb1 sb => wpAny_pure (wpAny_pure ?_))
    replace sb : Heap.SameBut i1 ha hb := sb
    refine wpAny_bind (wpAny_bind (wpAny_holding ?_))
    show wpAny _ _ (Builtin.SmallTypes.nextOf (.ref i2) >>= _) _ _ ⟨hb, gn, dr, tkb, os⟩
    refine wpAny_bind (D2.done _ _ _ (D2.over (D2.over st2 sa S.zf2) sb S.sep1_2) fun hc e sc he => ?_)
    exact hE hc tkb e (fun b o d1 d2 d3 x => sc _ _ d3 (sb.extBut _ _ d2 (sa.extBut _ _ d1 x))) he
theorem zipH_item {Q : Option Value → Shared → Prop} (S : ZipSep2 z TI TO i1 i2 fp1 fp2) (D1 : Draws prog w A.in1 i1 fp1 n1 P1 St1) (D2 : Draws prog w A.in1 i2 fp2 n2 P2 St2)
    (hz : IsZipHeld s.heap z TI TO T f) (hT : s.heap.get? T = some oT) (hTI : IsTupOf2 s.heap TI (.ref i1) (.ref i2)) (st1 : St1 i s.heap) (st2 : St2 i s.heap) (c1 : i < n1) (c2 : i < n2)
    (hQ : ∀ x y h' tk, P1 i x → P2 i y → IsZipHeld h' z TI TO T true → St1 (i + 1) h' → St2 (i + 1) h' → IsTupOf2 h' s.heap.objs.size x y → (∀ b o, b ≠ z → b ≠ i1 → b ≠ i2 → s.heap.get? b = some o → h'.get? b = some o) →
      Q (some (.ref s.heap.objs.size)) { s with heap := h', toks := tk }) : wpAny (model prog w) A (pyNext (.ref z)) Q E s := by
  have ty : s.TypeIs (.ref z) "zip" := ⟨_, hz, rfl⟩
  have core := zipH_item0 (E := fun _ _ => False) (Q := fun v s' => Q (some v) s') S D1 D2 hz hT hTI st1 st2 c1 c2 hQ
  unfold pyNext
  refine wpAny_bind (wpAny_attempt (wpAny_callSpecial?_slot (name := Str.ofString "__next__") ty PySem.F.slot_zip_next (wpAny_call_entry PySem.F.slot_zip_next ty PySem.F.entry_zip_next ?_ (PySem.F.args_zip_next_1 _))))
  refine wpAny_mono core (fun fin s' h => ?_) fun _ _ e => e.elim
  obtain ⟨v, rfl, q⟩ := h
  exact ⟨v, rfl, wpAny_pure q⟩
theorem zipH_end {Q : Option Value → Shared → Prop} (S : ZipSep2 z TI TO i1 i2 fp1 fp2) (D1 : Draws prog w A.in1 i1 fp1 n1 P1 St1) (D2 : Draws prog w A.in1 i2 fp2 n2 P2 St2)
    (hz : IsZipHeld s.heap z TI TO T f) (hT : s.heap.get? T = some oT) (hTI : IsTupOf2 s.heap TI (.ref i1) (.ref i2)) (st1 : St1 i s.heap) (st2 : St2 i s.heap) (c1 : i ≤ n1) (c2 : i ≤ n2) (c3 : i = n1 ∨ i = n2)
    (hQ : ∀ h' tk, (∀ b o, b ≠ z → b ≠ i1 → b ≠ i2 → s.heap.get? b = some o → h'.get? b = some o) → Q none { s with heap := h', toks := tk }) : wpAny (model prog w) A (pyNext (.ref z)) Q E s := by
  have ty : s.TypeIs (.ref z) "zip" := ⟨_, hz, rfl⟩
  unfold pyNext
  refine wpAny_bind (wpAny_attempt (wpAny_callSpecial?_slot (name := Str.ofString "__next__") ty PySem.F.slot_zip_next (wpAny_call_entry PySem.F.slot_zip_next ty PySem.F.entry_zip_next
    (zipH_end0 S D1 D2 hz hT hTI st1 st2 c1 c2 c3 fun h' tk e k he => ?_) (PySem.F.args_zip_next_1 _))))
  obtain ⟨o, ho, hc⟩ := he
  exact wpAny_bind (wpAny_isInstance (T := "StopIteration") (b := true) ⟨o, ho, hc⟩ isSubtype_stop (wpAny_pure (hQ _ _ k)))
end
theorem zipArg {prog : Program} {w : World} {z TI TO i1 i2 l t : Addr} (S : ZipSep2 z TI TO i1 i2 [i1, l] [i2, t]) (l1 : l ≠ i1) (l2 : l ≠ TI) (t1 : t ≠ i2) (t2 : t ≠ TI) (xs ys : Array Value) :
    PairArg prog w "zip" z [z, TI, TO, i1, i2, l, t] [z, TO, i1, i2] (min xs.size ys.size) (fun i k v => xs[i]? = some k ∧ ys[i]? = some v)
      (fun h => IsZip h z TI TO .none ∧ IsTupOf2 h TI (.ref i1) (.ref i2) ∧ (∃ a b, IsTupOf2 h TO a b) ∧ (h.IsListIter i1 l 0 ∧ h.IsList l xs) ∧ h.IsTupleIter i2 t 0 ∧ h.IsTuple t ys) where
  type := fun s ok => ⟨_, ok.1, rfl⟩
  notDict := by decide
  keep := fun h h' ok k => by
    obtain ⟨a1, a2, ⟨x, y, a3⟩, ⟨a4, a5⟩, a6, a7⟩ := ok
    exact ⟨k _ _ a1, k _ _ a2, ⟨x, y, k _ _ a3⟩, ⟨a4.at fun o e => k _ o e, a5.at fun o e => k _ o e⟩, a6.at fun o e => k _ o e, a7.at fun o e => k _ o e⟩
  there := fun h ok b hb => by
    obtain ⟨a1, a2, ⟨x, y, a3⟩, ⟨⟨o1, a4, _⟩, ⟨o2, a5, _⟩⟩, ⟨o3, a6, _⟩, ⟨o4, a7, _⟩⟩ := ok
    simp only [List.mem_cons, List.not_mem_nil, or_false] at hb
    rcases hb with rfl | rfl | rfl | rfl | rfl | rfl | rfl <;> first | exact ⟨_, a1⟩ | exact ⟨_, a2⟩ | exact ⟨_, a3⟩ | exact ⟨_, a4⟩ | exact ⟨_, a6⟩ | exact ⟨_, a5⟩ | exact ⟨_, a7⟩
  sub := fun b hb => by
    simp only [List.mem_cons, List.not_mem_nil, or_false] at hb ⊢
    rcases hb with q | q | q | q <;> simp [q]
  noKeys := fun A s Q E hA ok h => getAttrOr_miss_zip ok.1 rfl rfl rfl zip_no_keys (by decide +kernel) hA h
  iter := fun A s d Q E hA ok hd hdf h => by
    obtain ⟨a1, a2, ⟨x0, y0, a3⟩, a4, a5⟩ := ok
    simp only [List.mem_cons, List.not_mem_nil, or_false, not_or] at hdf
    obtain ⟨dz, dTI, dTO, di1, di2, dl, dt⟩ := hdf
    have D1 := Draws.list (prog := prog) (w := w) (A := A.in1) hA i1 l l1 xs
    have D2 := Draws.tuple (prog := prog) (w := w) (A := A.in1) hA i2 t t1 ys
    have lz : l ≠ z := fun e => S.zf1 (by simp [e])
    have tz : t ≠ z := fun e => S.zf2 (by simp [e])
    refine wpAny_pyIter_zip a1 (h z [z, TO, i1, i2] (fun i h => IsTupOf2 h TI (.ref i1) (.ref i2) ∧ (h.IsListIter i1 l i ∧ h.IsList l xs) ∧ (h.IsTupleIter i2 t i ∧ h.IsTuple t ys) ∧
      ((IsZip h z TI TO .none ∧ ∃ a b, IsTupOf2 h TO a b) ∨ ∃ T f oT, IsZipHeld h z TI TO T f ∧ h.get? T = some oT ∧ T ≠ z ∧ T ≠ i1 ∧ T ≠ i2 ∧ T ≠ d)) s.heap s.toks ?_
      ⟨a2, a4, a5, .inl ⟨a1, x0, y0, a3⟩⟩ (fun _ _ e => e) fun b hb => .inl hb)
    refine ⟨fun hm => ?_, fun i h₁ h₂ st k => ?_, fun i s₁ Q₁ E₁ hi st hds hQ => ?_, fun s₁ Q₁ E₁ st hQ => ?_⟩
    · simp only [List.mem_cons, List.not_mem_nil, or_false] at hm
      rcases hm with e | e | e | e
      · exact dz e
      · exact dTO e
      · exact di1 e
      · exact di2 e
    · obtain ⟨b1, b2, b3, b4⟩ := st
      have fr : ∀ {b o}, b ≠ d → h₁.get? b = some o → h₂.get? b = some o := fun hb e => k _ _ hb e
      refine ⟨fr (Ne.symm dTI) b1, D1.frame _ _ _ b2 fun b hb o e => fr (fun q => ?_) e, D2.frame _ _ _ b3 fun b hb o e => fr (fun q => ?_) e, ?_⟩
      · subst q; simp at hb; rcases hb with q | q
        · exact di1 q
        · exact dl q
      · subst q; simp at hb; rcases hb with q | q
        · exact di2 q
        · exact dt q
      rcases b4 with ⟨c1, a, b, c2⟩ | ⟨T, f, oT, c1, c2, r1, r2, r3, r4⟩
      · exact .inl ⟨fr (Ne.symm dz) c1, a, b, fr (Ne.symm dTO) c2⟩
      · exact .inr ⟨T, f, oT, fr (Ne.symm dz) c1, fr r4 c2, r1, r2, r3, r4⟩
    · obtain ⟨b1, b2, b3, b4⟩ := st
      have lt : ∀ {c o}, s₁.heap.get? c = some o → s₁.heap.objs.size ≠ c := fun e => Nat.ne_of_gt (Heap.lt_size e)
      have n1 : s₁.heap.objs.size ≠ i1 := let ⟨_, e⟩ := D1.live _ _ b2; lt e
      have n2 : s₁.heap.objs.size ≠ i2 := let ⟨_, e⟩ := D2.live _ _ b3; lt e
      have hx : i < xs.size := by omega
      have hy : i < ys.size := by omega
      rcases b4 with ⟨c1, a, b, c2⟩ | ⟨T, f, oT, c1, c2, r1, r2, r3, r4⟩
      · refine wpAny_pyNext_zipD2_item S D1 D2 c1 b1 c2 b2 b3 hx hy fun x y h' tk px py e1 e2 e3 e4 e5 e6 k => ?_
        refine hQ s₁.heap.objs.size x y h' tk ⟨px, py⟩ (.inl ⟨_, e5, rfl, _, rfl⟩) ⟨k _ _ S.TIz S.TITO S.TIi1 S.TIi2 b1, e3, e4, .inr ⟨s₁.heap.objs.size, false, _, e1, e5, lt c1, n1, n2, Nat.ne_of_gt hds⟩⟩ fun b o hb e => ?_
        exact k b o (fun q => hb (by simp [q])) (fun q => hb (by simp [q])) (fun q => hb (by simp [q])) (fun q => hb (by simp [q])) e
      · refine zipH_item S D1 D2 c1 c2 b1 b2 b3 hx hy fun x y h' tk px py e1 e3 e4 e5 k => ?_
        refine hQ s₁.heap.objs.size x y h' tk ⟨px, py⟩ (.inl ⟨_, e5, rfl, _, rfl⟩) ⟨k _ _ S.TIz S.TIi1 S.TIi2 b1, e3, e4, .inr ⟨T, true, oT, e1, k _ _ r1 r2 r3 c2, r1, r2, r3, r4⟩⟩ fun b o hb e => ?_
        exact k b o (fun q => hb (by simp [q])) (fun q => hb (by simp [q])) (fun q => hb (by simp [q])) e
    · obtain ⟨b1, b2, b3, b4⟩ := st
      have c3 : min xs.size ys.size = xs.size ∨ min xs.size ys.size = ys.size := by omega
      rcases b4 with ⟨c1, a, b, c2⟩ | ⟨T, f, oT, c1, c2, r1, r2, r3, r4⟩
      · exact wpAny_pyNext_zipD2_end S D1 D2 c1 b1 c2 b2 b3 (Nat.min_le_left ..) (Nat.min_le_right ..) c3 fun h' tk k => hQ h' tk fun b o hb e => k b o (fun q => hb (by simp [q])) (fun q => hb (by simp [q])) (fun q => hb (by simp [q])) (fun q => hb (by simp [q])) e
      · exact zipH_end S D1 D2 c1 c2 b1 b2 b3 (Nat.min_le_left ..) (Nat.min_le_right ..) c3 fun h' tk k => hQ h' tk fun b o hb e => k b o (fun q => hb (by simp [q])) (fun q => hb (by simp [q])) (fun q => hb (by simp [q])) e
section
variable {X : Cx}
/-- the keys' values are those keys -/
theorem keys_at {P : Program} {w : World} : ∀ {ks : List Key} {us : List Value}, Vals (ks.map kV) us → ∀ (i : Nat) u, us[i]? = some u → ∃ k, ks[i]? = some k ∧ keyIs k u = true
  | [], _, r, i, u, e => by cases r; simp at e
  | k :: ks, _, r, i, u, e => by
    cases r with
    | cons h t =>
      cases i with
      | zero => cases Option.some.inj e; exact ⟨k, rfl, kV_is (P := P) (w := w) h⟩
      | succ i => exact keys_at (P := P) (w := w) t i u (by simpa using e)
theorem zip_kv : ∀ {ks : List Key} {ys : List V} {us : List Value}, Vals ys us → KV (ks.zip ys) (ks.zip us)
  | [], _, _, _ => .nil
  | _ :: _, _, _, .nil => .nil
  | _ :: _, _, _, .cons h t => .cons ⟨rfl, h⟩ (zip_kv t)
theorem pe_dzip {e1 e2 : Expr} {ta tb : TE} {p1 p2 p3 p4 : Pos} (hc : X.calm = true) (g1 : Gl X "dict") (m1 : X.mg "dict" = none) (g2 : Gl X "zip") (m2 : X.mg "zip" = none) (ha : PE X e1 ta) (hb : PE X e2 tb)
    (hs1 : starEach [e1, e2] X.env = (false, eval e1 X.env) :: starEach [e2] X.env) (hs2 : starEach [e2] X.env = [(false, eval e2 X.env)]) :
    PE X (.Call (.Name "dict" p1) [.Call (.Name "zip" p2) [e1, e2] [] p3] [] p4) (fun σ H Q => ta σ H fun x H1 => tb σ H1 fun y H2 => ∃ (a b : Addr) (ks : List Key) (ys : List V), x = .ref a ∧ y = .ref b ∧ SqL X.K H2 a (ks.map kV) ∧ SqT X.K H2 b ys ∧ ks.length = ys.length ∧ ys.length ≤ sizeLine ∧
      ∀ p, H2 p = none → Q (.ref p) (upd H2 p (.dK (mergeK [] (ks.zip ys))))) := by
  refine ⟨fun pins s σ H Q I h => ?_⟩
  refine wpAny_Call_Name_kw (ld_blt I g1 m1 (show bootBuiltins "dict" = some (.type "dict") from by decide +kernel) ?_)
  refine PyProof.Rows.callWith_type1 ?_ rfl rfl
  show wpAny _ _ (spliced [(false, eval (.Call (.Name "zip" p2) [e1, e2] [] p3) X.env)]) _ _ s
  refine Calls.spliced_cons ?_
  refine wpAny_Call_Name_kw (ld_blt I g2 m2 (show bootBuiltins "zip" = some (.type "zip") from by decide +kernel) ?_)
  refine PyProof.Rows.callWith_type1 ?_ hs1 (by rw [hs2]; rfl)
  rw [hs1, hs2]
  show wpAny _ _ (spliced [(false, eval e1 X.env), (false, eval e2 X.env)]) _ _ s
  refine Calls.spliced_cons (thn (ha.run pins s σ H _ I h) fun u s1 ⟨x, H1, I1, r1, q1⟩ => Calls.spliced_cons (thn (hb.run pins s1 σ H1 _ I1 q1) fun v s2 ⟨y, H2, I2, r2, a, b, ks, ys, ex, ey, qa, qb, hl, hz, q⟩ => Calls.spliced_nil ?_))
  subst ex ey
  cases r1
  cases r2
  obtain ⟨its, rv, pl, _⟩ := I2.list qa
  obtain ⟨jts, rw', pt, _⟩ := I2.tuple qb
  have la : a < s2.heap.objs.size := let ⟨_, _, e, _⟩ := pl; Heap.lt_size e
  have lb : b < s2.heap.objs.size := let ⟨_, e, _⟩ := pt; Heap.lt_size e
  refine zip_begins2 (begins_list a its.toArray) (begins_tuple b jts.toArray) pl.isList pt fun h' z1 z2 z3 z4 z5 z6 k => Calls.spliced_nil ?_
  have l1 := rv.length
  have l2 := rw'.length
  rw [List.length_map] at l1
  have S : ZipSep2 (s2.heap.objs.size + 4) (s2.heap.objs.size + 2) (s2.heap.objs.size + 3) s2.heap.objs.size (s2.heap.objs.size + 1) [s2.heap.objs.size, a] [s2.heap.objs.size + 1, b] :=
    zip_sep2 (fun c hc => by simp at hc; subst hc; exact la) fun c hc => by simp at hc; subst hc; exact lb
  have up : ∀ (c : Addr) (j : Nat), c < s2.heap.objs.size → c ≠ (s2.heap.objs.size + j : Nat) := fun c j h => Nat.ne_of_lt (Nat.lt_of_lt_of_le h (Nat.le_add_right _ _))
  obtain ⟨prs, rel, len⟩ : ∃ prs : List (Key × Value), KV (ks.zip ys) prs ∧ prs = ks.zip jts := ⟨_, zip_kv rw', rfl⟩
  have hlen : (mergeK [] (ks.zip ys)).length ≤ sizeLine := by
    refine Nat.le_trans (length_mergeK _ []) ?_
    simp only [List.length_nil, List.length_zip]
    omega
  refine PySem.call_dict_pairs (s := { s2 with heap := h' }) (knd := mixKind X.prog X.w) (kvs := prs) (zipArg S (up a 0 la) (up a 2 la) (up b 1 lb) (up b 2 lb) its.toArray jts.toArray) (I.ok.hd hc)
    ⟨z1, z2, ⟨_, _, z3⟩, ⟨⟨_, z4, rfl, rfl⟩, pl.isList.at fun o e => k _ o e⟩, ⟨_, z5, rfl, rfl⟩, Heap.IsTuple.at (show s2.heap.IsTuple b jts.toArray from pt) fun o e => k _ o e⟩ ⟨?_, ?_⟩ ?_ ?_
  · rw [len]; simp; omega
  · rintro i key v ⟨h1, h2⟩
    obtain ⟨kk, hk, hi⟩ := keys_at (P := X.prog) (w := X.w) rv i key (by simpa using h1)
    exact ⟨kk, by rw [len, List.getElem?_zip_eq_some]; exact ⟨hk, by simpa using h2⟩, hi⟩
  · simp; omega
  · intro h2 tk hm kk
    have sz : s2.heap.objs.size ≤ h'.objs.size := by rw [z6]; omega
    refine ⟨.ref h'.objs.size, upd H2 h'.objs.size (.dK (mergeK [] (ks.zip ys))), I2.laid (a := h'.objs.size) (h' := h2) (t' := tk) (fun c o e => kk c o (fun hc => ?_) (k c o e)) sz ⟨hlen, ?_, merged [] prs, KV.merge rel .nil, hm⟩, rfl, q _ (I2.hok.fresh sz)⟩
    · have lc := Heap.lt_size e
      simp only [List.mem_cons, List.not_mem_nil, or_false] at hc
      rcases hc with q | q | q | q
      · exact up c 4 lc q
      · exact up c 3 lc q
      · exact up c 0 lc q
      · exact up c 1 lc q
    · exact beq_eq_false_iff_ne.mpr (Nat.ne_of_gt (Nat.lt_of_lt_of_le I2.big sz))
end
/-! ### enumerate(tuple) -/
/-- what a new tuple is told to be: as made, or by its object -/
def tupO (pl : Bool) (o : Obj) (xs : List V) : HO := if pl = true then .frz o (.tup xs) else .tup xs
theorem tupO_ok {P : Program} {w : World} {H : Hp} {h : Heap} {p : Addr} {o : Obj} {its : List Value} {n : Nat} {xs : List V} {pl : Bool} (e : h.get? p = some o) (hc : o.cls = .type "tuple") (hdat : o.data = .seq its.toArray n) (r : Vals xs its) (hz : xs.length ≤ sizeLine) :
    ObjOk P w H h p (tupO pl o xs) := by
  have t : ObjOk P w H h p (.tup xs) := ⟨hz, its, r, o, e, hc, n, hdat⟩
  cases pl with
  | true => exact ⟨e, t⟩
  | false => exact t
/-- the tuple at a as it stands, each item in a new pair -/
def IteT (K : PySem.W.Frag) (pl : Bool) (a : Addr) : It :=
  ⟨fun i H => ∃ (xs : List V) (x : V), SqT K H a xs ∧ xs[i]? = some x, fun i H v H' => ∃ T x o, v = .ref T ∧ H T = none ∧ o.dict = none ∧ H' = upd H T (tupO pl o [.int (i : Nat), x]) ∧ ∀ xs, SqT K H a xs → xs[i]? = some x, fun i H => ∃ xs : List V, SqT K H a xs ∧ xs.length ≤ i⟩
theorem turn_enumT {P : Program} {w : World} {K : PySem.W.Frag} {elts : List Expr} {kk : Nat} {tpos : Pos} (pl : Bool) (a e it : Addr) :
    Turn P w K (.Tuple elts kk tpos) (IteT K pl a) [e, it] e (fun i h => (∃ old, IsEnum h e it ((i : Nat) : Int) old) ∧ h.IsTupleIter it a i ∧ e ≠ it) where
  mem := by simp
  obj := fun i h st b hb => by
    obtain ⟨⟨old, he⟩, ⟨o, ho, hc, hd⟩, _⟩ := st
    rcases (show b = e ∨ b = it by simpa using hb) with z | z
    · rw [z]; exact ⟨_, he, fun v q => nomatch q⟩
    · rw [z]; exact ⟨o, ho, fun v q => by rw [hd] at q; cases q⟩
  keep := fun i h h' st k => by
    obtain ⟨⟨old, he⟩, hi, hne⟩ := st
    exact ⟨⟨old, k e (by simp) _ he⟩, hi.at fun o q => k it (by simp) o q, hne⟩
  item := by
    intro X hP hw hK hc i pins s σ H E I hf st hg
    subst hP hw hK
    obtain ⟨⟨old, he⟩, hit, hei⟩ := st
    obtain ⟨xs, x, hq, hx⟩ := hg
    obtain ⟨its, rv, p, hz⟩ := I.tuple hq
    have hae : a ≠ e := by
      rintro rfl
      obtain ⟨o, z, c, _⟩ := p
      rw [he] at z; cases z; simp at c
    have hai : a ≠ it := by
      rintro rfl
      obtain ⟨o, z, c, _⟩ := p
      obtain ⟨o2, z2, c2, _⟩ := hit
      rw [z] at z2; cases z2
      rw [c] at c2; simp at c2
    obtain ⟨u, hu, ru⟩ := rv.get hx
    have D := Draws.tuple (prog := X.prog) (w := X.w) (A := X.A.in1) (I.ok.hd hc) it a hai its.toArray
    have le : e < s.heap.objs.size := Heap.lt_size he
    have li : it < s.heap.objs.size := by obtain ⟨_, q, _⟩ := hit; exact Heap.lt_size q
    have hlt : i < its.toArray.size := by rw [List.size_toArray]; exact (List.getElem?_eq_some_iff.mp hu).1
    refine wpAny_pyNext_enum_itemD D he ⟨hit, p⟩ hlt hei (by simp [hei, Ne.symm hae]) fun y h' tk py ho hti' hT hsz k => ?_
    have ey : y = u := by
      have py : its.toArray[i]? = some y := py
      rw [List.getElem?_toArray, hu] at py
      exact (Option.some.inj py).symm
    subst ey
    refine ⟨_, rfl, wpAny_letOwnedTupleGo_enum (s := { s with heap := h', toks := tk + 1 }) ho fun h2 he2 sb => ?_⟩
    replace sb : Heap.SameBut e h' h2 := sb
    have hT2 : h2.get? s.heap.objs.size = some { cls := .type "tuple", data := .seq #[.int i tk, y] } := (sb.2 _ (Nat.ne_of_gt le)).trans hT
    have new : ObjOk X.prog X.w (upd H s.heap.objs.size (tupO pl { cls := .type "tuple", data := .seq #[.int i tk, y] } [.int (i : Nat), x])) h2 s.heap.objs.size (tupO pl { cls := .type "tuple", data := .seq #[.int i tk, y] } [.int (i : Nat), x]) :=
      tupO_ok (its := [.int i tk, y]) hT2 rfl rfl (.cons ⟨_, rfl⟩ (.cons ru .nil)) (by show 2 ≤ sizeLine; decide)
    have I1 := I.turnedNew (t' := tk + 1) (ch := [e, it]) (fun b ob hb q => (sb.2 b (fun z => hb (by simp [z]))).trans (k b ob (fun z => hb (by simp [z])) (fun z => hb (by simp [z])) q)) hf (Nat.le_refl _) new
    refine ⟨.ref s.heap.objs.size, _, I1, rfl, ⟨_, x, _, rfl, I.hok.fresh (Nat.le_refl _), rfl, rfl, fun ys hy => by rw [I.tuple_inj hy hq]; exact hx⟩, ⟨⟨y, ?_⟩, hti'.1.at fun o q => (sb.2 it (Ne.symm hei)).trans q, hei⟩, fun b hb => ?_⟩
    · have e1 : ((i + 1 : Nat) : Int) = (i : Int) + 1 := by omega
      rw [e1]; exact he2
    · have lb : b < s.heap.objs.size := by
        rcases (show b = e ∨ b = it by simpa using hb) with z | z
        · rw [z]; exact le
        · rw [z]; exact li
      rw [upd_ne (Nat.ne_of_lt lb)]
      exact (hf b hb).1
  done := by
    intro X hP hw hK hc i pins s σ H E I hf st hg
    subst hP hw hK
    obtain ⟨⟨old, he⟩, hit, hei⟩ := st
    obtain ⟨xs, hq, hx⟩ := hg
    obtain ⟨its, rv, p, hz⟩ := I.tuple hq
    have hai : a ≠ it := by
      rintro rfl
      obtain ⟨o, z, c, _⟩ := p
      obtain ⟨o2, z2, c2, _⟩ := hit
      rw [z] at z2; cases z2
      rw [c] at c2; simp at c2
    obtain ⟨f0, f1, f2, f3, f4, f5⟩ := hf it (by simp)
    have hl := rv.length
    have D : Draws X.prog X.w X.A.in1 it [it, a] i (fun _ _ => True) (fun j h => j = i ∧ h.IsTupleIter it a i ∧ h.IsTuple a its.toArray) :=
      { live := fun _ _ st => let ⟨o, ho, _⟩ := st.2.1; ⟨o, ho⟩
        frame := fun _ _ _ st k => ⟨st.1, st.2.1.at fun o e => k it (by simp) o e, st.2.2.at fun o e => k a (by simp) o e⟩
        item := fun j s Q E hj st hQ => absurd st.1 (Nat.ne_of_lt hj)
        done := fun s Q E st hE => wpAny_nextOf_tuple_end (I.ok.hd hc) st.2.1 st.2.2 (Array.getElem?_eq_none (by rw [List.size_toArray]; omega)) hE }
    exact wpAny_pyNext_enum_endD D he ⟨rfl, hit, p⟩ fun h' eb => ⟨rfl, I.turned (t' := s.toks) (fun b o hb q => eb b o hb q) f0 f1 f3 f4 f5⟩
  self := fun A i s Q E st h => let ⟨⟨_, he⟩, _⟩ := st; wpAny_pyIter_enum he h
theorem meets_enumT (l : Addr) (items : Array Value) (n : Nat) (dct : Option Addr) (sl : Array (Option Value)) :
    Meets (Builtin.«enumerate.__new__» ⟨[.type "enumerate", .ref l], []⟩) (fun _ R s => s.heap.get? l = some { cls := .type "tuple", dict := dct, data := .seq items n, slots := sl } ∧
      R (.ok (.ret (.ref (s.heap.push { cls := .type "tuple_iterator", data := .fields #[.ref l, .int 0 0] }).objs.size)))
        { s with heap := (s.heap.push { cls := .type "tuple_iterator", data := .fields #[.ref l, .int 0 0] }).push { cls := .type "enumerate", data := .fields #[.none, .bool false, .ref s.heap.objs.size, rawInt 0, .none, .none] } }) :=
  .of_wp fun prog w A R s h => by
    obtain ⟨hp, g, d, tk, os⟩ := s
    obtain ⟨hl, h⟩ := h
    have hsub := sub_enumerate
    have hT : Heap.IsTuple (Shared.heap ⟨hp, g, d, tk, os⟩) l items := ⟨_, hl, rfl, n, rfl⟩
    wp_walk using AutoSeq1.wpAny_loadPart' hl
    refine wpAny_stack_any fun st => wpAny_pure ?_
    split
    · rename_i c _ _ _ _ _
      cases (c == Value.type "enumerate") <;> (wp_walk using AutoSeq1.wpAny_loadPart' hl, wpAny_pyIter_tuple hT; exact ⟨_, rfl, h⟩)
    · wp_walk using AutoSeq1.wpAny_loadPart' hl, wpAny_pyIter_tuple hT
      exact ⟨_, rfl, h⟩
theorem call_enumT {prog : Program} {w : World} {A : Around} {E : Value → Shared → Prop} {s : Shared} {l : Addr} {items : Array Value} {Q : Value → Shared → Prop} (ht : s.heap.IsTuple l items)
    (h : ∀ h', IsEnum h' (s.heap.objs.size + 1) s.heap.objs.size 0 .none → h'.IsTupleIter s.heap.objs.size l 0 → (∀ b o, s.heap.get? b = some o → h'.get? b = some o) → Q (.ref (s.heap.objs.size + 1)) { s with heap := h' }) :
    wpAny (model prog w) A (call (.type "enumerate") [.ref l]) Q E s := by
  obtain ⟨⟨c, dct, dt, sl⟩, hl, hc, n, hd⟩ := ht
  simp only at hc hd
  subst hc hd
  refine callType_new PySem.F.called_enumerate (by decide) (PySem.F.typeCall_enumerate_1 _) (PySem.F.newCall_enumerate_1 _) (fun obj => PySem.F.args_object_init_2 obj _) PySem.F.entry_enumerate_new (meets_enumT l items n dct sl) ⟨hl, ?_⟩
  have z : (s.heap.push { cls := .type "tuple_iterator", data := .fields #[.ref l, .int 0 0] }).objs.size = s.heap.objs.size + 1 := Heap.size_push ..
  show _ ∧ _
  rw [z]
  have e := Heap.get?_push_size (s.heap.push { cls := .type "tuple_iterator", data := .fields #[.ref l, .int 0 0] }) (o := { cls := .type "enumerate", data := .fields #[.none, .bool false, .ref s.heap.objs.size, rawInt 0, .none, .none] }) rfl
  rw [z] at e
  exact ⟨⟨_, e, rfl⟩, h _ e ⟨_, Heap.get?_push_of_some _ (Heap.get?_push_size _ rfl), rfl, rfl⟩ fun b o x => Heap.get?_push_of_some _ (Heap.get?_push_of_some _ x)⟩
theorem pi_enumT {X : Cx} {e : Expr} {ta : TA} {p pos tpos : Pos} {elts : List Expr} {kk : Nat} (pl : Bool) (hg : Gl X "enumerate") (hm : X.mg "enumerate" = none) (ha : PA X [e] ta) (hs : starEach [e] X.env = [(false, eval e X.env)]) :
    PI X (.Tuple elts kk tpos) (.Call (.Name "enumerate" p) [e] [] pos) (fun σ H R => ta σ H fun vs H1 => ∃ a xs, vs = [.ref a] ∧ SqT X.K H1 a xs ∧ R (IteT X.K pl a) H1) := by
  refine ⟨fun pins s σ H R I h => ?_⟩
  refine Call_ (ld_blt I hg hm boot_enumerate (PyProof.Rows.callWith_type1 (thn (ha.run pos pins s σ H _ I h) fun us s1 ⟨vs, H1, I1, r1, a, xs, ex, hq, q⟩ => ?_) hs rfl))
  subst ex
  obtain ⟨u, rfl, ru⟩ := vals1 r1
  cases ru
  obtain ⟨its, rv, p', hz⟩ := I1.tuple hq
  refine call_enumT p' fun h' he hit k => wpAny_pyIter_enum he ?_
  have I2 : Inv X pins σ H1 { s1 with heap := h' } := I1.kept (t' := s1.toks) k
  refine ⟨s1.heap.objs.size + 1, [s1.heap.objs.size + 1, s1.heap.objs.size], _, _, H1, rfl, I2, turn_enumT pl a (s1.heap.objs.size + 1) s1.heap.objs.size, ⟨⟨.none, he⟩, hit, Nat.succ_ne_self _⟩, fun b hb => ?_, q⟩
  have hle : s1.heap.objs.size ≤ b := by
    rcases (show b = s1.heap.objs.size + 1 ∨ b = s1.heap.objs.size by simpa using hb) with z | z
    · rw [z]; exact Nat.le_add_right _ _
    · rw [z]; exact Nat.le_refl _
  exact I1.fpOk hle (I1.hok.fresh hle)
end Cs

set_option Elab.async false
set_option linter.all false
set_option maxRecDepth 100000
namespace Cs
open PySem PySem.Spec PyProof.Rows L2

/-! ### displays and comprehensions of dicts whose keys are tuples -/
section
variable {X : Cx} {pins : List (Addr × Obj)} {σ : L2.St} {H : Hp} {s : Shared}
/-- what stands behind a store under a key -/
theorem put_inv {a b : Addr} {kvs : List (List Key × V)} {xs : List (List Key × Addr × Value)} {ks : List Key} {y : V} {r : Value} {h' : Heap} {tk : Nat} (I : Inv X pins σ H s) (e : H a = some (.dT kvs)) (rel : KT H kvs xs) (low : (a == sysModules) = false)
    (eb : H b = some (.tup (ks.map kV))) (ry : RelV y r) (hz : kvs.length < sizeLine) (d : h'.DictOfH (tupleKind (mixKind X.prog X.w)) a (storedH xs ks b r)) (sb : Heap.SameBut a s.heap h') :
    Inv X pins σ (upd H a (.dT (putK kvs ks y))) { s with heap := h', toks := tk } := by
  obtain ⟨q, es, ep, hq, h2, h3, h4, _, h5⟩ := d
  have hl : (putK kvs ks y).length ≤ sizeLine := by have := length_putK kvs ks y; omega
  refine d_write I (by rw [e]; exact True.intro) sb ⟨q, hq⟩ ⟨hl, low, _, (rel.put ks eb ry).keeps fun c ys ec => ?_, q, es, ep, hq, h2, h3, h4, h5⟩
  rw [upd_ne (ne_of ec e (fun z => nomatch z))]
  exact ec
/-- {k: v}, the key a tuple; the new dict stands empty meanwhile -/
theorem pe_disp1 {k v : Expr} {tk tv : TE} {pos : Pos} (hu : X.A.units + 1 < cLine) (hk : PE X k tk) (hv : PE X v tv) :
    PE X (.Dict [some k] [v] pos) (fun σ H Q => ∀ p, H p = none → tk σ (upd H p (.dT [])) fun x H1 => tv σ H1 fun y H2 => ∃ b ks, x = .ref b ∧ H2 b = some (.tup (ks.map kV)) ∧ H2 p = some (.dT []) ∧ Q (.ref p) (upd H2 p (.dT [(ks, y)]))) := by
  refine ⟨fun pins s σ H Q I h => ?_⟩
  generalize hp : s.heap.objs.size = p
  have hn : H p = none := I.hok.fresh (Nat.le_of_eq hp)
  have I1 : Inv X pins σ (upd H p (.dT [])) { s with heap := s.heap.push { cls := .type "dict", data := .dict #[] } } := by
    refine I.laid (t' := s.toks) (fun _ _ q => Heap.get?_push_of_some _ q) (Nat.le_of_eq hp) ?_
    rw [← hp]
    exact dt_empty s.heap I.big
  rw [arm_eval_Dict, zip_pairTrees [some k] [v] X.env pos rfl rfl, dictDisplay_pairs (pairTrees [some k] [v] X.env pos) (fun z => nomatch z) (by show 1 < 17; decide)]
  refine wpAny_bind (wpAny_standAt (wpAny_bind (wpAny_subDictH (knd := tupleKind (mixKind X.prog X.w)) (Q := fun d s' => wpAny (model X.prog X.w) X.A (pure (Value.ref d)) (EP X pins σ Q) X.xe s') (show X.A.units < cLine by omega) (by show 1 ≤ 15; decide) ?_)))
  refine pairTrees_cons_walk (thn (hk.run pins _ σ _ _ I1 (h p hn)) fun u s1 ⟨x, H1, J1, rx, q1⟩ => thn (hv.run pins s1 σ H1 _ J1 q1) fun u2 s2 ⟨y, H2, J2, ry, b, ks, ex, eb, ep, q⟩ => pairTrees_nil_walk ?_)
  subst ex
  cases rx
  obtain ⟨_, low, xs, rel, d0⟩ := dt_of J2.hok ep
  cases rel
  rw [hp]
  refine ⟨[(ks, b, u2)], ⟨rfl, rfl, key_of J2.hok eb, trivial⟩, d0, fun h' tk d1 sb => wpAny_pure ⟨.ref p, _, ?_, rfl, q⟩⟩
  exact put_inv (kvs := []) (ks := ks) (y := y) J2 ep .nil low eb ry (by decide) d1 sb
/-- one pair of a comprehension, stored -/
theorem set_pair {E : Value → Shared → Prop} {D b : Addr} {kvs : List (List Key × V)} {ks : List Key} {v : V} {r : Value} {Q : Unit → Shared → Prop} (hu : X.A.units + 1 < cLine) (I : Inv X pins σ H s) (hD : H D = some (.dT kvs)) (hz : kvs.length < sizeLine)
    (eb : H b = some (.tup (ks.map kV))) (rv : RelV v r) (h : ∀ s', Inv X pins σ (upd H D (.dT (putK kvs ks v))) s' → Q () s') : wpAny (model X.prog X.w) X.A (dictSet D (.ref b) r) Q E s := by
  obtain ⟨z, low, xs, rel, d⟩ := dt_of I.hok hD
  exact wpAny_dictSet_heap (hsz := by rw [← Paired.length rel]; exact z) (show X.A.units < cLine by omega) (key_of I.hok eb) d fun h' d' sb => h _ (put_inv I hD rel low eb rv hz d' sb)
end
section
variable {X : Cx}
/-- {k: v for target in iter if ..}, the keys tuples; D the new dict -/
def tDcT (wi : TI) (g : TG) (tt : TT) (tk tv : TE) (vs : List Nat) : TE := fun σ H Q => wi σ H fun J H1 => ∀ D, H1 D = none → ∃ W : Nat → Nat → Hp → Prop, (∃ m, W 0 m (upd H1 D (.dT []))) ∧ ∀ i m H, W i m H →
  (J.stop i H ∧ Q (.ref D) H) ∨ (J.go i H ∧ ∃ Nx : Hp → Prop, (∀ H', Nx H' → ∃ m', m' < m ∧ W (i + 1) m' H') ∧ ∀ x H', J.yld i H x H' → g x (wipe σ vs) H' fun σ2 H2 => wipe σ2 vs = wipe σ vs ∧ tt σ2 H2 fun b H3 =>
    if b = true then tk σ2 H3 fun y H4 => tv σ2 H4 fun z H5 => ∃ kvs ks p, y = .ref p ∧ H5 p = some (.tup (ks.map kV)) ∧ H5 D = some (.dT kvs) ∧ kvs.length < sizeLine ∧ Nx (upd H5 D (.dT (putK kvs ks z))) else Nx H3)
theorem pe_dcT {kx vx tg iter : Expr} {ifs : List Expr} {scope : Scope} {own : List (Str × Nat)} {pos : Pos} {wi : TI} {g : TG} {tt : TT} {tk tv : TE} (hu : X.A.units + 1 < cLine) (hc : X.calm = true) (hN : X.N.Nodup) (hi : PI X tg iter wi) (ok : BlkOk X.N X.env.scope scope own)
    (hg : ∀ (s : Shared) (H : Hp) (C : Addr) (cl : List (Str × Addr)) (fp : List Addr), PG (X.blk s H scope (compEnvC scope cl C X.env) fp) tg g) (ht : ∀ (s : Shared) (H : Hp) (C : Addr) (cl : List (Str × Addr)) (fp : List Addr), PTs (X.blk s H scope (compEnvC scope cl C X.env) fp) ifs tt)
    (hk : ∀ (s : Shared) (H : Hp) (C : Addr) (cl : List (Str × Addr)) (fp : List Addr), PE (X.blk s H scope (compEnvC scope cl C X.env) fp) kx tk)
    (he : ∀ (s : Shared) (H : Hp) (C : Addr) (cl : List (Str × Addr)) (fp : List Addr), PE (X.blk s H scope (compEnvC scope cl C X.env) fp) vx tv) (hs : ∀ x, foldedSetIterable iter X.env x = pure x) :
    PE X (.DictComp kx vx [⟨tg, iter, ifs, 0⟩] scope pos) (tDcT wi g tt tk tv (own.map (·.2))) := by
  refine ⟨fun pins s σ H Q I h => ?_⟩
  rw [arm_eval_DictComp]
  have fr : ∀ y ∈ scope.names, y.2 = .free → ∃ c, X.env.cells.lookup y.1 = some c := fun y hy e =>
    (ok.free y hy e).elim (fun q => I.ok.has _ (.inl q)) fun q => I.ok.has _ (.inr q)
  refine wpAny_comprehension_free rfl hs (closure_ok fr) ok.kind (fun y hy e => (ok.uniq y hy).trans (by rw [e])) (thn (hi.run pins s σ H _ I h) fun itValue sA hA => thn hA fun itRef sB hB => ?_)
  obtain ⟨it, fp, tn, J, HB, rfl, IB, T, stB, fB, q⟩ := hB
  refine wpAny_newObj_type (newEnv_comp ?_)
  -- the new dict
  obtain ⟨D, hD⟩ : ∃ D, sB.heap.objs.size = D := ⟨_, rfl⟩
  have nD : HB D = none := IB.hok.fresh (Nat.le_of_eq hD)
  obtain ⟨W, ⟨m0, w0⟩, turn⟩ := q D nD
  obtain ⟨sC, eC⟩ : ∃ sC : Shared, ({ sB with heap := sB.heap.push { cls := .type "dict", data := .dict #[] } } : Shared) = sC := ⟨_, rfl⟩
  have hC : sC.heap = sB.heap.push { cls := .type "dict", data := .dict #[] } := by rw [← eC]
  have IC : Inv X pins σ (upd HB D (.dT [])) sC := by
    rw [← eC]
    refine IB.laid (t' := sB.toks) (fun b o e => Heap.get?_push_of_some _ e) (Nat.le_of_eq hD) ?_
    rw [← hD]
    exact dt_empty sB.heap IB.big
  have below : ∀ b ∈ fp, b < sB.heap.objs.size := fun b hb => let ⟨o, e, _⟩ := T.obj _ _ stB b hb; Heap.lt_size e
  have fC : ∀ b ∈ fp, FpOk X pins (upd HB D (.dT [])) b ∧ b < sC.heap.objs.size := fun b hb =>
    ⟨⟨by rw [upd_ne (by rw [← hD]; exact Nat.ne_of_lt (below b hb))]; exact (fB b hb).1, (fB b hb).2⟩, by rw [hC, Heap.size_push]; exact Nat.lt_succ_of_lt (below b hb)⟩
  have stC : tn 0 sC.heap := T.keep _ _ _ stB fun b _ o e => by rw [hC]; exact Heap.get?_push_of_some _ e
  have ID := block_start IC ok hN fC
  obtain ⟨C, hCC⟩ : ∃ C, sC.heap.objs.size = C := ⟨_, rfl⟩
  obtain ⟨cl, hcl⟩ : ∃ cl, cellsFrom (sC.heap.objs.size + 1) scope.names (cloFrom X.env.cells scope.names []) = cl := ⟨_, rfl⟩
  obtain ⟨HC, hHC⟩ : ∃ HC, upd HB D (.dT []) = HC := ⟨_, rfl⟩
  obtain ⟨ce, hce⟩ : ∃ ce, compEnvC scope cl C X.env = ce := ⟨_, rfl⟩
  have pg := hg sC HC C cl fp
  have pt := ht sC HC C cl fp
  have pk := hk sC HC C cl fp
  have pe := he sC HC C cl fp
  rw [hcl, hCC, hHC, hce] at ID
  rw [hce] at pg pt pk pe
  rw [hHC] at IC fC w0
  have locals : ce.locals = C := by rw [← hce]; rfl
  obtain ⟨sD, eD⟩ : ∃ sD : Shared, ({ sC with heap := pushCells (sC.heap.push { cls := .type "dict", data := .dict #[] }) scope.names } : Shared) = sD := ⟨_, rfl⟩
  rw [eD] at ID
  have stD : tn 0 sD.heap := T.keep _ _ _ stC fun b _ o e => by rw [← eD]; exact pushCells_keeps _ _ _ _ (Heap.get?_push_of_some _ e)
  have still : ∀ {σ' : L2.St} {H' : Hp} {s' : Shared}, Inv (X.blk sC HC scope ce fp) [] σ' H' s' → (∀ b ∈ fp, H' b = none) → ∀ b ∈ fp, FpOk (X.blk sC HC scope ce fp) [] H' b := fun {σ' H' s'} J' hn b hb =>
    ⟨hn b hb, (J'.ok.exf b hb).1, J'.ok.exfs b hb, .inl hb, fun x c e => (J'.ok.exf b hb).2 x c e, fun p hp => absurd (show p ∈ ([] : List (Addr × Obj)) ++ [] from hp) (by simp)⟩
  have nfp : ∀ b ∈ fp, HC b = none := fun b hb => (fC b hb).1.1
  have goal : codeAny (model X.prog X.w) X.A (.compLoop (.DictComp kx vx [⟨tg, iter, ifs, 0⟩] scope pos) 0 (.ref it) (.ref D) ce) (compPost (model X.prog X.w) X.A X.xe none (EP X pins σ Q) (.ref D) C) sD := by
    refine compLoop_anyD (fun n s' => ∃ i H', Inv (X.blk sC HC scope ce fp) [] (wipe σ (own.map (·.2))) H' s' ∧ tn i s'.heap ∧ (∀ b ∈ fp, H' b = none) ∧ W i n H') ?_ m0 ⟨0, HC, ID, stD, nfp, w0⟩
    rintro n sE ⟨i, HE, IE, stE, nE, wE⟩
    rcases turn i n HE wE with ⟨stop, qq⟩ | ⟨go, Nx, hNx, step⟩
    · refine thnF (T.done (X.blk sC HC scope ce fp) rfl rfl rfl hc i [] sE _ HE (fun _ _ => False) IE (still IE nE) stE stop) fun r sF ⟨hr, IF⟩ => ?_
      subst hr
      have IG : Inv X pins σ HE sF := IC.call' (ch := fp) IF.os IF.base IF.hok IF.bare fun b hb => ⟨(fC b hb).1.2.2.2.1, (fC b hb).1.2.1, (fC b hb).1.2.2.2.2.1, (fC b hb).1.2.2.2.2.2⟩
      have nC : HE C = none := by
        have z : HE ce.locals = none := IF.free
        rwa [locals] at z
      obtain ⟨m, hns, _⟩ := IF.loc
      have hns : sF.heap.Ns ce.locals m := hns
      rw [locals] at hns
      refine ⟨m, hns, fun h2 sb => ?_⟩
      obtain ⟨g0, g1, g2, g3, g4, g5⟩ := IC.fpOk (H' := HE) (Nat.le_of_eq hCC) nC
      exact ⟨.ref D, HE, IG.turned (t' := sF.toks) (fun b o hb e => (sb.2 b hb).trans e) g0 g1 g3 g4 g5, rfl, qq⟩
    · refine thnF (T.item (X.blk sC HC scope ce fp) rfl rfl rfl hc i [] sE _ HE (fun _ _ => False) IE (still IE nE) stE go) fun r sF ⟨u, hr, hF⟩ => ?_
      subst hr
      refine thnF hF fun _ sG ⟨x, HG, IG, rG, yG, stG, nG⟩ => ?_
      have IG' := IG.pinned (still IG nG) (T.obj _ _ stG)
      refine thnF (pg.run _ sG _ HG x u _ IG' rG (step x HG yG)) fun _ sH ⟨σH, HH, IH, wH, qH⟩ => thnF (pt.run _ sH σH HH _ IH qH) fun b sK ⟨HK, IK, qK⟩ => ?_
      have next : ∀ {s' : Shared} {H' : Hp}, Inv (X.blk sC HC scope ce fp) ([] ++ pinsAt fp sG.heap) σH H' s' → Nx H' → ∃ m, m < n ∧ ∃ i H', Inv (X.blk sC HC scope ce fp) [] (wipe σ (own.map (·.2))) H' s' ∧ tn i s'.heap ∧ (∀ b ∈ fp, H' b = none) ∧ W i m H' := fun {s' H'} J' nx => by
        obtain ⟨m', lm, w'⟩ := hNx H' nx
        have pin : ∀ b ∈ fp, ∀ o, sG.heap.get? b = some o → s'.heap.get? b = some o ∧ H' b = none := fun b hb o e =>
          let z := J'.pin (b, o) (List.mem_append_right _ (List.mem_append_right _ (mem_pinsAt hb e)))
          ⟨z.1, z.2.1⟩
        have len : (wipe σ (own.map (·.2))).length = σH.length := by rw [← wH, wipe_length]
        refine ⟨m', lm, i + 1, H', (J'.unpinned (pins := [])).weak len (fun j v e => (wipe_some (by rw [wH]; exact e)).1), T.keep _ _ _ stG fun b hb o e => (pin b hb o e).1, fun b hb => ?_, w'⟩
        obtain ⟨o, e, _⟩ := T.obj _ _ stG b hb
        exact (pin b hb o e).2
      dsimp only at qK ⊢
      by_cases hb : b = true
      · rw [if_pos hb] at qK ⊢
        refine thnF (pk.run _ sK σH HK _ IK qK) fun kv sL ⟨yk, HL, IL, rL, qL⟩ => thnF (pe.run _ sL σH HL _ IL qL) fun vv sM ⟨yv, HM, IM, rM, kvs, ks, p, ek, ep, eD, hz, nx⟩ => ?_
        subst ek
        cases rL
        exact set_pair (X := X.blk sC HC scope ce fp) hu IM eD hz ep rM fun sN IN => next IN nx
      · rw [if_neg hb] at qK ⊢
        exact next IK qK
  have fin := codeAny_compStart_dict goal (T.self X.A 0 _ _ _ stD goal)
  clear goal still pg pt pk pe nfp
  subst eD hce hcl hHC hCC eC hD
  exact fin
end
end Cs

set_option Elab.async false
set_option linter.all false
set_option maxRecDepth 100000
namespace Cs
open PySem PySem.Spec PyProof.Rows L2
variable [Sct]

/-! ### the store held -/
def SqF (K : PySem.W.Frag) (H : Hp) (a : Addr) (xs : List V) : Prop :=
  (∃ o, H a = some (.frz o (.lst xs))) ∨
    ∃ (o : Obj) (its : Array Value) (n : Nat), K.lookup a = some o ∧ o.cls = .type "list" ∧ o.dict = none ∧ o.data = .seq its n ∧ its.size ≤ sizeLine ∧ Vals xs its.toList
theorem SqF.l {K : PySem.W.Frag} {H : Hp} {a : Addr} {xs : List V} (h : SqF K H a xs) : SqL K H a xs := by
  rcases h with h | h
  · exact .inl (.inr h)
  · exact .inr h
theorem SqF.mono {K : PySem.W.Frag} {H H' : Hp} {a : Addr} {xs : List V} (m : Mono H H') (h : SqF K H a xs) : SqF K H' a xs := by
  rcases h with ⟨o, h⟩ | h
  · exact .inl ⟨o, m.frz _ _ _ h⟩
  · exact .inr h
def SoR (K : PySem.W.Frag) (H : Hp) (ρ : List Addr) : SO → Addr → Prop
  | .lst ds, a => ∃ vs, H a = some (.lst vs) ∧ RpL K H ρ ds vs
  | .ro ds, a => ∃ vs, SqF K H a vs ∧ RpL K H ρ ds vs
  | .dk kvs, a => ∃ vs : List (Key × V), H a = some (.dK vs) ∧ kvs.map (·.1) = vs.map (·.1) ∧ RpL K H ρ (kvs.map (·.2)) (vs.map (·.2))
  | .dt kvs, a => Sct.md = .trk ∧ ∃ vs : List (List Key × V), H a = some (.dT vs) ∧ kvs.map (·.1) = vs.map (·.1) ∧ RpL K H ρ (kvs.map (·.2)) (vs.map (·.2))
def SO.mut : SO → Bool
  | .lst _ => true
  | .dk _ => true
  | .dt _ => true
  | .ro _ => false
/-- what may be written -/
def HMut (o : HO) : Prop := (∃ xs, o = .lst xs) ∨ (∃ kvs, o = .dK kvs) ∨ ∃ kvs, o = .dT kvs
theorem HMut.mono {H : Hp} {p : Addr} {o o' : HO} (m : HMut o) (h : H p = some o) : Mono H (upd H p o') := by
  rcases m with ⟨xs, rfl⟩ | ⟨kvs, rfl⟩ | ⟨kvs, rfl⟩
  · exact Mono.lst h
  · exact Mono.dk h
  · exact Mono.dt h
structure Sr (K : PySem.W.Frag) (H : Hp) (ρ : List Addr) (S : Sto) : Prop where
  len : ρ.length = S.length
  at_ : ∀ (n : Nat) so, S[n]? = some so → ∃ a, ρ[n]? = some a ∧ SoR K H ρ so a
  inj : ∀ (n m : Nat) so so' a, S[n]? = some so → S[m]? = some so' → so.mut = true → so'.mut = true → ρ[n]? = some a → ρ[m]? = some a → n = m

section
variable {K : PySem.W.Frag} {H H' : Hp} {ρ ρ' : List Addr} {S : Sto}
theorem SoR.mono {so : SO} {a : Addr} (m : Mono H H') (p : ρ <+: ρ') (hl : ∀ o, HMut o → H a = some o → H' a = some o) (h : SoR K H ρ so a) : SoR K H' ρ' so a := by
  cases so with
  | lst ds =>
    obtain ⟨vs, e, r⟩ := h
    exact ⟨vs, hl _ (.inl ⟨_, rfl⟩) e, RpL.mono m p ds vs r⟩
  | dk kvs =>
    obtain ⟨vs, e, k, r⟩ := h
    exact ⟨vs, hl _ (.inr (.inl ⟨_, rfl⟩)) e, k, RpL.mono m p _ _ r⟩
  | dt kvs =>
    obtain ⟨on, vs, e, k, r⟩ := h
    exact ⟨on, vs, hl _ (.inr (.inr ⟨_, rfl⟩)) e, k, RpL.mono m p _ _ r⟩
  | ro ds =>
    obtain ⟨vs, e, r⟩ := h
    exact ⟨vs, e.mono m, RpL.mono m p ds vs r⟩
/-- nothing of the store changed -/
theorem Sr.keep (h : Sr K H ρ S) (m : Mono H H') (hl : ∀ a o, HMut o → H a = some o → H' a = some o) : Sr K H' ρ S := by
  refine ⟨h.len, fun n so e => ?_, h.inj⟩
  obtain ⟨a, ea, r⟩ := h.at_ n so e
  exact ⟨a, ea, r.mono m (List.prefix_refl _) (hl a)⟩
theorem Sr.addr (h : Sr K H ρ S) {n : Nat} {so : SO} (e : S[n]? = some so) : ∃ a, ρ[n]? = some a ∧ SoR K H ρ so a := h.at_ n so e
theorem Sr.newT (h : Sr K H ρ S) {p : Addr} {o : HO} (hp : H p = none) : Sr K (upd H p o) ρ S :=
  h.keep (Mono.new hp) fun a o _ e => by rw [upd_ne (ne_of_none e hp)]; exact e
theorem SoR.some_of {so : SO} {a : Addr} (h : SoR K H ρ so a) (hm : so.mut = true) : ∃ o, HMut o ∧ H a = some o := by
  cases so with
  | lst ds => obtain ⟨vs, e, _⟩ := h; exact ⟨_, .inl ⟨_, rfl⟩, e⟩
  | dk kvs => obtain ⟨vs, e, _⟩ := h; exact ⟨_, .inr (.inl ⟨_, rfl⟩), e⟩
  | dt kvs => obtain ⟨_, vs, e, _⟩ := h; exact ⟨_, .inr (.inr ⟨_, rfl⟩), e⟩
  | ro ds => cases hm
theorem Sr.newG (h : Sr K H ρ S) {p : Addr} {so : SO} {o : HO} (hp : H p = none) (r : SoR K (upd H p o) (ρ ++ [p]) so p) : Sr K (upd H p o) (ρ ++ [p]) (S ++ [so]) := by
  have pr : ρ <+: ρ ++ [p] := ⟨[p], rfl⟩
  have m : Mono H (upd H p o) := Mono.new hp
  have last : ∀ {n : Nat} {so' : SO}, (S ++ [so])[n]? = some so' → (n < S.length ∧ S[n]? = some so') ∨ (n = S.length ∧ so' = so) := by
    intro n so' e
    rcases Nat.lt_trichotomy n S.length with q | q | q
    · rw [List.getElem?_append_left q] at e; exact .inl ⟨q, e⟩
    · subst q; simp at e; exact .inr ⟨rfl, e.symm⟩
    · rw [List.getElem?_eq_none (by simp; omega)] at e; cases e
  have pl : (ρ ++ [p])[S.length]? = some p := by rw [← h.len]; simp
  refine ⟨by simp [h.len], fun n so' e => ?_, fun n m' so1 so2 a e e' hm hm' ea ea' => ?_⟩
  · rcases last e with ⟨_, e⟩ | ⟨rfl, rfl⟩
    · obtain ⟨a, ea, r'⟩ := h.at_ n so' e
      exact ⟨a, pre_get pr ea, r'.mono m pr fun o _ q => by rw [upd_ne (ne_of_none q hp)]; exact q⟩
    · exact ⟨p, pl, r⟩
  · have old : ∀ {n : Nat} {so' : SO}, S[n]? = some so' → so'.mut = true → (ρ ++ [p])[n]? = some a → ρ[n]? = some a ∧ a ≠ p := by
      intro n so' e hm ea
      obtain ⟨b, eb, rb⟩ := h.at_ n so' e
      have q := pre_get pr eb
      rw [ea] at q
      have q' : a = b := Option.some.inj q
      subst q'
      obtain ⟨xs, _, ex⟩ := rb.some_of hm
      exact ⟨eb, ne_of_none ex hp⟩
    rcases last e with ⟨_, e⟩ | ⟨rfl, rfl⟩
    · obtain ⟨q1, q2⟩ := old e hm ea
      rcases last e' with ⟨_, e'⟩ | ⟨rfl, rfl⟩
      · obtain ⟨q1', _⟩ := old e' hm' ea'
        exact h.inj n m' so1 so2 a e e' hm hm' q1 q1'
      · rw [pl] at ea'
        exact absurd (Option.some.inj ea').symm q2
    · rcases last e' with ⟨_, e'⟩ | ⟨rfl, rfl⟩
      · obtain ⟨_, q2⟩ := old e' hm' ea'
        rw [pl] at ea
        exact absurd (Option.some.inj ea).symm q2
      · rfl
theorem Sr.newL (h : Sr K H ρ S) {p : Addr} {ds : List D} {vs : List V} (hp : H p = none) (r : RpL K H ρ ds vs) : Sr K (upd H p (.lst vs)) (ρ ++ [p]) (S ++ [.lst ds]) :=
  h.newG hp ⟨vs, upd_same, RpL.mono (Mono.new hp) ⟨[p], rfl⟩ ds vs r⟩
theorem Sr.newD (h : Sr K H ρ S) {p : Addr} {kvs : List (Key × D)} {vs : List (Key × V)} (hp : H p = none) (k : kvs.map (·.1) = vs.map (·.1)) (r : RpL K H ρ (kvs.map (·.2)) (vs.map (·.2))) : Sr K (upd H p (.dK vs)) (ρ ++ [p]) (S ++ [.dk kvs]) :=
  h.newG hp ⟨vs, upd_same, k, RpL.mono (Mono.new hp) ⟨[p], rfl⟩ _ _ r⟩
theorem Sr.newE (h : Sr K H ρ S) (on : Sct.md = .trk) {p : Addr} {kvs : List (List Key × D)} {vs : List (List Key × V)} (hp : H p = none) (k : kvs.map (·.1) = vs.map (·.1)) (r : RpL K H ρ (kvs.map (·.2)) (vs.map (·.2))) : Sr K (upd H p (.dT vs)) (ρ ++ [p]) (S ++ [.dt kvs]) :=
  h.newG hp ⟨on, vs, upd_same, k, RpL.mono (Mono.new hp) ⟨[p], rfl⟩ _ _ r⟩
theorem Sr.writeG (h : Sr K H ρ S) {n : Nat} {so0 so1 : SO} {o : HO} {a : Addr} (e : S[n]? = some so0) (m0 : so0.mut = true) (ea : ρ[n]? = some a) (r : Mono H (upd H a o) → SoR K (upd H a o) ρ so1 a) :
    Sr K (upd H a o) ρ (S.set n so1) ∧ Mono H (upd H a o) := by
  obtain ⟨b, eb, r0⟩ := h.at_ n _ e
  rw [ea] at eb; cases eb
  obtain ⟨o0, ho0, hb⟩ := r0.some_of m0
  have m : Mono H (upd H a o) := ho0.mono hb
  have hn : n < S.length := (List.getElem?_eq_some_iff.mp e).1
  have at' : ∀ {k : Nat} {so : SO}, (S.set n so1)[k]? = some so → (k = n ∧ so = so1) ∨ (k ≠ n ∧ S[k]? = some so) := by
    intro k so q
    by_cases z : k = n
    · subst z; rw [List.getElem?_set_self hn] at q; exact .inl ⟨rfl, (Option.some.inj q).symm⟩
    · rw [List.getElem?_set_ne (Ne.symm z)] at q; exact .inr ⟨z, q⟩
  refine ⟨⟨by simp [h.len], fun k so q => ?_, fun k l so so' b q q' hm hm' eb eb' => ?_⟩, m⟩
  · rcases at' q with ⟨rfl, rfl⟩ | ⟨z, q⟩
    · exact ⟨a, ea, r m⟩
    · obtain ⟨b, eb, rb⟩ := h.at_ k so q
      refine ⟨b, eb, ?_⟩
      have ne : so.mut = true → b ≠ a := fun hm z' => by
        subst z'
        exact z (h.inj k n _ _ b q e hm m0 eb ea)
      cases so with
      | lst ys =>
        obtain ⟨ws, ew, rw'⟩ := rb
        exact ⟨ws, by rw [upd_ne (ne rfl)]; exact ew, RpL.mono m (List.prefix_refl _) ys ws rw'⟩
      | dk ys =>
        obtain ⟨ws, ew, kw, rw'⟩ := rb
        exact ⟨ws, by rw [upd_ne (ne rfl)]; exact ew, kw, RpL.mono m (List.prefix_refl _) _ _ rw'⟩
      | dt ys =>
        obtain ⟨on, ws, ew, kw, rw'⟩ := rb
        exact ⟨on, ws, by rw [upd_ne (ne rfl)]; exact ew, kw, RpL.mono m (List.prefix_refl _) _ _ rw'⟩
      | ro ys =>
        obtain ⟨ws, ew, rw'⟩ := rb
        exact ⟨ws, ew.mono m, RpL.mono m (List.prefix_refl _) ys ws rw'⟩
  · have back : ∀ {k : Nat} {so : SO}, (S.set n so1)[k]? = some so → so.mut = true → ∃ so0, S[k]? = some so0 ∧ so0.mut = true := by
      intro k so q hm
      rcases at' q with ⟨rfl, rfl⟩ | ⟨z, q⟩
      · exact ⟨_, e, m0⟩
      · exact ⟨_, q, hm⟩
    obtain ⟨s0, q0, n0⟩ := back q hm
    obtain ⟨s1, q1, n1⟩ := back q' hm'
    exact h.inj k l s0 s1 b q0 q1 n0 n1 eb eb'
theorem Sr.write (h : Sr K H ρ S) {n : Nat} {xs ds : List D} {vs : List V} {a : Addr} (e : S[n]? = some (.lst xs)) (ea : ρ[n]? = some a) (r : RpL K H ρ ds vs) :
    Sr K (upd H a (.lst vs)) ρ (S.set n (.lst ds)) ∧ Mono H (upd H a (.lst vs)) :=
  h.writeG e rfl ea fun m => ⟨vs, upd_same, RpL.mono m (List.prefix_refl _) ds vs r⟩
theorem Sr.writeD (h : Sr K H ρ S) {n : Nat} {xs ds : List (Key × D)} {vs : List (Key × V)} {a : Addr} (e : S[n]? = some (.dk xs)) (ea : ρ[n]? = some a) (k : ds.map (·.1) = vs.map (·.1)) (r : RpL K H ρ (ds.map (·.2)) (vs.map (·.2))) :
    Sr K (upd H a (.dK vs)) ρ (S.set n (.dk ds)) ∧ Mono H (upd H a (.dK vs)) :=
  h.writeG e rfl ea fun m => ⟨vs, upd_same, k, RpL.mono m (List.prefix_refl _) _ _ r⟩
theorem Sr.writeE (h : Sr K H ρ S) (on : Sct.md = .trk) {n : Nat} {xs ds : List (List Key × D)} {vs : List (List Key × V)} {a : Addr} (e : S[n]? = some (.dt xs)) (ea : ρ[n]? = some a) (k : ds.map (·.1) = vs.map (·.1)) (r : RpL K H ρ (ds.map (·.2)) (vs.map (·.2))) :
    Sr K (upd H a (.dT vs)) ρ (S.set n (.dt ds)) ∧ Mono H (upd H a (.dT vs)) :=
  h.writeG e rfl ea fun m => ⟨on, vs, upd_same, k, RpL.mono m (List.prefix_refl _) _ _ r⟩
theorem RpL.length : ∀ {ds : List D} {vs : List V}, RpL K H ρ ds vs → ds.length = vs.length
  | [], _, h => by cases h; rfl
  | d :: ds, _, h => by
    obtain ⟨v, r, rfl, _, h2⟩ := h
    simp [RpL.length h2]
theorem RpL.get : ∀ {ds : List D} {vs : List V} {i : Nat} {d : D}, RpL K H ρ ds vs → ds[i]? = some d → ∃ v, vs[i]? = some v ∧ Rp K H ρ d v
  | [], _, _, _, _, e => by simp at e
  | d :: ds, _, 0, _, h, e => by
    obtain ⟨v, r, rfl, h1, _⟩ := h
    simp at e; subst e
    exact ⟨v, rfl, h1⟩
  | d :: ds, _, i + 1, _, h, e => by
    obtain ⟨v, r, rfl, _, h2⟩ := h
    simp at e
    obtain ⟨u, e1, q⟩ := RpL.get h2 e
    exact ⟨u, by simpa using e1, q⟩
theorem RpL.getV : ∀ {ds : List D} {vs : List V} {i : Nat} {v : V}, RpL K H ρ ds vs → vs[i]? = some v → ∃ d, ds[i]? = some d ∧ Rp K H ρ d v
  | [], _, _, _, h, e => by cases h; simp at e
  | d :: ds, _, 0, _, h, e => by
    obtain ⟨v, r, rfl, h1, _⟩ := h
    simp at e; subst e
    exact ⟨d, rfl, h1⟩
  | d :: ds, _, i + 1, _, h, e => by
    obtain ⟨v, r, rfl, _, h2⟩ := h
    simp at e
    obtain ⟨u, e1, q⟩ := RpL.getV h2 e
    exact ⟨u, by simpa using e1, q⟩
theorem RpL.append : ∀ {ds es : List D} {vs us : List V}, RpL K H ρ ds vs → RpL K H ρ es us → RpL K H ρ (ds ++ es) (vs ++ us)
  | [], _, _, _, h, k => by cases h; exact k
  | d :: ds, _, _, _, h, k => by
    obtain ⟨v, r, rfl, h1, h2⟩ := h
    exact ⟨v, _, rfl, h1, RpL.append h2 k⟩
theorem RpL.take : ∀ {ds : List D} {vs : List V} (n : Nat), RpL K H ρ ds vs → RpL K H ρ (ds.take n) (vs.take n)
  | [], _, n, h => by cases h; simp [RpL]
  | d :: ds, _, 0, h => by simp [RpL]
  | d :: ds, _, n + 1, h => by
    obtain ⟨v, r, rfl, h1, h2⟩ := h
    exact ⟨v, _, rfl, h1, RpL.take n h2⟩
theorem RpL.drop : ∀ {ds : List D} {vs : List V} (n : Nat), RpL K H ρ ds vs → RpL K H ρ (ds.drop n) (vs.drop n)
  | [], _, n, h => by cases h; simp [RpL]
  | d :: ds, _, 0, h => h
  | d :: ds, _, n + 1, h => by
    obtain ⟨v, r, rfl, h1, h2⟩ := h
    exact RpL.drop n h2
theorem RpL.set : ∀ {ds : List D} {vs : List V} (n : Nat) {d : D} {v : V}, RpL K H ρ ds vs → Rp K H ρ d v → RpL K H ρ (ds.set n d) (vs.set n v)
  | [], _, n, _, _, h, _ => by cases h; simp [RpL]
  | d :: ds, _, 0, _, _, h, k => by
    obtain ⟨v, r, rfl, h1, h2⟩ := h
    exact ⟨_, _, rfl, k, h2⟩
  | d :: ds, _, n + 1, _, _, h, k => by
    obtain ⟨v, r, rfl, h1, h2⟩ := h
    exact ⟨v, _, rfl, h1, RpL.set n h2 k⟩
theorem RpL.one {d : D} {v : V} (h : Rp K H ρ d v) : RpL K H ρ [d] [v] := ⟨v, [], rfl, h, rfl⟩
theorem RpL.reverse : ∀ {ds : List D} {vs : List V}, RpL K H ρ ds vs → RpL K H ρ ds.reverse vs.reverse
  | [], _, h => by cases h; exact rfl
  | d :: ds, _, h => by
    obtain ⟨v, r, rfl, h1, h2⟩ := h
    simp only [List.reverse_cons]
    exact (RpL.reverse h2).append (RpL.one h1)
theorem RpL.ints : ∀ {ns : List Int} {vs : List V}, RpL K H ρ (ns.map D.int) vs ↔ vs = ns.map V.int
  | [], vs => Iff.rfl
  | n :: ns, vs => by
    constructor
    · rintro ⟨v, r, rfl, h1, h2⟩
      rw [RpL.ints.mp h2]
      cases h1; rfl
    · rintro rfl
      exact ⟨_, _, rfl, rfl, RpL.ints.mpr rfl⟩
theorem RpL.strs : ∀ {ns : List Str} {vs : List V}, RpL K H ρ (ns.map D.str) vs ↔ vs = ns.map V.str
  | [], vs => Iff.rfl
  | n :: ns, vs => by
    constructor
    · rintro ⟨v, r, rfl, h1, h2⟩
      rw [RpL.strs.mp h2]
      cases h1; rfl
    · rintro rfl
      exact ⟨_, _, rfl, rfl, RpL.strs.mpr rfl⟩
theorem RpL.bls : ∀ {ns : List Bool} {vs : List V}, RpL K H ρ (ns.map D.bl) vs ↔ vs = ns.map V.bl
  | [], vs => Iff.rfl
  | n :: ns, vs => by
    constructor
    · rintro ⟨v, r, rfl, h1, h2⟩
      rw [RpL.bls.mp h2]
      cases h1; rfl
    · rintro rfl
      exact ⟨_, _, rfl, rfl, RpL.bls.mpr rfl⟩
end

/-! ### slots -/
structure EnvR (K : PySem.W.Frag) (H : Hp) (ρ : List Addr) (env : Ev) (σ : L2.St) : Prop where
  len : env.length = σ.length
  at_ : ∀ (i : Nat) d, env[i]? = some (some d) → ∃ v, σ[i]? = some (some v) ∧ Rp K H ρ d v
section
variable {K : PySem.W.Frag} {H H' : Hp} {ρ ρ' : List Addr} {env : Ev} {σ : L2.St}
theorem EnvR.mono (h : EnvR K H ρ env σ) (m : Mono H H') (p : ρ <+: ρ') : EnvR K H' ρ' env σ :=
  ⟨h.len, fun i d e => let ⟨v, e1, r⟩ := h.at_ i d e; ⟨v, e1, r.mono m p d v⟩⟩
theorem EnvR.set (h : EnvR K H ρ env σ) {i : Nat} {d : D} {v : V} (r : Rp K H ρ d v) : EnvR K H ρ (env.set i (some d)) (σ.set i (some v)) := by
  refine ⟨by simp [h.len], fun j d' e => ?_⟩
  by_cases z : j = i
  · subst z
    have hj : j < env.length := by
      have := (List.getElem?_eq_some_iff.mp e).1
      simpa using this
    rw [List.getElem?_set_self hj] at e
    cases e
    exact ⟨v, List.getElem?_set_self (by rw [← h.len]; exact hj), r⟩
  · rw [List.getElem?_set_ne (Ne.symm z)] at e
    obtain ⟨u, e1, r1⟩ := h.at_ j d' e
    exact ⟨u, by rw [List.getElem?_set_ne (Ne.symm z)]; exact e1, r1⟩
def wipeE (env : Ev) : List Nat → Ev
  | [] => env
  | v :: vs => (wipeE env vs).set v none
theorem EnvR.wipe (h : EnvR K H ρ env σ) : ∀ vs : List Nat, EnvR K H ρ (wipeE env vs) (wipe σ vs)
  | [] => h
  | v :: vs => by
    have ih := EnvR.wipe h vs
    unfold wipeE L2.wipe
    refine ⟨by simp [ih.len], fun j d e => ?_⟩
    by_cases z : j = v
    · subst z
      have hj : j < (wipeE env vs).length := by
        have := (List.getElem?_eq_some_iff.mp e).1
        simpa using this
      rw [List.getElem?_set_self hj] at e
      cases e
    · rw [List.getElem?_set_ne (Ne.symm z)] at e
      obtain ⟨u, e1, r1⟩ := ih.at_ j d e
      exact ⟨u, by rw [List.getElem?_set_ne (Ne.symm z)]; exact e1, r1⟩
end
end Cs

set_option Elab.async false
set_option linter.all false
set_option maxRecDepth 100000
namespace Cs
open PySem PySem.Spec PyProof.Rows L2

/-! ### the own trees -/
inductive Cn where
  | non | bl (b : Bool) | int (i : Int) | str (s : String)
deriving DecidableEq
inductive Bop where
  | add | sub | mul | fdiv | mod | pow
deriving DecidableEq
inductive Cop where
  | eq | ne | lt | le | gt | ge | isin | notin
deriving DecidableEq
/-- what a loop walks -/
inductive IK where
  | seq | rng | enum | rev | zip
deriving DecidableEq
inductive Tg where
  | v (i : Nat) | t (is : List Nat)
deriving DecidableEq
inductive E where
  | var (i : Nat)
  | cn (c : Cn)
  | glb (x : String)
  | bin (op : Bop) (a b : E)
  | neg (a : E)
  | cmp (op : Cop) (a b : E)
  | isN (a : E) | notN (a : E) | isB (a : E) (b : Bool) | isi (a : E) (T : String)
  | nt (a : E)
  | and (a b : E) | or (a b : E)
  | ife (c a b : E)
  | tup (es : List E) | lst (es : List E)
  | idx (a i : E)
  | slc (a lo hi : E)
  | call (f : String) (es : List E)
  | blt (f : String) (es : List E)
  | mth (m : String) (o : E) (es : List E)
  | lc (t : Tg) (k : IK) (es : List E) (c e : E)
  | lc2 (t : Tg) (k : IK) (es : List E) (c : E) (t1 : Tg) (k1 : IK) (es1 : List E) (c1 : E) (e : E)
  | tr (e : E)
  | dnew
  | mth0 (m : String) (o : E)
  | dict1 (k v : E)
  | dc (t : Tg) (k : IK) (es : List E) (c ke ve : E)
  | gget (g : String) (i : E)
  | gin (neg : Bool) (g : String) (a : E)
  | dzip (a b : E)
  | trev (a : E)
  | lrng (a : E)
inductive S where
  | set (i : Nat) (e : E)
  | setT (is : List Nat) (e : E)
  | par (i j : Nat) (a b : E)
  | setI (o k v : E)
  | ex (e : E)
  | ret (e : E)
  | iff (c : E) (a b : List S)
  | whl (c : E) (b : List S)
  | for_ (t : Tg) (k : IK) (es : List E) (b : List S)
  | brk | cont | pass

def Cn.d : Cn → D
  | .non => .non
  | .bl b => .bl b
  | .int i => .int i
  | .str s => .str (Str.ofString s)

/-! ### the evaluator -/
def bnd {α β : Type} (m : Option (α × Sto)) (f : α → Sto → Option (β × Sto)) : Option (β × Sto) :=
  match m with
  | some (a, S) => f a S
  | none => none
@[simp] theorem bnd_some {α β : Type} (a : α) (S : Sto) (f : α → Sto → Option (β × Sto)) : bnd (some (a, S)) f = f a S := rfl
@[simp] theorem bnd_none {α β : Type} (f : α → Sto → Option (β × Sto)) : bnd none f = none := rfl
theorem bnd_inv {α β : Type} {m : Option (α × Sto)} {f : α → Sto → Option (β × Sto)} {r : β × Sto} (h : bnd m f = some r) : ∃ a S, m = some (a, S) ∧ f a S = some r := by
  cases m with
  | none => cases h
  | some p => exact ⟨p.1, p.2, rfl, h⟩

abbrev Hn := String → List D → Sto → Option (D × Sto)
structure Cfg where
  C : Hn
  G : String → Option D

def getL (S : Sto) (n : Nat) : Option (List D) :=
  match S[n]? with
  | some (.lst xs) => some xs
  | some (.ro xs) => some xs
  | _ => none
/-- a dict -/
def getK (S : Sto) (n : Nat) : Option (List (Key × D)) :=
  match S[n]? with
  | some (.dk kvs) => some kvs
  | _ => none
/-- a dict whose keys are tuples -/
def getT (S : Sto) (n : Nat) : Option (List (List Key × D)) :=
  match S[n]? with
  | some (.dt kvs) => some kvs
  | _ => none
def getM (S : Sto) (n : Nat) : Option (List D) :=
  match S[n]? with
  | some (.lst xs) => some xs
  | _ => none

/-! data without places -/
mutual
def D.pure : D → Bool
  | .loc _ => false
  | .tup xs => D.pureL xs
  | _ => true
def D.pureL : List D → Bool
  | [] => true
  | d :: ds => d.pure && D.pureL ds
end
mutual
def D.und (n : Nat) : D → Prop
  | .loc m => m < n
  | .tup xs => D.undL n xs
  | _ => True
def D.undL (n : Nat) : List D → Prop
  | [] => True
  | d :: ds => D.und n d ∧ D.undL n ds
end
def SO.und (n : Nat) : SO → Prop
  | .lst xs => D.undL n xs
  | .ro xs => D.undL n xs
  | .dk kvs => D.undL n (kvs.map (·.2))
  | .dt kvs => D.undL n (kvs.map (·.2))
mutual
def D.py : D → PyData
  | .non => .none
  | .bl b => .bool b
  | .int i => .int i
  | .str s => .str s
  | .tup xs => .tuple (D.pyL xs)
  | .loc _ => .none
def D.pyL : List D → List PyData
  | [] => []
  | d :: ds => d.py :: D.pyL ds
end
/-- comparable: no places, proper texts, not too deep -/
def D.ok (d : D) : Prop := d.pure = true ∧ SeqAt.shaped d.py = true
def okL (ds : List D) : Prop := D.pureL ds = true ∧ SeqAt.shaped (.list (D.pyL ds)) = true

/-- a value to be compared: data, or a list of data -/
noncomputable def cmpd (S : Sto) : D → Option PyData
  | .loc n => match getL S n with
    | some xs => open Classical in if okL xs then some (.list (D.pyL xs)) else none
    | none => none
  | d => open Classical in if d.ok then some d.py else none

def truth (S : Sto) : D → Option Bool
  | .non => some false
  | .bl b => some b
  | .int i => some (i != 0)
  | .str s => if s.length ≤ sizeLine then some ((s.length : Int) != 0) else none
  | .tup xs => some (!xs.isEmpty)
  | .loc n => (getL S n).map fun xs => !xs.isEmpty
def isN : D → Bool
  | .non => true
  | _ => false

def mulOk (i j : Int) : Prop := i.natAbs.log2 + j.natAbs.log2 < 1000000
instance (i j : Int) : Decidable (mulOk i j) := by unfold mulOk; infer_instance
def divOk (j : Int) : Prop := 0 < j ∧ j.natAbs.log2 < 9000
instance (j : Int) : Decidable (divOk j) := by unfold divOk; infer_instance
def powOk (i j : Int) : Prop := 0 ≤ j ∧ j ≤ 1000000 ∧ i.natAbs < 2 ^ 64
instance (i j : Int) : Decidable (powOk i j) := by unfold powOk; infer_instance

def bop (op : Bop) (x y : D) (S : Sto) : Option (D × Sto) :=
  match op, x, y with
  | .add, .int i, .int j => some (.int (i + j), S)
  | .sub, .int i, .int j => some (.int (i - j), S)
  | .mul, .int i, .int j => if mulOk i j then some (.int (i * j), S) else none
  | .fdiv, .int i, .int j => if divOk j then some (.int (i / j), S) else none
  | .mod, .int i, .int j => if 0 < j then some (.int (i % j), S) else none
  | .pow, .int i, .int j => if powOk i j then some (.int (i ^ j.toNat), S) else none
  | .add, .str a, .str b => if a.length + b.length ≤ sizeLine then some (.str (a ++ b), S) else none
  | .add, .tup xs, .tup ys => if xs.length + ys.length ≤ sizeLine then some (.tup (xs ++ ys), S) else none
  | .add, .loc n, .loc m => match getM S n, getM S m with
    | some xs, some ys => if xs.length + ys.length ≤ sizeLine then some (.loc S.length, S ++ [.lst (xs ++ ys)]) else none
    | _, _ => none
  | _, _, _ => none

/-- two ints, two texts -/
def scD : D → D → Option Bool
  | .int i, .int j => some (decide (i = j))
  | .str a, .str b => some (decide (a = b))
  | _, _ => none
noncomputable def copEq (x y : D) (S : Sto) : Option Bool :=
  match scD x y with
  | some b => some b
  | none => match cmpd S x, cmpd S y with
    | some a, some b => some (PyData.eqv a b)
    | _, _ => none
/-! dicts: keys are ints and texts -/
def keyD : D → Option Key
  | .int i => some (.inl i)
  | .str s => some (.inr s)
  | _ => none
/-- a tuple of such -/
def keyT : D → Option (List Key)
  | .tup ds => ds.mapM keyD
  | _ => none
section
variable {κ : Type} [DecidableEq κ]
def valD (kvs : List (κ × D)) (k : κ) : Option D := (kvs.find? fun kv => decide (kv.1 = k)).map (·.2)
def putD (kvs : List (κ × D)) (k : κ) (v : D) : List (κ × D) :=
  if (kvs.any fun kv => decide (kv.1 = k)) = true then kvs.map (fun kv => if kv.1 = k then (kv.1, v) else kv) else kvs ++ [(k, v)]
def mergeD (kvs more : List (κ × D)) : List (κ × D) := more.foldl (fun acc kv => putD acc kv.1 kv.2) kvs
end
/-- x is a dict: what it holds at y -/
def dkAt (x y : D) (S : Sto) : Option (Option D) :=
  match x with
  | .loc n => match S[n]? with
    | some (.dk kvs) => (keyD y).map (valD kvs)
    | some (.dt kvs) => (keyT y).map (valD kvs)
    | _ => none
  | _ => none
noncomputable def copL (op : Cop) (x y : D) (S : Sto) : Option (D × Sto) :=
  match op with
  | .eq => (copEq x y S).map fun b => (.bl b, S)
  | .ne => (copEq x y S).map fun b => (.bl (!b), S)
  | .lt => match x, y with
    | .int i, .int j => some (.bl (decide (i < j)), S)
    | _, _ => none
  | .le => match x, y with
    | .int i, .int j => some (.bl (decide (i ≤ j)), S)
    | _, _ => none
  | .gt => match x, y with
    | .int i, .int j => some (.bl (decide (j < i)), S)
    | _, _ => none
  | .ge => match x, y with
    | .int i, .int j => some (.bl (decide (j ≤ i)), S)
    | _, _ => none
  | .isin => match cmpd S x, y with
    | some a, .tup ys => open Classical in if okL ys then some (.bl ((D.pyL ys).any fun z => PyData.eqv z a), S) else none
    | some a, .loc n => match getL S n with
      | some ys => open Classical in if okL ys then some (.bl ((D.pyL ys).any fun z => PyData.eqv z a), S) else none
      | none => none
    | _, _ => none
  | .notin => match cmpd S x, y with
    | some a, .tup ys => open Classical in if okL ys then some (.bl (!(D.pyL ys).any fun z => PyData.eqv z a), S) else none
    | some a, .loc n => match getL S n with
      | some ys => open Classical in if okL ys then some (.bl (!(D.pyL ys).any fun z => PyData.eqv z a), S) else none
      | none => none
    | _, _ => none

noncomputable def cop (op : Cop) (x y : D) (S : Sto) : Option (D × Sto) :=
  match op, dkAt y x S with
  | .isin, some o => some (.bl o.isSome, S)
  | .notin, some o => some (.bl (!o.isSome), S)
  | op, _ => copL op x y S
def iopL (x i : D) (S : Sto) : Option (D × Sto) :=
  match x, i with
  | .tup xs, .int k => (atI xs k).map fun v => (v, S)
  | .loc n, .int k => match getL S n with
    | some xs => (atI xs k).map fun v => (v, S)
    | none => none
  | .str z, .int k => if z.length ≤ sizeLine then (atI z.cps.toList k).map fun c => (.str ⟨#[c]⟩, S) else none
  | _, _ => none

def iop (x i : D) (S : Sto) : Option (D × Sto) :=
  match dkAt x i S with
  | some o => o.map fun v => (v, S)
  | none => iopL x i S

def isNonE : E → Bool
  | .cn .non => true | _ => false
/-- a slice's bound: left out, or an int -/
def bndE (e : E) (d : D) : Option (Option Int) := if isNonE e = true then some none else match d with
  | .int i => some (some i)
  | _ => none
def cutD (xs : List D) (lo hi : Option Int) : List D := (xs.drop (HT.sIx xs.length 0 lo)).take (HT.sIx xs.length xs.length hi - HT.sIx xs.length 0 lo)
def slop (x : D) (lo hi : Option Int) (S : Sto) : Option (D × Sto) :=
  match x with
  | .tup xs => some (.tup (cutD xs lo hi), S)
  | .loc n => match getL S n with
    | some xs => some (.loc S.length, S ++ [.lst (cutD xs lo hi)])
    | none => none
  | _ => none

/-! ### what a loop walks -/
def smallI (j : Int) : Prop := -(2 ^ 62) ≤ j ∧ j < 2 ^ 62
instance (j : Int) : Decidable (smallI j) := by unfold smallI; infer_instance
def rngD (lo : Int) (n : Nat) : List D := (List.range n).map fun i => D.int (lo + (i : Nat))
def enumD (lo : Nat) : List D → List D
  | [] => []
  | x :: xs => .tup [.int lo, x] :: enumD (lo + 1) xs
def zipD : List D → List D → List D
  | x :: xs, y :: ys => .tup [x, y] :: zipD xs ys
  | _, _ => []
/-- the items, and what must stand still meanwhile -/
abbrev Watch := List (Nat × List D)
def items (k : IK) (vs : List D) (S : Sto) : Option (List D × Watch) :=
  match k, vs with
  | .seq, [.tup ds] => some (ds, [])
  | .seq, [.loc n] => (getL S n).map fun ds => (ds, [(n, ds)])
  | .rng, [.int j] => if smallI j then some (rngD 0 j.toNat, []) else none
  | .rng, [.int i, .int j] => if smallI i ∧ smallI j then some (rngD i (j - i).toNat, []) else none
  | .rev, [.loc n] => (getL S n).map fun ds => (ds.reverse, [(n, ds)])
  | .enum, [.tup ds] => some (enumD 0 ds, [])
  | _, _ => none
def still (w : Watch) (S : Sto) : Prop := ∀ p ∈ w, getL S p.1 = some p.2

def asg (t : Tg) (d : D) (env : Ev) : Option Ev :=
  match t with
  | .v i => some (env.set i (some d))
  | .t is => match d with
    | .tup ds => if is.length = ds.length then some ((is.zip ds).foldl (fun e p => e.set p.1 (some p.2)) env) else none
    | _ => none
def Tg.slots : Tg → List Nat
  | .v i => [i]
  | .t is => is

section
variable (cond : Ev → Sto → Option (Bool × Sto)) (elt : Ev → Sto → Option (D × Sto))
/-- a comprehension's loop: the new list at n0 -/
noncomputable def lcL (w : Watch) (t : Tg) (n0 : Nat) (env : Ev) : List D → Sto → Option (Unit × Sto)
  | [], S => open Classical in if still w S then some ((), S) else none
  | x :: xs, S => open Classical in if still w S then
      match asg t x env with
      | none => none
      | some env1 => bnd (cond env1 S) fun k S1 =>
        if k = true then bnd (elt env1 S1) fun y S2 =>
          match getM S2 n0 with
          | some acc => if acc.length < sizeLine then lcL w t n0 env xs (S2.set n0 (.lst (acc ++ [y]))) else none
          | none => none
        else lcL w t n0 env xs S1
    else none
/-- a dict comprehension's loop: the new dict at n0 -/
noncomputable def dcL (val : Ev → Sto → Option (D × Sto)) (w : Watch) (t : Tg) (n0 : Nat) (env : Ev) : List D → Sto → Option (Unit × Sto)
  | [], S => open Classical in if still w S then some ((), S) else none
  | x :: xs, S => open Classical in if still w S then
      match asg t x env with
      | none => none
      | some env1 => bnd (cond env1 S) fun k S1 =>
        if k = true then bnd (elt env1 S1) fun y S2 => bnd (val env1 S2) fun z S3 =>
          match getT S3 n0, keyT y with
          | some kvs, some kt => if kvs.length < sizeLine then dcL val w t n0 env xs (S3.set n0 (.dt (putD kvs kt z))) else none
          | _, _ => none
        else dcL val w t n0 env xs S1
    else none
/-- two clauses: the outer loop -/
noncomputable def lc2L (inner : Ev → Sto → Option (Unit × Sto)) (w : Watch) (t : Tg) (env : Ev) : List D → Sto → Option (Unit × Sto)
  | [], S => open Classical in if still w S then some ((), S) else none
  | x :: xs, S => open Classical in if still w S then
      match asg t x env with
      | none => none
      | some env1 => bnd (cond env1 S) fun k S1 => if k = true then bnd (inner env1 S1) fun _ S2 => lc2L inner w t env xs S2 else lc2L inner w t env xs S1
    else none
end

/-! ### what a call leaves: places made in between are let go -/
def Pre (S S' : Sto) : Prop := S.length ≤ S'.length ∧ ∀ i so, i < S.length → S'[i]? = some so → S[i]? = some so ∨ so.und S.length
open Classical in
noncomputable def fin (S : Sto) (r : D × Sto) : Option (D × Sto) :=
  if Pre S r.2 then
    (if r.1.und S.length then some (r.1, r.2.take S.length)
     else match r.1 with
      | .loc m => match r.2[m]? with
        | some so => if so.mut = true ∧ so.und S.length then some (.loc S.length, r.2.take S.length ++ [so]) else none
        | none => none
      | _ => none)
  else none

/-! ### built-ins, methods -/
abbrev Bf := List D → Sto → Option (D × Sto)
def bLen : Bf
  | [.tup xs], S => some (.int xs.length, S)
  | [.loc n], S => (getL S n).map fun xs => (.int xs.length, S)
  | [.str z], S => if z.length ≤ sizeLine then some (.int z.length, S) else none
  | _, _ => none
def bAbs : Bf
  | [.int i], S => some (.int (if i < 0 then -i else i), S)
  | _, _ => none
def bInt : Bf
  | [.int i], S => some (.int i, S)
  | [.bl k], S => some (.int (if k then 1 else 0), S)
  | _, _ => none
def bMax : Bf
  | [.int i, .int j], S => some (.int (if j > i then j else i), S)
  | _, _ => none
def bMin : Bf
  | [.int i, .int j], S => some (.int (if j < i then j else i), S)
  | _, _ => none
def bGcd : Bf
  | [.int i, .int j], S => some (.int ((Nat.gcd i.natAbs j.natAbs : Nat) : Int), S)
  | _, _ => none
def kD : Key → D
  | .inl i => .int i
  | .inr s => .str s
def bList : Bf
  | [.loc n], S => match S[n]? with
    | some (.dk kvs) => some (.loc S.length, S ++ [.lst (kvs.map fun kv => kD kv.1)])
    | some (.dt kvs) => some (.loc S.length, S ++ [.lst (kvs.map fun kv => .tup (kv.1.map kD))])
    | some (.lst xs) => some (.loc S.length, S ++ [.lst xs])
    | some (.ro xs) => some (.loc S.length, S ++ [.lst xs])
    | none => none
  | [.tup xs], S => some (.loc S.length, S ++ [.lst xs])
  | _, _ => none
def bTuple : Bf
  | [.loc n], S => (getL S n).map fun xs => (.tup xs, S)
  | [.tup xs], S => some (.tup xs, S)
  | _, _ => none
def D.isB : D → Option Bool
  | .bl b => some b
  | _ => none
def bls (xs : List D) : Option (List Bool) := xs.mapM D.isB
def bAll : Bf
  | [.loc n], S => (getL S n).bind fun xs => (bls xs).map fun bs => (.bl (bs.all id), S)
  | _, _ => none
def bAny : Bf
  | [.loc n], S => (getL S n).bind fun xs => (bls xs).map fun bs => (.bl (bs.any id), S)
  | _, _ => none
def D.isI : D → Option Int
  | .int i => some i
  | _ => none
def D.isS : D → Option Str
  | .str i => some i
  | _ => none
def leS (a b : Str) : Bool := !Spec.ltCps b.cps.toList a.cps.toList
def bSorted : Bf
  | [.loc n], S => match getL S n with
    | some xs => if xs.length < 64 then match xs.mapM D.isI with
        | some ns => some (.loc S.length, S ++ [.lst ((ns.mergeSort (fun a b => decide (a ≤ b))).map D.int)])
        | none => match xs.mapM D.isS with
          | some ss => some (.loc S.length, S ++ [.lst ((ss.mergeSort leS).map D.str)])
          | none => none
      else none
    | none => none
  | _, _ => none
/-- what may be shown: proper, not too deep, not too long -/
def shOk (p : PyData) : Prop := p.showable = true ∧ p.hasDict = false ∧ p.depth ≤ 64 ∧ p.shown.length ≤ sizeLine
open Classical in
noncomputable def bRepr : Bf
  | [.tup xs], S => if D.pureL xs = true ∧ shOk (D.py (.tup xs)) then some (.str (D.py (.tup xs)).shown, S) else none
  | [.bl b], S => some (.str (if b then ("True" : String) else "False"), S)
  | [.loc n], S => match getL S n with
    | some xs => if D.pureL xs = true ∧ shOk (.list (D.pyL xs)) then some (.str (PyData.list (D.pyL xs)).shown, S) else none
    | none => none
  | _, _ => none
/-- a pair, its first one a key -/
def pairD : D → Option (Key × D)
  | .tup [k, v] => (keyD k).map fun k => (k, v)
  | _ => none
def bDict : Bf
  | [.tup ps], S => if ps.length ≤ sizeLine then (ps.mapM pairD).map fun kvs => (.loc S.length, S ++ [.dk (mergeD [] kvs)]) else none
  | _, _ => none
/-- dict(zip(x, y)) -/
def dzOp (x y : D) (S : Sto) : Option (D × Sto) := match x, y with
  | .loc n, .tup ys => match getL S n with
    | some xs => match xs.mapM keyD with
      | some ks => if xs.length = ys.length ∧ ys.length ≤ sizeLine then some (.loc S.length, S ++ [.dk (mergeD [] (ks.zip ys))]) else none
      | none => none
    | none => none
  | _, _ => none
/-- list(range(x)) -/
def lrOp (x : D) (S : Sto) : Option (D × Sto) := match x with
  | .int i => if i ≤ 16777216 ∧ -16777216 ≤ i then some (.loc S.length, S ++ [.lst (rngD 0 i.toNat)]) else none
  | _ => none
/-- tuple(reversed(x)) -/
def trOp (x : D) (S : Sto) : Option (D × Sto) := match x with
  | .loc n => (getL S n).map fun xs => (.tup xs.reverse, S)
  | .tup xs => some (.tup xs.reverse, S)
  | _ => none
/-- a table of the text's top: the value at a text -/
def tabAt (d : D) (z : Str) : Option D := match d with
  | .tup ps => ps.findSome? fun p => match p with
    | .tup [.str k, v] => if k = z then some v else none
    | _ => none
  | _ => none
noncomputable def blt (f : String) : Bf :=
  match f with
  | "dict" => bDict
  | "repr" => bRepr
  | "sorted" => bSorted
  | "len" => bLen
  | "abs" => bAbs
  | "int" => bInt
  | "max" => bMax
  | "min" => bMin
  | "gcd" => bGcd
  | "list" => bList
  | "tuple" => bTuple
  | "all" => bAll
  | "any" => bAny
  | _ => fun _ _ => none
abbrev Mf := D → List D → Sto → Option (D × Sto)
def mAppend : Mf
  | .loc n, [y], S => match getM S n with
    | some xs => if xs.length < sizeLine then some (.non, S.set n (.lst (xs ++ [y]))) else none
    | none => none
  | _, _, _ => none
/-- the first place of an equal one -/
def fstEq (d : PyData) : Nat → List PyData → Option Nat
  | _, [] => none
  | k, x :: xs => if PyData.eqv x d = true then some k else fstEq d (k + 1) xs
noncomputable def mIndex : Mf
  | .loc n, [y], S => match getL S n with
    | some xs => open Classical in if okL xs ∧ y.ok then (fstEq y.py 0 (D.pyL xs)).map fun j => (.int j, S) else none
    | none => none
  | _, _, _ => none
/-- the first place of a text in a text -/
def mSindex : Mf
  | .str a, [.str b], S => match Builtin.Str.occurrences a b 0 a.length 1 with
    | i :: _ => some (.int (i : Nat), S)
    | [] => none
  | _, _, _ => none
def mInsert : Mf
  | .loc n, [.int i, y], S => match getM S n with
    | some xs => if xs.length < sizeLine ∧ 0 ≤ i ∧ i < 2 ^ 63 then some (.non, S.set n (.lst (xs.take i.toNat ++ [y] ++ xs.drop i.toNat))) else none
    | none => none
  | _, _, _ => none
/-- methods without arguments -/
def mPop (x : D) (S : Sto) : Option (D × Sto) := match x with
  | .loc n => match getM S n with
    | some xs => match xs[xs.length - 1]? with
      | some y => some (y, S.set n (.lst xs.dropLast))
      | none => none
    | none => none
  | _ => none
def mReverse (x : D) (S : Sto) : Option (D × Sto) := match x with
  | .loc n => match getM S n with
    | some xs => some (.non, S.set n (.lst xs.reverse))
    | none => none
  | _ => none
def mth0 (m : String) : D → Sto → Option (D × Sto) :=
  match m with
  | "pop" => mPop
  | "reverse" => mReverse
  | _ => fun _ _ => none
noncomputable def mth (m : String) : Mf :=
  match m with
  | "sindex" => mSindex
  | "insert" => mInsert
  | "index" => mIndex
  | "append" => mAppend
  | _ => fun _ _ _ => none

/-- the receiver's kind, looked at ahead of the arguments -/
def mTy (m : String) (x : D) (S : Sto) : Bool :=
  match m, x with
  | "append", .loc n => (getL S n).isSome
  | "index", .loc n => (getL S n).isSome
  | "insert", .loc n => (getL S n).isSome
  | "sindex", .str _ => true
  | _, _ => false

/-! ### expressions -/
def tyN : D → String
  | .non => "NoneType" | .bl _ => "bool" | .int _ => "int" | .str _ => "str" | .tup _ => "tuple" | .loc _ => "list"
def isiN (T n : String) : Bool := n == T || (n == "bool" && T == "int")
def isiB (T : String) (d : D) : Bool := isiN T (tyN d)
/-- no dict -/
def noDk (S : Sto) : D → Bool
  | .loc n => (getL S n).isSome
  | _ => true
def evVar (i : Nat) (env : Ev) (S : Sto) : Option (D × Sto) :=
  match env[i]? with
  | some (some d) => some (d, S)
  | _ => none
def tst (m : Option (D × Sto)) : Option (Bool × Sto) := bnd m fun x S => (truth S x).map fun k => (k, S)
def ifT {α : Type} (m : Option (Bool × Sto)) (f g : Sto → Option (α × Sto)) : Option (α × Sto) := bnd m fun k S => if k = true then f S else g S
def lift {α : Type} (o : Option α) (S : Sto) : Option (α × Sto) := o.map fun a => (a, S)

mutual
noncomputable def evE (c : Cfg) : E → Ev → Sto → Option (D × Sto)
  | .var i, env, S => evVar i env S
  | .cn k, _, S => some (k.d, S)
  | .glb x, _, S => lift (c.G x) S
  | .bin op a b, env, S => bnd (evE c a env S) fun x S1 => bnd (evE c b env S1) fun y S2 => bop op x y S2
  | .neg a, env, S => bnd (evE c a env S) fun x S1 => match x with | .int i => some (.int (-i), S1) | _ => none
  | .cmp op a b, env, S => bnd (evE c a env S) fun x S1 => bnd (evE c b env S1) fun y S2 => cop op x y S2
  | .isN a, env, S => bnd (evE c a env S) fun x S1 => some (.bl (isN x), S1)
  | .notN a, env, S => bnd (evE c a env S) fun x S1 => some (.bl (!isN x), S1)
  | .isB a b, env, S => bnd (evE c a env S) fun x S1 => match x with | .bl k => some (.bl (decide (k = b)), S1) | _ => none
  | .isi a T, env, S => bnd (evE c a env S) fun x S1 => if noDk S1 x = true then some (.bl (isiB T x), S1) else none
  | .nt a, env, S => bnd (evE c a env S) fun x S1 => (truth S1 x).map fun k => (.bl (!k), S1)
  | .and a b, env, S => bnd (evE c a env S) fun x S1 => bnd (lift (truth S1 x) S1) fun k S1 => if k = true then evE c b env S1 else some (x, S1)
  | .or a b, env, S => bnd (evE c a env S) fun x S1 => bnd (lift (truth S1 x) S1) fun k S1 => if k = true then some (x, S1) else evE c b env S1
  | .ife t a b, env, S => ifT (tst (evE c t env S)) (evE c a env) (evE c b env)
  | .tup es, env, S => bnd (evEs c es env S) fun xs S1 => some (.tup xs, S1)
  | .lst es, env, S => bnd (evEs c es env S) fun xs S1 => some (.loc S1.length, S1 ++ [.lst xs])
  | .idx a i, env, S => bnd (evE c a env S) fun x S1 => bnd (evE c i env S1) fun y S2 => iop x y S2
  | .slc a lo hi, env, S => bnd (evE c a env S) fun x S1 => bnd (evE c lo env S1) fun l S2 => bnd (evE c hi env S2) fun h S3 => match bndE lo l, bndE hi h with | some l, some h => slop x l h S3 | _, _ => none
  | .call f es, env, S => bnd (evEs c es env S) fun xs S1 => c.C f xs S1
  | .blt f es, env, S => bnd (evEs c es env S) fun xs S1 => blt f xs S1
  | .mth m o es, env, S => bnd (evE c o env S) fun x S1 => if mTy m x S1 = true then bnd (evEs c es env S1) fun xs S2 => mth m x xs S2 else none
  | .lc t k es cnd e, env, S => bnd (evEs c es env S) fun xs S1 => bnd (lift (items k xs S1) S1) fun iw S1 =>
      bnd (lcL (fun env S => tst (evE c cnd env S)) (evE c e) iw.2 t S1.length (wipeE env t.slots) iw.1 (S1 ++ [.lst []])) fun _ S2 => some (.loc S1.length, S2)
  | .lc2 t k es cnd t1 k1 es1 cnd1 e, env, S => bnd (evEs c es env S) fun xs S1 => bnd (lift (items k xs S1) S1) fun iw S1 =>
      bnd (lc2L (fun env S => tst (evE c cnd env S)) (fun env1 S2 => bnd (evEs c es1 env1 S2) fun ys S3 => bnd (lift (items k1 ys S3) S3) fun iw1 S3 =>
          lcL (fun env S => tst (evE c cnd1 env S)) (evE c e) iw1.2 t1 S1.length (wipeE env1 t1.slots) iw1.1 S3) iw.2 t (wipeE env (t.slots ++ t1.slots)) iw.1 (S1 ++ [.lst []])) fun _ S2 => some (.loc S1.length, S2)
  | .tr e, env, S => bnd (evE c e env S) fun x S1 => fin S (x, S1)
  | .dnew, _, S => some (.loc S.length, S ++ [.dk []])
  | .mth0 m o, env, S => bnd (evE c o env S) fun x S1 => mth0 m x S1
  | .dict1 k v, env, S => bnd (evE c k env (S ++ [.dt []])) fun x S1 => bnd (evE c v env S1) fun y S2 =>
      match getT S2 S.length, keyT x with
      | some [], some kt => some (.loc S.length, S2.set S.length (.dt [(kt, y)]))
      | _, _ => none
  | .dc t k es cnd ke ve, env, S => bnd (evEs c es env S) fun xs S1 => bnd (lift (items k xs S1) S1) fun iw S1 =>
      bnd (dcL (fun env S => tst (evE c cnd env S)) (evE c ke) (evE c ve) iw.2 t S1.length (wipeE env t.slots) iw.1 (S1 ++ [.dt []])) fun _ S2 => some (.loc S1.length, S2)
  | .gget g i, env, S => bnd (evE c i env S) fun y S1 => match c.G g, y with
      | some tb, .str z => lift (tabAt tb z) S1
      | _, _ => none
  | .gin neg g a, env, S => bnd (evE c a env S) fun x S1 => match c.G g, x with
      | some tb, .str z => some (.bl (neg != (tabAt tb z).isSome), S1)
      | _, _ => none
  | .dzip a b, env, S => bnd (evE c a env S) fun x S1 => bnd (evE c b env S1) fun y S2 => dzOp x y S2
  | .trev a, env, S => bnd (evE c a env S) fun x S1 => trOp x S1
  | .lrng a, env, S => bnd (evE c a env S) fun x S1 => lrOp x S1
termination_by structural e _ _ => e
noncomputable def evEs (c : Cfg) : List E → Ev → Sto → Option (List D × Sto)
  | [], _, S => some ([], S)
  | e :: es, env, S => bnd (evE c e env S) fun x S1 => bnd (evEs c es env S1) fun xs S2 => some (x :: xs, S2)
termination_by structural es _ _ => es
end

/-! ### statements -/
inductive Fl where
  | nx (env : Ev) | rt (d : D) | bk (env : Ev) | ct (env : Ev)
abbrev X1 := Ev → Sto → Option (Fl × Sto)
/-- for: over the items -/
noncomputable def forL (w : Watch) (t : Tg) (body : X1) : List D → X1
  | [], env, S => open Classical in if still w S then some (.nx env, S) else none
  | x :: xs, env, S => open Classical in if still w S then
      match asg t x env with
      | none => none
      | some env1 => bnd (body env1 S) fun f S1 => match f with
        | .nx env2 => forL w t body xs env2 S1
        | .ct env2 => forL w t body xs env2 S1
        | .bk env2 => some (.nx env2, S1)
        | .rt d => some (.rt d, S1)
    else none
def whN (c : Ev → Sto → Option (Bool × Sto)) (body : X1) : Nat → X1
  | 0, _, _ => none
  | n + 1, env, S => bnd (c env S) fun k S1 => if k = true then bnd (body env S1) fun f S2 => match f with
        | .nx env2 => whN c body n env2 S2
        | .ct env2 => whN c body n env2 S2
        | .bk env2 => some (.nx env2, S2)
        | .rt d => some (.rt d, S2)
      else some (.nx env, S1)
open Classical in
noncomputable def whE (c : Ev → Sto → Option (Bool × Sto)) (body : X1) : X1 := fun env S =>
  if h : ∃ n, (whN c body n env S).isSome = true then whN c body h.choose env S else none
def setL (env : Ev) (is : List Nat) (d : D) : Option Ev := asg (.t is) d env
def sqn (m : Option (Fl × Sto)) (k : X1) : Option (Fl × Sto) := bnd m fun f S1 => match f with
  | .nx env1 => k env1 S1
  | f => some (f, S1)
/-- x[y] = z: a list, a dict -/
def setOp (z x y : D) (S : Sto) : Option (Unit × Sto) := match x with
  | .loc n => match getK S n with
    | some kvs => match keyD y with
      | some k => if kvs.length < sizeLine then some ((), S.set n (.dk (putD kvs k z))) else none
      | none => none
    | none => match getT S n with
     | some kvs => match keyT y with
      | some k => if kvs.length < sizeLine then some ((), S.set n (.dt (putD kvs k z))) else none
      | none => none
     | none => match getM S n, y with
      | some xs, .int i => match ixN xs.length i with
        | some j => some ((), S.set n (.lst (xs.set j z)))
        | none => none
      | _, _ => none
  | _ => none
mutual
noncomputable def exS (c : Cfg) : S → Ev → Sto → Option (Fl × Sto)
  | .set i e, env, S => bnd (evE c e env S) fun x S1 => some (.nx (env.set i (some x)), S1)
  | .setT is e, env, S => bnd (evE c e env S) fun x S1 => bnd (lift (asg (.t is) x env) S1) fun env1 S1 => some (.nx env1, S1)
  | .par i j a b, env, S => bnd (evE c a env S) fun x S1 => bnd (evE c b env S1) fun y S2 => some (.nx ((env.set i (some x)).set j (some y)), S2)
  | .setI o k v, env, S => bnd (evE c v env S) fun z S1 => bnd (evE c o env S1) fun x S2 => bnd (evE c k env S2) fun y S3 => bnd (setOp z x y S3) fun _ S4 => some (.nx env, S4)
  | .ex e, env, S => bnd (evE c e env S) fun _ S1 => some (.nx env, S1)
  | .ret e, env, S => bnd (evE c e env S) fun x S1 => some (.rt x, S1)
  | .iff t a b, env, S => ifT (tst (evE c t env S)) (exSs c a env) (exSs c b env)
  | .whl t b, env, S => whE (fun env S => tst (evE c t env S)) (exSs c b) env S
  | .for_ t k es b, env, S => bnd (evEs c es env S) fun xs S1 => bnd (lift (items k xs S1) S1) fun iw S1 => forL iw.2 t (exSs c b) iw.1 env S1
  | .brk, env, S => some (.bk env, S)
  | .cont, env, S => some (.ct env, S)
  | .pass, env, S => some (.nx env, S)
termination_by structural s _ _ => s
noncomputable def exSs (c : Cfg) : List S → Ev → Sto → Option (Fl × Sto)
  | [], env, S => some (.nx env, S)
  | s :: ss, env, S => sqn (exS c s env S) (exSs c ss)
termination_by structural ss _ _ => ss
end

/-! ### defs -/
structure FDef where
  np : Nat
  nl : Nat
  body : List S
  keep : Bool := false
def start' (fd : FDef) (vs : List D) : Ev := vs.map some ++ List.replicate (fd.nl - fd.np) none
noncomputable def runF (c : Cfg) (fd : FDef) (vs : List D) (S : Sto) : Option (D × Sto) :=
  if vs.length = fd.np then
    bnd (exSs c fd.body (start' fd vs) S) fun fl S1 => match fl with
      | .rt d => if fd.keep = true then some (d, S1) else fin S (d, S1)
      | .nx _ => if fd.keep = true then some (.non, S1) else fin S (.non, S1)
      | _ => none
  else none
noncomputable def callF (Γ : String → Option FDef) (G : String → Option D) : Nat → Hn
  | 0, f, vs, S => if f = "gcd" then bGcd vs S else none
  | k + 1, f, vs, S => if f = "gcd" then bGcd vs S else match Γ f with
    | none => none
    | some fd => runF ⟨callF Γ G k, G⟩ fd vs S
end Cs

set_option Elab.async false
set_option linter.all false
set_option maxRecDepth 100000
namespace Cs
open PySem PySem.Spec PyProof.Rows L2
variable [Sct]

/-! ### readings -/
/-- what is wanted behind: the store S', the value d -/
def Pst (K : PySem.W.Frag) (H : Hp) (ρ : List Addr) (d : D) (S' : Sto) (Q : VK) : Prop :=
  ∀ H' ρ' v, Mono H H' → ρ <+: ρ' → Sr K H' ρ' S' → Rp K H' ρ' d v → Q v H'
section
variable {K : PySem.W.Frag} {H : Hp} {ρ : List Addr} {S : Sto} {Q : VK}
theorem Pst.same {d : D} {v : V} (p : Pst K H ρ d S Q) (s : Sr K H ρ S) (r : Rp K H ρ d v) : Q v H := p H ρ v Mono.refl (List.prefix_refl _) s r
theorem Pst.newT {ds : List D} {vs : List V} (p : Pst K H ρ (.tup ds) S Q) (s : Sr K H ρ S) (r : RpL K H ρ ds vs) : TQ H vs Q := by
  intro a o h hc hd
  by_cases e : Sct.md = .pln
  · exact .inr (p _ ρ _ (Mono.new h) (List.prefix_refl _) (s.newT h) ⟨a, vs, rfl, SqX.newP e hd, RpL.mono (Mono.new h) (List.prefix_refl _) ds vs r⟩)
  · exact .inl (p _ ρ _ (Mono.new h) (List.prefix_refl _) (s.newT h) ⟨a, vs, rfl, SqX.new e, RpL.mono (Mono.new h) (List.prefix_refl _) ds vs r⟩)
theorem Pst.newL {ds : List D} {vs : List V} {a : Addr} (p : Pst K H ρ (.loc S.length) (S ++ [.lst ds]) Q) (s : Sr K H ρ S) (r : RpL K H ρ ds vs) (h : H a = none) : Q (.ref a) (upd H a (.lst vs)) :=
  p _ (ρ ++ [a]) _ (Mono.new h) ⟨[a], rfl⟩ (s.newL h r) ⟨a, rfl, by rw [← s.len]; simp⟩
theorem Pst.write {n : Nat} {xs ds : List D} {vs : List V} {a : Addr} {d : D} {v : V} (p : Pst K H ρ d (S.set n (.lst ds)) Q) (s : Sr K H ρ S) (e : S[n]? = some (.lst xs)) (ea : ρ[n]? = some a) (r : RpL K H ρ ds vs)
    (rd : Rp K H ρ d v) : Q v (upd H a (.lst vs)) := by
  obtain ⟨s', m⟩ := s.write e ea r
  exact p _ ρ _ m (List.prefix_refl _) s' (rd.mono m (List.prefix_refl _) _ _)
end
/-- two-place, one-place, call, method readings -/
def LB (K : PySem.W.Frag) (f : D → D → Sto → Option (D × Sto)) : R2 := fun x y H Q => ∃ ρ S d1 d2 d S', Sr K H ρ S ∧ Rp K H ρ d1 x ∧ Rp K H ρ d2 y ∧ f d1 d2 S = some (d, S') ∧ Pst K H ρ d S' Q
def LC (K : PySem.W.Frag) (f : List D → Sto → Option (D × Sto)) : List V → Hp → VK → Prop := fun xs H Q => ∃ ρ S ds d S', Sr K H ρ S ∧ RpL K H ρ ds xs ∧ f ds S = some (d, S') ∧ Pst K H ρ d S' Q
def LM (K : PySem.W.Frag) (f : D → List D → Sto → Option (D × Sto)) : V → List V → Hp → VK → Prop := fun x xs H Q => ∃ ρ S d0 ds d S', Sr K H ρ S ∧ Rp K H ρ d0 x ∧ RpL K H ρ ds xs ∧ f d0 ds S = some (d, S') ∧ Pst K H ρ d S' Q

section
variable {K : PySem.W.Frag} {H : Hp} {ρ : List Addr} {S : Sto}
theorem getL_so {n : Nat} {xs : List D} (h : getL S n = some xs) : S[n]? = some (.lst xs) ∨ S[n]? = some (.ro xs) := by
  unfold getL at h
  split at h
  · cases h; exact .inl (by assumption)
  · cases h; exact .inr (by assumption)
  · cases h
theorem getM_so {n : Nat} {xs : List D} (h : getM S n = some xs) : S[n]? = some (.lst xs) := by
  unfold getM at h
  split at h
  · cases h; assumption
  · cases h
/-- a list at a place, read -/
theorem Sr.list (s : Sr K H ρ S) {n : Nat} {xs : List D} {x : V} (h : getL S n = some xs) (r : Rp K H ρ (.loc n) x) : ∃ a vs, x = .ref a ∧ ρ[n]? = some a ∧ SqL K H a vs ∧ RpL K H ρ xs vs := by
  obtain ⟨a, rfl, ea⟩ := r
  rcases getL_so h with e | e
  · obtain ⟨b, eb, vs, hv, rv⟩ := s.at_ n _ e
    rw [ea] at eb; cases eb
    exact ⟨a, vs, rfl, ea, SqL.of hv, rv⟩
  · obtain ⟨b, eb, vs, hv, rv⟩ := s.at_ n _ e
    rw [ea] at eb; cases eb
    exact ⟨a, vs, rfl, ea, hv.l, rv⟩
theorem Sr.lstM (s : Sr K H ρ S) {n : Nat} {xs : List D} {x : V} (h : getM S n = some xs) (r : Rp K H ρ (.loc n) x) : ∃ a vs, x = .ref a ∧ ρ[n]? = some a ∧ H a = some (.lst vs) ∧ RpL K H ρ xs vs := by
  obtain ⟨a, rfl, ea⟩ := r
  obtain ⟨b, eb, vs, hv, rv⟩ := s.at_ n _ (getM_so h)
  rw [ea] at eb; cases eb
  exact ⟨a, vs, rfl, ea, hv, rv⟩
end
/-! ### values as PyData -/
mutual
theorem dp_of {K : PySem.W.Frag} {H : Hp} {ρ : List Addr} : ∀ (d : D) (v : V), d.pure = true → Rp K H ρ d v → Dp K H v d.py
  | .non, v, _, h => by cases h; exact .non
  | .bl b, v, _, h => by cases h; exact .bl b
  | .int i, v, _, h => by cases h; exact .int i
  | .str s, v, _, h => by cases h; exact .str s
  | .tup ds, v, p, h => by
    obtain ⟨a, vs, rfl, hs, hr⟩ := h
    exact .tup hs.1 (dp_ofL ds vs (by simpa [D.pure] using p) hr)
  | .loc n, v, p, _ => by simp [D.pure] at p
theorem dp_ofL {K : PySem.W.Frag} {H : Hp} {ρ : List Addr} : ∀ (ds : List D) (vs : List V), D.pureL ds = true → RpL K H ρ ds vs → DpAll K H vs (D.pyL ds)
  | [], vs, _, h => by cases h; exact .nil
  | d :: ds, vs, p, h => by
    obtain ⟨v, r, rfl, h1, h2⟩ := h
    simp [D.pureL] at p
    exact .cons (dp_of d v p.1 h1) (dp_ofL ds r p.2 h2)
end
theorem cmpd_dp {K : PySem.W.Frag} {H : Hp} {ρ : List Addr} {S : Sto} {d : D} {x : V} {p : PyData} (s : Sr K H ρ S) (r : Rp K H ρ d x) (h : cmpd S d = some p) : Dp K H x p ∧ SeqAt.shaped p = true := by
  have other : ∀ d : D, d.ok → Rp K H ρ d x → Dp K H x d.py ∧ SeqAt.shaped d.py = true := fun d o r => ⟨dp_of d x o.1 r, o.2⟩
  cases d with
  | loc n =>
    simp only [cmpd] at h
    cases e : getL S n with
    | none => rw [e] at h; cases h
    | some xs =>
      rw [e] at h
      simp only at h
      split at h
      · rename_i o
        cases h
        obtain ⟨a, vs, rfl, _, hs, hr⟩ := s.list e r
        exact ⟨.lst hs (dp_ofL xs vs o.1 hr), o.2⟩
      · cases h
  | _ =>
    simp only [cmpd] at h
    split at h
    · rename_i o
      cases h
      exact other _ o r
    · cases h

section
variable {X : Cx}
def bop_of : Bop → Operator
  | .add => .Add | .sub => .Sub | .mul => .Mult | .fdiv => .FloorDiv | .mod => .Mod | .pow => .Pow
theorem op_bop (op : Bop) : OpR X (binaryOp (bop_of op)) (LB X.K (bop op)) := by
  intro pins s σ H x y v u Q I rx ry h
  obtain ⟨ρ, S, d1, d2, d, S', hs, r1, r2, hf, hq⟩ := h
  unfold bop at hf
  split at hf
  · cases hf; cases r1; cases r2
    exact op_add pins s σ H _ _ v u Q I rx ry ⟨_, _, rfl, rfl, hq.same hs rfl⟩
  · cases hf; cases r1; cases r2
    exact op_sub pins s σ H _ _ v u Q I rx ry ⟨_, _, rfl, rfl, hq.same hs rfl⟩
  · cases r1; cases r2
    split at hf
    · rename_i hm; cases hf
      exact op_mulW pins s σ H _ _ v u Q I rx ry ⟨_, _, rfl, rfl, hm, hq.same hs rfl⟩
    · cases hf
  · cases r1; cases r2
    split at hf
    · rename_i hm; cases hf
      exact op_fdivW pins s σ H _ _ v u Q I rx ry ⟨_, _, rfl, rfl, hm, hq.same hs rfl⟩
    · cases hf
  · cases r1; cases r2
    split at hf
    · rename_i hm; cases hf
      exact op_mod pins s σ H _ _ v u Q I rx ry ⟨_, _, rfl, rfl, hm, hq.same hs rfl⟩
    · cases hf
  · cases r1; cases r2
    split at hf
    · rename_i hm; cases hf
      exact op_pow pins s σ H _ _ v u Q I rx ry ⟨_, _, rfl, rfl, hm, hq.same hs rfl⟩
    · cases hf
  · cases r1; cases r2
    split at hf
    · rename_i hm; cases hf
      exact op_add_str pins s σ H _ _ v u Q I rx ry ⟨_, _, rfl, rfl, hm, hq.same hs rfl⟩
    · cases hf
  · skip
    split at hf
    · rename_i hm; cases hf
      obtain ⟨a, vs, rfl, sa, ra⟩ := r1
      obtain ⟨b, us, rfl, sb, rb⟩ := r2
      refine op_catV pins s σ H _ _ v u Q I rx ry ⟨a, b, vs, us, rfl, rfl, sa.1, sb.1, by rw [← ra.length, ← rb.length]; exact hm, fun z => ?_, fun z z2 => ?_, fun _ _ => hq.newT hs (ra.append rb)⟩
      · subst z
        have : _ = [] := List.eq_nil_of_length_eq_zero ra.length
        subst this
        exact hq.same hs ⟨b, us, rfl, sb, rb⟩
      · subst z2
        have : _ = [] := List.eq_nil_of_length_eq_zero rb.length
        subst this
        rw [List.append_nil] at hq
        exact hq.same hs ⟨a, vs, rfl, sa, ra⟩
    · cases hf
  · skip
    split at hf
    · rename_i xs ys e1 e2
      split at hf
      · rename_i hm; cases hf
        obtain ⟨a, vs, rfl, _, ha, ra⟩ := hs.lstM e1 r1
        obtain ⟨b, us, rfl, _, hb, rb⟩ := hs.lstM e2 r2
        exact op_cat pins s σ H _ _ v u Q I rx ry ⟨a, b, vs, us, rfl, rfl, ha, hb, by rw [← ra.length, ← rb.length]; exact hm, fun p hp => hq.newL hs (ra.append rb) hp⟩
      · cases hf
    · cases hf
  · cases hf

def cop_of : Cop → CmpOp
  | .eq => .Eq | .ne => .NotEq | .lt => .Lt | .le => .LtE | .gt => .Gt | .ge => .GtE | .isin => .In | .notin => .NotIn
theorem dpAll_of {K : PySem.W.Frag} {H : Hp} {a : Addr} {vs : List V} {ds : List PyData} (h : SqT K H a vs) (r : DpAll K H vs ds) : Dp K H (.ref a) (.tuple ds) := .tup h r
theorem op_inA (hu : X.A.units + 65 < cLine) {neg : Bool} {x y : V} {d : PyData} {ds : List PyData} {pins s σ H v u Q} (I : Inv X pins σ H s) (rx : RelV x v) (ry : RelV y u) (hd : Dp X.K H x d) (he : Dp X.K H y (.list ds) ∨ Dp X.K H y (.tuple ds))
    (sd : SeqAt.shaped d = true) (se : SeqAt.shaped (.list ds) = true) (q : Q (.bl (if neg then !(ds.any fun z => PyData.eqv z d) else ds.any fun z => PyData.eqv z d)) H) :
    wpAny (model X.prog X.w) X.A (compareOp (if neg then .NotIn else .In) v u) (EP X pins σ Q) X.xe s := by
  obtain ⟨as, r1⟩ := Dp.reads I d x v hd rx
  have hl : PyData.canLayAll0 ds = true := SeqAt.canLay_of_shaped se
  rcases he with he | he
  · obtain ⟨bs, r2⟩ := Dp.reads I (.list ds) y u he ry
    cases neg with
    | false => exact SeqAt.in_list_reads r2 r1 hl (SeqAt.canLay_of_shaped sd) (room_in_shaped sd hu) ⟨.bl _, H, I, rfl, q⟩
    | true => exact SeqAt.notIn_list_reads r2 r1 hl (SeqAt.canLay_of_shaped sd) (room_in_shaped sd hu) ⟨.bl _, H, I, rfl, q⟩
  · obtain ⟨bs, r2⟩ := Dp.reads I (.tuple ds) y u he ry
    cases neg with
    | false => exact SeqAt.in_tuple_reads r2 r1 hl (SeqAt.canLay_of_shaped sd) (room_in_shaped sd hu) ⟨.bl _, H, I, rfl, q⟩
    | true => exact SeqAt.notIn_tuple_reads r2 r1 hl (SeqAt.canLay_of_shaped sd) (room_in_shaped sd hu) ⟨.bl _, H, I, rfl, q⟩
theorem scD_scal {K : PySem.W.Frag} {H : Hp} {ρ : List Addr} {d e : D} {x y : V} {b : Bool} (h : scD d e = some b) (r1 : Rp K H ρ d x) (r2 : Rp K H ρ e y) : scal x y = true ∧ decide (x = y) = b := by
  unfold scD at h
  split at h
  · cases h; cases r1; cases r2
    exact ⟨rfl, by simp⟩
  · cases h; cases r1; cases r2
    exact ⟨rfl, by simp⟩
  · cases h
theorem op_copL (hu : X.A.units + 65 < cLine) (op : Cop) : OpR X (compareOp (cop_of op)) (LB X.K (copL op)) := by
  intro pins s σ H x y v u Q I rx ry h
  obtain ⟨ρ, S, d1, d2, d, S', hs, r1, r2, hf, hq⟩ := h
  cases op with
  | eq =>
    simp only [copL, copEq] at hf
    split at hf
    · rename_i b eb
      cases hf
      obtain ⟨sc, de⟩ := scD_scal eb r1 r2
      exact op_eq pins s σ H x y v u Q I rx ry ⟨sc, by rw [de]; exact hq.same hs rfl⟩
    · split at hf
      · rename_i a b ea eb
        cases hf
        obtain ⟨p1, s1⟩ := cmpd_dp hs r1 ea
        obtain ⟨p2, s2⟩ := cmpd_dp hs r2 eb
        exact op_eqD (by omega) pins s σ H x y v u Q I rx ry ⟨a, b, p1, p2, s1, s2, hq.same hs rfl⟩
      · cases hf
  | ne =>
    simp only [copL, copEq] at hf
    split at hf
    · rename_i b eb
      cases hf
      obtain ⟨sc, de⟩ := scD_scal eb r1 r2
      exact op_ne pins s σ H x y v u Q I rx ry ⟨sc, by rw [de]; exact hq.same hs rfl⟩
    · split at hf
      · rename_i a b ea eb
        cases hf
        obtain ⟨p1, s1⟩ := cmpd_dp hs r1 ea
        obtain ⟨p2, s2⟩ := cmpd_dp hs r2 eb
        exact op_neD (by omega) pins s σ H x y v u Q I rx ry ⟨a, b, p1, p2, s1, s2, hq.same hs rfl⟩
      · cases hf
  | lt =>
    simp only [copL] at hf
    split at hf
    · cases hf; cases r1; cases r2
      exact op_lt pins s σ H _ _ v u Q I rx ry ⟨_, _, rfl, rfl, hq.same hs rfl⟩
    · cases hf
  | le =>
    simp only [copL] at hf
    split at hf
    · cases hf; cases r1; cases r2
      exact op_le pins s σ H _ _ v u Q I rx ry ⟨_, _, rfl, rfl, hq.same hs rfl⟩
    · cases hf
  | gt =>
    simp only [copL] at hf
    split at hf
    · cases hf; cases r1; cases r2
      exact op_gt pins s σ H _ _ v u Q I rx ry ⟨_, _, rfl, rfl, hq.same hs rfl⟩
    · cases hf
  | ge =>
    simp only [copL] at hf
    split at hf
    · cases hf; cases r1; cases r2
      exact op_ge pins s σ H _ _ v u Q I rx ry ⟨_, _, rfl, rfl, hq.same hs rfl⟩
    · cases hf
  | isin =>
    simp only [copL] at hf
    split at hf
    · rename_i a ys ea
      split at hf
      · rename_i o; cases hf
        obtain ⟨p1, s1⟩ := cmpd_dp hs r1 ea
        obtain ⟨b, vs, rfl, sb, rb⟩ := r2
        exact op_inA (neg := false) hu I rx ry p1 (.inr (.tup sb.1 (dp_ofL ys vs o.1 rb))) s1 o.2 (hq.same hs rfl)
      · cases hf
    · rename_i a n ea
      split at hf
      · rename_i ys e
        split at hf
        · rename_i o; cases hf
          obtain ⟨p1, s1⟩ := cmpd_dp hs r1 ea
          obtain ⟨b, vs, rfl, _, sb, rb⟩ := hs.list e r2
          exact op_inA (neg := false) hu I rx ry p1 (.inl (.lst sb (dp_ofL ys vs o.1 rb))) s1 o.2 (hq.same hs rfl)
        · cases hf
      · cases hf
    · cases hf
  | notin =>
    simp only [copL] at hf
    split at hf
    · rename_i a ys ea
      split at hf
      · rename_i o; cases hf
        obtain ⟨p1, s1⟩ := cmpd_dp hs r1 ea
        obtain ⟨b, vs, rfl, sb, rb⟩ := r2
        exact op_inA (neg := true) hu I rx ry p1 (.inr (.tup sb.1 (dp_ofL ys vs o.1 rb))) s1 o.2 (hq.same hs rfl)
      · cases hf
    · rename_i a n ea
      split at hf
      · rename_i ys e
        split at hf
        · rename_i o; cases hf
          obtain ⟨p1, s1⟩ := cmpd_dp hs r1 ea
          obtain ⟨b, vs, rfl, _, sb, rb⟩ := hs.list e r2
          exact op_inA (neg := true) hu I rx ry p1 (.inl (.lst sb (dp_ofL ys vs o.1 rb))) s1 o.2 (hq.same hs rfl)
        · cases hf
      · cases hf
    · cases hf

theorem atI_rp {K : PySem.W.Frag} {H : Hp} {ρ : List Addr} {ds : List D} {vs : List V} {k : Int} {d : D} (r : RpL K H ρ ds vs) (h : atI ds k = some d) : ∃ v, atI vs k = some v ∧ Rp K H ρ d v := by
  unfold atI at h ⊢
  rw [← r.length]
  cases e : ixN ds.length k with
  | none => rw [e] at h; cases h
  | some j =>
    rw [e] at h
    have h' : ds[j]? = some d := h
    obtain ⟨v, e1, rv⟩ := r.get h'
    exact ⟨v, e1, rv⟩
theorem valD_rp {κ : Type} [DecidableEq κ] {K : PySem.W.Frag} {H : Hp} {ρ : List Addr} (k : κ) : ∀ {kvs : List (κ × D)} {vs : List (κ × V)}, kvs.map (·.1) = vs.map (·.1) → RpL K H ρ (kvs.map (·.2)) (vs.map (·.2)) →
    (valD kvs k).isSome = (valV vs k).isSome ∧ ∀ d, valD kvs k = some d → ∃ v, valV vs k = some v ∧ Rp K H ρ d v
  | [], [], _, _ => ⟨rfl, fun d h => by cases h⟩
  | [], _ :: _, e, _ => by cases e
  | _ :: _, [], e, _ => by cases e
  | (k1, d1) :: kvs, (k2, v2) :: vs, e, r => by
    have e1 : k1 = k2 := (List.cons.inj e).1
    have e2 : kvs.map (·.1) = vs.map (·.1) := (List.cons.inj e).2
    obtain ⟨v, rr, ev, r1, r2⟩ := r
    obtain ⟨rfl, rfl⟩ := List.cons.inj ev
    subst e1
    by_cases q : k1 = k
    · have h1 : valD ((k1, d1) :: kvs) k = some d1 := by simp [valD, List.find?_cons, q]
      have h2 : valV ((k1, v2) :: vs) k = some v2 := by simp [valV, List.find?_cons, q]
      rw [h1, h2]
      exact ⟨rfl, fun d h => by cases h; exact ⟨v2, rfl, r1⟩⟩
    · have h1 : valD ((k1, d1) :: kvs) k = valD kvs k := by simp [valD, List.find?_cons, q]
      have h2 : valV ((k1, v2) :: vs) k = valV vs k := by simp [valV, List.find?_cons, q]
      rw [h1, h2]
      exact valD_rp k e2 r2
theorem keyD_rp {K : PySem.W.Frag} {H : Hp} {ρ : List Addr} {y : D} {k : Key} {u : V} (h : keyD y = some k) (r : Rp K H ρ y u) : u = kV k := by
  cases y with
  | int i => cases h; cases r; rfl
  | str i => cases h; cases r; rfl
  | _ => cases h
theorem getK_so {S : Sto} {n : Nat} {kvs : List (Key × D)} (h : getK S n = some kvs) : S[n]? = some (.dk kvs) := by
  unfold getK at h
  split at h
  · cases h; assumption
  · cases h
theorem Sr.dict {K : PySem.W.Frag} {H : Hp} {ρ : List Addr} {S : Sto} (s : Sr K H ρ S) {n : Nat} {kvs : List (Key × D)} {x : V} (h : getK S n = some kvs) (r : Rp K H ρ (.loc n) x) :
    ∃ a vs, x = .ref a ∧ ρ[n]? = some a ∧ H a = some (.dK vs) ∧ kvs.map (·.1) = vs.map (·.1) ∧ RpL K H ρ (kvs.map (·.2)) (vs.map (·.2)) := by
  obtain ⟨a, rfl, ea⟩ := r
  obtain ⟨b, eb, vs, hv, kv, rv⟩ := s.at_ n _ (getK_so h)
  rw [ea] at eb; cases eb
  exact ⟨a, vs, rfl, ea, hv, kv, rv⟩
theorem keyD_rpL {K : PySem.W.Frag} {H : Hp} {ρ : List Addr} : ∀ {ds : List D} {ks : List Key} {vs : List V}, ds.mapM keyD = some ks → RpL K H ρ ds vs → vs = ks.map kV
  | [], ks, vs, h, r => by cases h; cases r; rfl
  | d :: ds, ks, vs, h, r => by
    obtain ⟨v, rr, rfl, r1, r2⟩ := r
    rw [List.mapM_cons] at h
    cases e : keyD d with
    | none => rw [e] at h; cases h
    | some k =>
      rw [e] at h
      cases e2 : ds.mapM keyD with
      | none => rw [e2] at h; cases h
      | some ks' =>
        rw [e2] at h
        cases h
        rw [keyD_rp e r1, keyD_rpL e2 r2]; rfl
theorem keyT_rp {K : PySem.W.Frag} {H : Hp} {ρ : List Addr} {y : D} {k : List Key} {u : V} (on : Sct.md = .trk) (h : keyT y = some k) (r : Rp K H ρ y u) : ∃ b, u = .ref b ∧ H b = some (.tup (k.map kV)) := by
  cases y with
  | tup ds =>
    obtain ⟨b, vs, rfl, sa, ra⟩ := r
    have e := keyD_rpL h ra
    subst e
    exact ⟨b, rfl, sa.2.1 on⟩
  | _ => cases h
theorem getT_so {S : Sto} {n : Nat} {kvs : List (List Key × D)} (h : getT S n = some kvs) : S[n]? = some (.dt kvs) := by
  unfold getT at h
  split at h
  · cases h; assumption
  · cases h
theorem Sr.dictT {K : PySem.W.Frag} {H : Hp} {ρ : List Addr} {S : Sto} (s : Sr K H ρ S) {n : Nat} {kvs : List (List Key × D)} {x : V} (h : S[n]? = some (.dt kvs)) (r : Rp K H ρ (.loc n) x) :
    ∃ a vs, x = .ref a ∧ ρ[n]? = some a ∧ H a = some (.dT vs) ∧ kvs.map (·.1) = vs.map (·.1) ∧ RpL K H ρ (kvs.map (·.2)) (vs.map (·.2)) ∧ Sct.md = .trk := by
  obtain ⟨a, rfl, ea⟩ := r
  obtain ⟨b, eb, on, vs, hv, kv, rv⟩ := s.at_ n _ h
  rw [ea] at eb; cases eb
  exact ⟨a, vs, rfl, ea, hv, kv, rv, on⟩
theorem dk_get {K : PySem.W.Frag} {H : Hp} {ρ : List Addr} {S : Sto} {x y : D} {v u : V} {o : Option D} (s : Sr K H ρ S) (r1 : Rp K H ρ x v) (r2 : Rp K H ρ y u) (h : dkAt x y S = some o) :
    ∃ a o', v = .ref a ∧ DGet H a u o' ∧ o.isSome = o'.isSome ∧ ∀ d, o = some d → ∃ w, o' = some w ∧ Rp K H ρ d w := by
  cases x with
  | loc n =>
    simp only [dkAt] at h
    split at h
    · rename_i kvs e
      cases ek : keyD y with
      | none => rw [ek] at h; cases h
      | some k =>
        rw [ek] at h; cases h
        obtain ⟨a, vs, rfl, ea, hv, kv, rv⟩ := s.dict (by unfold getK; rw [e]) r1
        have := keyD_rp ek r2
        subst this
        obtain ⟨h1, h2⟩ := valD_rp k kv rv
        exact ⟨a, _, rfl, DGet.k hv, h1, h2⟩
    · rename_i kvs e
      cases ek : keyT y with
      | none => rw [ek] at h; cases h
      | some k =>
        rw [ek] at h; cases h
        obtain ⟨a, vs, rfl, ea, hv, kv, rv, on⟩ := s.dictT e r1
        obtain ⟨b, rfl, hb⟩ := keyT_rp on ek r2
        obtain ⟨h1, h2⟩ := valD_rp k kv rv
        exact ⟨a, _, rfl, DGet.t hv hb, h1, h2⟩
    · cases h
  | _ => cases h
theorem op_cop (hu : X.A.units + 65 < cLine) (op : Cop) : OpR X (compareOp (cop_of op)) (LB X.K (cop op)) := by
  intro pins s σ H x y v u Q I rx ry h
  have h' := h
  obtain ⟨ρ, S, d1, d2, d, S', hs, r1, r2, hf, hq⟩ := h
  unfold cop at hf
  split at hf
  · rename_i o e
    cases hf
    obtain ⟨a, o', rfl, g, e1, _⟩ := dk_get hs r2 r1 e
    cases ry
    exact d_in (by omega) I g rx fun s' I' => ⟨.bl _, H, I', by rw [← e1]; rfl, hq.same hs rfl⟩
  · rename_i o e
    cases hf
    obtain ⟨a, o', rfl, g, e1, _⟩ := dk_get hs r2 r1 e
    cases ry
    exact d_notIn (by omega) I g rx fun s' I' => ⟨.bl _, H, I', by rw [← e1]; rfl, hq.same hs rfl⟩
  · exact op_copL hu _ pins s σ H x y v u Q I rx ry ⟨ρ, S, d1, d2, d, S', hs, r1, r2, hf, hq⟩
theorem ix_iopL : IxR X (LB X.K iopL) := by
  intro value slice pins s σ H x y v u Q I rx ry h hsub
  obtain ⟨ρ, S, d1, d2, d, S', hs, r1, r2, hf, hq⟩ := h
  unfold iopL at hf
  split at hf
  · rename_i xs k
    cases e : atI xs k with
    | none => rw [e] at hf; cases hf
    | some z =>
      rw [e] at hf; cases hf
      obtain ⟨a, vs, rfl, sa, ra⟩ := r1
      cases r2
      obtain ⟨w, ew, rw'⟩ := atI_rp ra e
      exact ix_tup value slice pins s σ H _ _ v u Q I rx ry ⟨a, vs, k, w, rfl, rfl, sa.1, ew, hq.same hs rw'⟩ hsub
  · rename_i n k
    split at hf
    · rename_i xs eg
      cases e : atI xs k with
      | none => rw [e] at hf; cases hf
      | some z =>
        rw [e] at hf; cases hf
        obtain ⟨a, vs, rfl, _, sa, ra⟩ := hs.list eg r1
        cases r2
        obtain ⟨w, ew, rw'⟩ := atI_rp ra e
        exact ix_list value slice pins s σ H _ _ v u Q I rx ry ⟨a, vs, k, w, rfl, rfl, sa, ew, hq.same hs rw'⟩ hsub
    · cases hf
  · rename_i z k
    split at hf
    · rename_i hz
      cases e : atI z.cps.toList k with
      | none => rw [e] at hf; cases hf
      | some c =>
        rw [e] at hf; cases hf
        cases r1; cases r2
        exact ix_str value slice pins s σ H _ _ v u Q I rx ry ⟨z, k, c, rfl, rfl, hz, e, hq.same hs rfl⟩ hsub
    · cases hf
  · cases hf
theorem ix_iop (hu : X.A.units + 65 < cLine) : IxR X (LB X.K iop) := by
  intro value slice pins s σ H x y v u Q I rx ry h hsub
  obtain ⟨ρ, S, d1, d2, d, S', hs, r1, r2, hf, hq⟩ := h
  unfold iop at hf
  split at hf
  · rename_i o e
    cases o with
    | none => cases hf
    | some d0 =>
      cases hf
      obtain ⟨a, o', rfl, g, e1, e2⟩ := dk_get hs r1 r2 e
      obtain ⟨w, rfl, rw'⟩ := e2 _ rfl
      have ty := dict_typeIs I g
      cases rx
      exact tail_any ty PySem.F.slot_dict_getitem.lookup (d_getItem (by omega) I g ry fun w' s' I' r' => ⟨w, H, I', r', hq.same hs rw'⟩) hsub
  exact ix_iopL value slice pins s σ H x y v u Q I rx ry ⟨ρ, S, d1, d2, d, S', hs, r1, r2, hf, hq⟩ hsub

theorem cut_rp {K : PySem.W.Frag} {H : Hp} {ρ : List Addr} {ds : List D} {vs : List V} {lo hi : Option Int} (r : RpL K H ρ ds vs) : RpL K H ρ (cutD ds lo hi) (cutV vs lo hi) := by
  unfold cutD cutV
  rw [← r.length]
  exact (r.drop _).take _
def LSl (K : PySem.W.Frag) (f : D → Option Int → Option Int → Sto → Option (D × Sto)) : V → Option Int → Option Int → Hp → VK → Prop := fun x lo hi H Q => ∃ ρ S d1 d S', Sr K H ρ S ∧ Rp K H ρ d1 x ∧ f d1 lo hi S = some (d, S') ∧ Pst K H ρ d S' Q
theorem sl_slop : SlR X (LSl X.K slop) := by
  intro pins s σ H x v vl vu lo hi sl Q I rx hsl pl pu h
  obtain ⟨ρ, S, d1, d, S', hs, r1, hf, hq⟩ := h
  unfold slop at hf
  split at hf
  · rename_i xs
    cases hf
    obtain ⟨a, vs, rfl, sa, ra⟩ := r1
    refine sl_tupV pins s σ H _ v vl vu lo hi sl Q I rx hsl pl pu ⟨a, vs, rfl, sa.1, fun z => ?_, fun _ => hq.newT hs (cut_rp ra)⟩
    have e : cutD xs lo hi = xs := by
      unfold cutD
      rw [ra.length, z.1, z.2]
      simp [← ra.length]
    rw [e] at hq
    exact hq.same hs ⟨a, vs, rfl, sa, ra⟩
  · rename_i n
    split at hf
    · rename_i xs eg
      cases hf
      obtain ⟨a, vs, rfl, _, sa, ra⟩ := hs.list eg r1
      exact sl_list pins s σ H _ v vl vu lo hi sl Q I rx hsl pl pu ⟨a, vs, rfl, sa, fun p hp => hq.newL hs (cut_rp ra) hp⟩
    · cases hf
  · cases hf

theorem tru_of {K : PySem.W.Frag} {H : Hp} {ρ : List Addr} {S : Sto} {d : D} {x : V} {k : Bool} (s : Sr K H ρ S) (r : Rp K H ρ d x) (h : truth S d = some k) : TruV K x H k := by
  have emp : ∀ {ds : List D} {vs : List V}, RpL K H ρ ds vs → (!ds.isEmpty) = !vs.isEmpty := by
    intro ds vs r
    have := r.length
    cases ds <;> cases vs <;> simp_all
  cases d with
  | non => cases r; cases h; rfl
  | bl b => cases r; cases h; rfl
  | int i => cases r; cases h; rfl
  | str z =>
    cases r
    simp only [truth] at h
    split at h
    · rename_i hz; cases h; exact ⟨hz, rfl⟩
    · cases h
  | tup ds =>
    obtain ⟨a, vs, rfl, sa, ra⟩ := r
    cases h
    exact .inr (.inl ⟨vs, sa.1, emp ra⟩)
  | loc n =>
    simp only [truth] at h
    cases e : getL S n with
    | none => rw [e] at h; cases h
    | some xs =>
      rw [e] at h; cases h
      obtain ⟨a, vs, rfl, _, sa, ra⟩ := s.list e r
      exact .inl ⟨vs, sa, emp ra⟩
end
end Cs

set_option Elab.async false
set_option linter.all false
set_option maxRecDepth 100000
namespace Cs
open PySem PySem.Spec PyProof.Rows L2
variable [Sct]
section
variable {X : Cx}
theorem CallR.weak {f : Value} {r r' : List V → Hp → VK → Prop} (h : CallR X f r) (w : ∀ xs H Q, r' xs H Q → r xs H Q) : CallR X f r' :=
  fun pins s σ H xs us Q I rx q => h pins s σ H xs us Q I rx (w _ _ _ q)
theorem cr_len : CallR X (.builtin "len") (LC X.K bLen) := by
  intro pins s σ H xs us Q I rx h
  obtain ⟨ρ, S, ds, d, S', hs, r, hf, hq⟩ := h
  unfold bLen at hf
  split at hf
  · cases hf
    obtain ⟨v, r2, rfl, ⟨a, vs, rfl, sa, ra⟩, rfl⟩ := r
    exact call_len_seq pins s σ H _ us Q I rx ⟨a, vs, rfl, .inr sa.1, by rw [← ra.length]; exact hq.same hs rfl⟩
  · rename_i n
    obtain ⟨v, r2, rfl, r1, rfl⟩ := r
    cases e : getL S n with
    | none => rw [e] at hf; cases hf
    | some xs =>
      rw [e] at hf; cases hf
      obtain ⟨a, vs, rfl, _, sa, ra⟩ := hs.list e r1
      exact call_len_seq pins s σ H _ us Q I rx ⟨a, vs, rfl, .inl sa, by rw [← ra.length]; exact hq.same hs rfl⟩
  · obtain ⟨v, r2, rfl, r1, rfl⟩ := r
    cases r1
    split at hf
    · rename_i hz; cases hf
      exact call_len_str pins s σ H _ us Q I rx ⟨_, rfl, hz, hq.same hs rfl⟩
    · cases hf
  · cases hf
theorem cr_abs : CallR X (.builtin "abs") (LC X.K bAbs) := by
  intro pins s σ H xs us Q I rx h
  obtain ⟨ρ, S, ds, d, S', hs, r, hf, hq⟩ := h
  unfold bAbs at hf
  split at hf
  · cases hf
    obtain ⟨v, r2, rfl, r1, rfl⟩ := r
    cases r1
    exact call_abs pins s σ H _ us Q I rx ⟨_, rfl, hq.same hs rfl⟩
  · cases hf
theorem cr_int : CallR X (.type "int") (LC X.K bInt) := by
  intro pins s σ H xs us Q I rx h
  obtain ⟨ρ, S, ds, d, S', hs, r, hf, hq⟩ := h
  unfold bInt at hf
  split at hf
  · cases hf
    obtain ⟨v, r2, rfl, r1, rfl⟩ := r
    cases r1
    exact call_int1 pins s σ H _ us Q I rx (.inl ⟨_, rfl, hq.same hs rfl⟩)
  · cases hf
    obtain ⟨v, r2, rfl, r1, rfl⟩ := r
    cases r1
    exact call_int1 pins s σ H _ us Q I rx (.inr ⟨_, rfl, hq.same hs rfl⟩)
  · cases hf
theorem cr_max (hc : X.calm = true) : CallR X (.builtin "max") (LC X.K bMax) := by
  intro pins s σ H xs us Q I rx h
  obtain ⟨ρ, S, ds, d, S', hs, r, hf, hq⟩ := h
  unfold bMax at hf
  split at hf
  · cases hf
    obtain ⟨v, r2, rfl, r1, w, r3, rfl, r4, rfl⟩ := r
    cases r1; cases r4
    exact call_max2 hc pins s σ H _ us Q I rx ⟨_, _, rfl, hq.same hs rfl⟩
  · cases hf
theorem cr_min (hc : X.calm = true) : CallR X (.builtin "min") (LC X.K bMin) := by
  intro pins s σ H xs us Q I rx h
  obtain ⟨ρ, S, ds, d, S', hs, r, hf, hq⟩ := h
  unfold bMin at hf
  split at hf
  · cases hf
    obtain ⟨v, r2, rfl, r1, w, r3, rfl, r4, rfl⟩ := r
    cases r1; cases r4
    exact call_min2 hc pins s σ H _ us Q I rx ⟨_, _, rfl, hq.same hs rfl⟩
  · cases hf
theorem cr_gcd' : CallR X (.builtin "math.gcd") (LC X.K bGcd) := by
  intro pins s σ H xs us Q I rx h
  obtain ⟨ρ, S, ds, d, S', hs, r, hf, hq⟩ := h
  unfold bGcd at hf
  split at hf
  · cases hf
    obtain ⟨v, r2, rfl, r1, w, r3, rfl, r4, rfl⟩ := r
    cases r1; cases r4
    exact cr_gcd pins s σ H _ us Q I rx ⟨_, _, rfl, hq.same hs rfl⟩
  · cases hf
theorem keys_rp {K : PySem.W.Frag} {H : Hp} {ρ : List Addr} : ∀ {kvs : List (Key × D)} {vs : List (Key × V)}, kvs.map (·.1) = vs.map (·.1) → RpL K H ρ (kvs.map fun kv => kD kv.1) (vs.map fun kv => kV kv.1)
  | [], [], _ => rfl
  | [], _ :: _, e => by cases e
  | _ :: _, [], e => by cases e
  | (k1, d1) :: kvs, (k2, v2) :: vs, e => by
    have e1 : k1 = k2 := (List.cons.inj e).1
    subst e1
    refine ⟨_, _, rfl, ?_, keys_rp (List.cons.inj e).2⟩
    cases k1 <;> rfl
theorem tups_rp {K : PySem.W.Frag} {H : Hp} {ρ : List Addr} (on : Sct.md = .trk) : ∀ {kvs : List (List Key × D)} {vs : List (List Key × V)} {as : List Addr}, kvs.map (·.1) = vs.map (·.1) →
    Paired (fun (kv : List Key × V) (a : Addr) => H a = some (.tup (kv.1.map kV))) vs as → RpL K H ρ (kvs.map fun kv => .tup (kv.1.map kD)) (as.map V.ref)
  | [], [], _, _, .nil => rfl
  | [], _ :: _, _, e, _ => by cases e
  | _ :: _, [], _, e, _ => by cases e
  | (k1, d1) :: kvs, (k2, v2) :: vs, _, e, .cons (b := a) h t => by
    have e1 : k1 = k2 := (List.cons.inj e).1
    subst e1
    have kk : ∀ ks : List Key, RpL K H ρ (ks.map kD) (ks.map kV) := by
      intro ks
      induction ks with
      | nil => exact rfl
      | cons k ks ih => exact ⟨_, _, rfl, by cases k <;> rfl, ih⟩
    exact ⟨.ref a, _, rfl, ⟨a, _, rfl, ⟨SqT.of h, fun _ => h, fun z => (by rw [on] at z; cases z)⟩, kk k1⟩, tups_rp on (List.cons.inj e).2 t⟩
theorem cr_list (hc : X.calm = true) : CallR X (.type "list") (LC X.K bList) := by
  intro pins s σ H xs us Q I rx h
  obtain ⟨ρ, S, ds, d, S', hs, r, hf, hq⟩ := h
  unfold bList at hf
  split at hf
  · rename_i n
    obtain ⟨v, r2, rfl, r1, rfl⟩ := r
    split at hf
    · rename_i kvs e
      cases hf
      obtain ⟨a, vs, rfl, _, hv, kv, _⟩ := hs.dict (by unfold getK; rw [e]) r1
      exact call_list_dK hc pins s σ H _ us Q I rx ⟨a, vs, rfl, hv, fun q hq' => hq.newL hs (keys_rp kv) hq'⟩
    · rename_i kvs e
      cases hf
      obtain ⟨a, vs, rfl, _, hv, kv, _, on⟩ := hs.dictT e r1
      exact call_list_dT hc pins s σ H _ us Q I rx ⟨a, vs, rfl, hv, fun q as hq' pa => hq.newL hs (tups_rp on kv pa) hq'⟩
    · rename_i ys e
      cases hf
      obtain ⟨a, vs, rfl, _, sa, ra⟩ := hs.list (show getL S n = some ys by unfold getL; rw [e]) r1
      exact call_list_of pins s σ H _ us Q I rx ⟨a, vs, rfl, .inl sa, fun l hl => hq.newL hs ra hl⟩
    · rename_i ys e
      cases hf
      obtain ⟨a, vs, rfl, _, sa, ra⟩ := hs.list (show getL S n = some ys by unfold getL; rw [e]) r1
      exact call_list_of pins s σ H _ us Q I rx ⟨a, vs, rfl, .inl sa, fun l hl => hq.newL hs ra hl⟩
    · cases hf
  · cases hf
    obtain ⟨v, r2, rfl, ⟨a, vs, rfl, sa, ra⟩, rfl⟩ := r
    exact call_list_of pins s σ H _ us Q I rx ⟨a, vs, rfl, .inr sa.1, fun l hl => hq.newL hs ra hl⟩
  · cases hf
theorem cr_tuple : CallR X (.type "tuple") (LC X.K bTuple) := by
  intro pins s σ H xs us Q I rx h
  obtain ⟨ρ, S, ds, d, S', hs, r, hf, hq⟩ := h
  unfold bTuple at hf
  split at hf
  · rename_i n
    obtain ⟨v, r2, rfl, r1, rfl⟩ := r
    cases e : getL S n with
    | none => rw [e] at hf; cases hf
    | some xs =>
      rw [e] at hf; cases hf
      obtain ⟨a, vs, rfl, _, sa, ra⟩ := hs.list e r1
      exact call_tupV pins s σ H _ us Q I rx ⟨a, vs, rfl, .inl ⟨sa, hq.newT hs ra⟩⟩
  · cases hf
    obtain ⟨v, r2, rfl, ⟨a, vs, rfl, sa, ra⟩, rfl⟩ := r
    exact call_tupV pins s σ H _ us Q I rx ⟨a, vs, rfl, .inr ⟨sa.1, hq.same hs ⟨a, vs, rfl, sa, ra⟩⟩⟩
  · cases hf
theorem bls_map : ∀ {xs : List D} {bs : List Bool}, bls xs = some bs → xs = bs.map D.bl
  | [], bs, h => by cases h; rfl
  | x :: xs, bs, h => by
    unfold bls at h
    rw [List.mapM_cons] at h
    cases x with
    | bl b =>
      simp only [D.isB, Option.bind_eq_bind, Option.bind_some] at h
      cases e : xs.mapM D.isB with
      | none => rw [e] at h; cases h
      | some cs =>
        rw [e] at h; cases h
        rw [bls_map (bs := cs) e]; rfl
    | _ => cases h
theorem cr_all' (hc : X.calm = true) : CallR X (.builtin "all") (LC X.K bAll) := by
  intro pins s σ H xs us Q I rx h
  obtain ⟨ρ, S, ds, d, S', hs, r, hf, hq⟩ := h
  unfold bAll at hf
  split at hf
  · rename_i n
    obtain ⟨v, r2, rfl, r1, rfl⟩ := r
    cases e : getL S n with
    | none => rw [e] at hf; cases hf
    | some xs =>
      rw [e] at hf
      simp only [Option.bind_some] at hf
      cases e2 : bls xs with
      | none => rw [e2] at hf; cases hf
      | some bs =>
        rw [e2] at hf; cases hf
        obtain ⟨a, vs, rfl, _, sa, ra⟩ := hs.list e r1
        rw [bls_map e2] at ra
        have ev := RpL.bls.mp ra
        subst ev
        exact cr_all hc pins s σ H _ us Q I rx ⟨a, bs, rfl, sa, hq.same hs rfl⟩
  · cases hf
theorem cr_any' (hc : X.calm = true) : CallR X (.builtin "any") (LC X.K bAny) := by
  intro pins s σ H xs us Q I rx h
  obtain ⟨ρ, S, ds, d, S', hs, r, hf, hq⟩ := h
  unfold bAny at hf
  split at hf
  · rename_i n
    obtain ⟨v, r2, rfl, r1, rfl⟩ := r
    cases e : getL S n with
    | none => rw [e] at hf; cases hf
    | some xs =>
      rw [e] at hf
      simp only [Option.bind_some] at hf
      cases e2 : bls xs with
      | none => rw [e2] at hf; cases hf
      | some bs =>
        rw [e2] at hf; cases hf
        obtain ⟨a, vs, rfl, _, sa, ra⟩ := hs.list e r1
        rw [bls_map e2] at ra
        have ev := RpL.bls.mp ra
        subst ev
        exact cr_any hc pins s σ H _ us Q I rx ⟨a, bs, rfl, sa, hq.same hs rfl⟩
  · cases hf

theorem cr_repr (hg : X.A.guards = some []) (hu : X.A.units + 70 < cLine) : CallR X (.builtin "repr") (LC X.K bRepr) := by
  intro pins s σ H xs us Q I rx h
  obtain ⟨ρ, S, ds, d, S', hs, r, hf, hq⟩ := h
  unfold bRepr at hf
  split at hf
  · rename_i ys
    split at hf
    · rename_i o
      cases hf
      obtain ⟨v, r2, rfl, r1, rfl⟩ := r
      have dp := dp_of (.tup ys) v (by rw [D.pure]; exact o.1) r1
      obtain ⟨a, vs, rfl, _⟩ := r1
      rw [Vals.ref1 rx]
      obtain ⟨as, rd⟩ := Dp.reads I _ (.ref a) (.ref a) dp rfl
      refine repr_of_reads' rd o.2.1 (fun z => by rw [o.2.2.1] at z; cases z) hg (by have := o.2.2.2.1; omega) (fun _ _ z => z) (fun h' u tk hk => ?_) o.2.2.2.2
      exact ⟨.str _, H, I.kept (t' := tk) hk, ⟨u, rfl⟩, hq.same hs rfl⟩
    · cases hf
  · rename_i b
    cases hf
    obtain ⟨v, r2, rfl, r1, rfl⟩ := r
    cases r1
    obtain ⟨u, rfl, ru⟩ := vals1 rx
    cases ru
    exact PySem.P.repr_of_bool ⟨.str _, H, I.tok _, ⟨_, rfl⟩, hq.same hs rfl⟩
  · rename_i n
    obtain ⟨v, r2, rfl, r1, rfl⟩ := r
    cases e : getL S n with
    | none => rw [e] at hf; cases hf
    | some xs =>
      rw [e] at hf
      simp only at hf
      split at hf
      · rename_i o
        cases hf
        obtain ⟨a, vs, rfl, _, sa, ra⟩ := hs.list e r1
        have dp : Dp X.K H (.ref a) (.list (D.pyL xs)) := .lst sa (dp_ofL xs vs o.1 ra)
        rw [Vals.ref1 rx]
        obtain ⟨as, rd⟩ := Dp.reads I _ (.ref a) (.ref a) dp rfl
        refine repr_of_reads' rd o.2.1 (fun z => by rw [o.2.2.1] at z; cases z) hg (by have := o.2.2.2.1; omega) (fun _ _ z => z) (fun h' u tk hk => ?_) o.2.2.2.2
        exact ⟨.str _, H, I.kept (t' := tk) hk, ⟨u, rfl⟩, hq.same hs rfl⟩
      · cases hf
  · cases hf
theorem ints_map : ∀ {xs : List D} {ns : List Int}, xs.mapM D.isI = some ns → xs = ns.map D.int
  | [], ns, h => by cases h; rfl
  | x :: xs, ns, h => by
    rw [List.mapM_cons] at h
    cases x with
    | int b =>
      simp only [D.isI, Option.bind_eq_bind, Option.bind_some] at h
      cases e : xs.mapM D.isI with
      | none => rw [e] at h; cases h
      | some cs =>
        rw [e] at h; cases h
        rw [ints_map (ns := cs) e]; rfl
    | _ => cases h
theorem strs_map : ∀ {xs : List D} {ns : List Str}, xs.mapM D.isS = some ns → xs = ns.map D.str
  | [], ns, h => by cases h; rfl
  | x :: xs, ns, h => by
    rw [List.mapM_cons] at h
    cases x with
    | str b =>
      simp only [D.isS, Option.bind_eq_bind, Option.bind_some] at h
      cases e : xs.mapM D.isS with
      | none => rw [e] at h; cases h
      | some cs =>
        rw [e] at h; cases h
        rw [strs_map (ns := cs) e]; rfl
    | _ => cases h
theorem leS_iff (a b : Str) : leS a b = true ↔ a.cps.toList ≤ b.cps.toList := by
  unfold leS
  rw [PyProof.Rows.ltCps_eq]
  simp [List.not_lt]
theorem leS_pair : ∀ {l : List Str}, PyProof.Rows.sortedS l = true → l.Pairwise (fun a b => leS a b = true) := by
  have tr : ∀ a b c : Str, leS a b = true → leS b c = true → leS a c = true := fun a b c h k => (leS_iff a c).mpr (List.le_trans ((leS_iff a b).mp h) ((leS_iff b c).mp k))
  have step : ∀ (r : List Str) (p : Str), PyProof.Rows.risingS p r = true → (p :: r).Pairwise (fun a b => leS a b = true) := by
    intro r
    induction r with
    | nil => intro p _; simp
    | cons x r ih =>
      intro p h
      unfold PyProof.Rows.risingS at h
      rw [Bool.and_eq_true] at h
      have i2 := ih x h.2
      refine List.Pairwise.cons (fun y hy => ?_) i2
      rcases List.mem_cons.mp hy with rfl | hy
      · exact h.1
      · exact tr _ _ _ h.1 ((List.pairwise_cons.mp i2).1 y hy)
  intro l h
  cases l with
  | nil => exact .nil
  | cons x r => exact step r x h
theorem leS_anti {a b : Str} (h : leS a b = true) (k : leS b a = true) : a = b := by
  have e := List.le_antisymm ((leS_iff a b).mp h) ((leS_iff b a).mp k)
  cases a; cases b
  simpa [Array.toList_inj] using e
theorem cr_sorted' : CallR X (.builtin "sorted") (LC X.K bSorted) := by
  intro pins s σ H xs us Q I rx h
  obtain ⟨ρ, S, ds, d, S', hs, r, hf, hq⟩ := h
  unfold bSorted at hf
  split at hf
  · rename_i n
    obtain ⟨v, r2, rfl, r1, rfl⟩ := r
    split at hf
    · rename_i ys e
      obtain ⟨a, vs, rfl, _, sa, ra⟩ := hs.list e r1
      split at hf
      · rename_i h64
        split at hf
        · rename_i ns en
          cases hf
          rw [ints_map en] at ra h64
          have ev := RpL.ints.mp ra
          subst ev
          refine cr_sorted pins s σ H _ us Q I rx ⟨a, ns, rfl, sa, by simpa using h64, fun ns' p pm pw hp => ?_⟩
          have eq : ns' = ns.mergeSort (fun a b => decide (a ≤ b)) := by
            refine List.Perm.eq_of_pairwise (le := fun a b => a ≤ b) (fun a b _ _ h k => by omega) pw ?_ (pm.trans (List.mergeSort_perm ns _).symm)
            have := List.pairwise_mergeSort (le := fun a b : Int => decide (a ≤ b)) (fun a b c h k => by simp at *; omega) (fun a b => by simp; omega) ns
            exact this.imp fun h => of_decide_eq_true h
          subst eq
          exact hq.newL hs (RpL.ints.mpr rfl) hp
        · split at hf
          · rename_i ss en
            cases hf
            rw [strs_map en] at ra h64
            have ev := RpL.strs.mp ra
            subst ev
            refine cr_sortedS pins s σ H _ us Q I rx ⟨a, ss, rfl, sa, by simpa using h64, fun ss' p pm pw hp => ?_⟩
            have eq : ss' = ss.mergeSort leS := by
              refine List.Perm.eq_of_pairwise (le := fun a b => leS a b = true) (fun a b _ _ h k => leS_anti h k) (leS_pair pw) ?_ (pm.trans (List.mergeSort_perm ss _).symm)
              refine List.pairwise_mergeSort (fun a b c h k => (leS_iff a c).mpr (List.le_trans ((leS_iff a b).mp h) ((leS_iff b c).mp k))) (fun a b => ?_) ss
              have := List.le_total a.cps.toList b.cps.toList
              rw [Bool.or_eq_true, leS_iff, leS_iff]
              exact this
            subst eq
            exact hq.newL hs (RpL.strs.mpr rfl) hp
          · cases hf
      · cases hf
    · cases hf
  · cases hf
theorem fstEq_ok {d : PyData} : ∀ {xs : List PyData} {k j : Nat}, fstEq d k xs = some j → ∃ i z, j = k + i ∧ xs[i]? = some z ∧ PyData.eqv z d = true ∧ ∀ m z', m < i → xs[m]? = some z' → PyData.eqv z' d = false
  | [], k, j, h => by cases h
  | x :: xs, k, j, h => by
    unfold fstEq at h
    split at h
    · rename_i e
      cases h
      exact ⟨0, x, rfl, rfl, e, fun m _ hm => absurd hm (Nat.not_lt_zero m)⟩
    · rename_i e
      obtain ⟨i, z, rfl, h1, h2, h3⟩ := fstEq_ok h
      refine ⟨i + 1, z, by omega, h1, h2, fun m z' hm hz => ?_⟩
      cases m with
      | zero =>
        cases hz
        simpa using e
      | succ m => exact h3 m z' (by omega) hz
theorem mt_index' (hu : X.A.units + 65 < cLine) : MtR X "list.index" (LM X.K mIndex) := by
  intro pins s σ H x xs v us Q I rx rxs h
  obtain ⟨ρ, S, d0, ds, d, S', hs, r0, r, hf, hq⟩ := h
  unfold mIndex at hf
  split at hf
  · rename_i n y
    split at hf
    · rename_i ys e
      split at hf
      · rename_i o
        cases ef : fstEq y.py 0 (D.pyL ys) with
        | none => rw [ef] at hf; cases hf
        | some j =>
          rw [ef] at hf; cases hf
          obtain ⟨i, z, ej, h1, h2, h3⟩ := fstEq_ok ef
          rw [Nat.zero_add] at ej
          subst ej
          obtain ⟨a, vs, rfl, ea, sa, ra⟩ := hs.list e r0
          obtain ⟨w, r2, rfl, r1, rfl⟩ := r
          exact mt_indexD hu pins s σ H _ _ v us Q I rx rxs ⟨a, w, y.py, D.pyL ys, j, z, rfl, rfl, .lst sa (dp_ofL ys vs o.1.1 ra), dp_of y w o.2.1 r1, o.1.2, o.2.2, h1, h2, h3, hq.same hs rfl⟩
      · cases hf
    · cases hf
  · cases hf
/-- isinstance(x, T), T a built-in class -/
theorem ty_of {K : PySem.W.Frag} {H : Hp} {ρ : List Addr} {S : Sto} {d : D} {v : V} (hs : Sr K H ρ S) (hk : noDk S d = true) (r : Rp K H ρ d v) : TyX K H v (.type (tyN d)) := by
  cases d with
  | non => cases r; exact (.base .non)
  | bl b => cases r; exact (.base (.bl b))
  | int i => cases r; exact (.base (.int i))
  | str x => cases r; exact (.base (.str x))
  | tup ds =>
    obtain ⟨a, vs, rfl, ⟨(h | ⟨o, h⟩) | ⟨o, its, n, h, c, _⟩, _⟩, _⟩ := r
    · exact (.base (.tup h))
    · exact (.fTuple h)
    · exact (.kTuple h c)
  | loc n =>
    obtain ⟨a, rfl, ea⟩ := r
    have hn : n < S.length := by rw [← hs.len]; exact (List.getElem?_eq_some_iff.mp ea).1
    obtain ⟨b, eb, r⟩ := hs.at_ n _ (List.getElem?_eq_getElem hn)
    rw [ea] at eb; cases eb
    cases q : S[n] with
    | dk kvs =>
      have : getL S n = none := by unfold getL; rw [List.getElem?_eq_getElem hn, q]
      simp only [noDk, this] at hk
      cases hk
    | dt kvs =>
      have : getL S n = none := by unfold getL; rw [List.getElem?_eq_getElem hn, q]
      simp only [noDk, this] at hk
      cases hk
    | lst ds =>
      rw [q] at r
      obtain ⟨vs, h, _⟩ := r
      exact (.base (.lst h))
    | ro ds =>
      rw [q] at r
      obtain ⟨vs, ⟨o, h⟩ | ⟨o, its, n, h, c, _⟩, _⟩ := r
      · exact (.base (.frz h))
      · exact (.kList h c)
def isiTys : List String := ["bool", "str", "tuple", "int", "list"]
theorem kitN : ∀ n ∈ ["NoneType", "bool", "int", "str", "tuple", "list"], ∀ T ∈ isiTys, kitB n T = some (isiN T n) := by decide +kernel
theorem kit_isi {K : PySem.W.Frag} {d : D} {T : String} (hT : T ∈ isiTys) : PySem.W.kitOne K (.type (tyN d)) (.type T) = some (isiB T d) := by
  refine kit_ty (kitN _ ?_ T hT)
  cases d <;> simp [tyN]
theorem mt_append' : MtM X "list.append" (LM X.K mAppend) := by
  intro pins s σ H x xs v us Q I rx rxs h
  obtain ⟨ρ, S, d0, ds, d, S', hs, r0, r, hf, hq⟩ := h
  unfold mAppend at hf
  split at hf
  · rename_i n y
    split at hf
    · rename_i ys e
      split at hf
      · rename_i hl; cases hf
        obtain ⟨a, vs, rfl, ea, ha, ra⟩ := hs.lstM e r0
        obtain ⟨w, r2, rfl, r1, rfl⟩ := r
        exact mt_append pins s σ H _ _ v us Q I rx rxs ⟨a, vs, w, rfl, rfl, ha, by rw [← ra.length]; exact hl, hq.write hs (getM_so e) ea (ra.append (RpL.one r1)) rfl⟩
      · cases hf
    · cases hf
  · cases hf
theorem pair_rp {K : PySem.W.Frag} {H : Hp} {ρ : List Addr} : ∀ {ps : List D} {kvs : List (Key × D)} {vs : List V}, ps.mapM pairD = some kvs → RpL K H ρ ps vs →
    ∃ (as : List Addr) (ws : List (Key × V)), vs = as.map V.ref ∧ Paired (fun (p : Addr) (kv : Key × V) => SqT K H p [kV kv.1, kv.2]) as ws ∧ kvs.map (·.1) = ws.map (·.1) ∧ RpL K H ρ (kvs.map (·.2)) (ws.map (·.2))
  | [], kvs, vs, h, r => by cases h; cases r; exact ⟨[], [], rfl, .nil, rfl, rfl⟩
  | p :: ps, kvs, vs, h, r => by
    obtain ⟨v, rr, rfl, r1, r2⟩ := r
    rw [List.mapM_cons] at h
    cases e : pairD p with
    | none => rw [e] at h; cases h
    | some kv =>
      rw [e] at h
      cases e2 : ps.mapM pairD with
      | none => rw [e2] at h; cases h
      | some kvs' =>
        rw [e2] at h; cases h
        obtain ⟨as, ws, rfl, pa, ek, rw'⟩ := pair_rp e2 r2
        unfold pairD at e
        split at e
        · rename_i k w
          cases ek2 : keyD k with
          | none => rw [ek2] at e; cases e
          | some kk =>
            rw [ek2] at e; cases e
            obtain ⟨a, us, rfl, sa, ra⟩ := r1
            obtain ⟨u1, t1, rfl, q1, u2, t2, rfl, q2, rfl⟩ := ra
            rw [keyD_rp ek2 q1] at sa
            exact ⟨a :: as, (kk, u2) :: ws, rfl, .cons sa.1 pa, by simp [ek], ⟨u2, _, rfl, q2, rw'⟩⟩
        · cases e
theorem putD_rp {κ : Type} [DecidableEq κ] {K : PySem.W.Frag} {H : Hp} {ρ : List Addr} {k : κ} {d : D} {v : V} {kvs : List (κ × D)} {vs : List (κ × V)} (e : kvs.map (·.1) = vs.map (·.1)) (r : RpL K H ρ (kvs.map (·.2)) (vs.map (·.2))) (rv : Rp K H ρ d v) :
    (putD kvs k d).map (·.1) = (putK vs k v).map (·.1) ∧ RpL K H ρ ((putD kvs k d).map (·.2)) ((putK vs k v).map (·.2)) := by
  have any : ∀ {kvs : List (κ × D)} {vs : List (κ × V)}, kvs.map (·.1) = vs.map (·.1) → (kvs.any fun kv => decide (kv.1 = k)) = vs.any fun kv => decide (kv.1 = k) := by
    intro kvs vs e
    have h1 : (kvs.any fun kv => decide (kv.1 = k)) = (kvs.map (·.1)).any fun z => decide (z = k) := by rw [List.any_map]; rfl
    have h2 : (vs.any fun kv => decide (kv.1 = k)) = (vs.map (·.1)).any fun z => decide (z = k) := by rw [List.any_map]; rfl
    rw [h1, h2, e]
  have repl : ∀ {kvs : List (κ × D)} {vs : List (κ × V)}, kvs.map (·.1) = vs.map (·.1) → RpL K H ρ (kvs.map (·.2)) (vs.map (·.2)) →
      (kvs.map fun kv => if kv.1 = k then (kv.1, d) else kv).map (·.1) = (vs.map fun kv => if kv.1 = k then (kv.1, v) else kv).map (·.1) ∧
      RpL K H ρ ((kvs.map fun kv => if kv.1 = k then (kv.1, d) else kv).map (·.2)) ((vs.map fun kv => if kv.1 = k then (kv.1, v) else kv).map (·.2)) := by
    intro kvs
    induction kvs with
    | nil =>
      intro vs e r
      cases vs with
      | nil => exact ⟨rfl, rfl⟩
      | cons _ _ => cases e
    | cons x kvs ih =>
      intro vs e r
      cases vs with
      | nil => cases e
      | cons y vs =>
        obtain ⟨k1, d1⟩ := x
        obtain ⟨k2, v2⟩ := y
        have e1 : k1 = k2 := (List.cons.inj e).1
        have e2 : kvs.map (·.1) = vs.map (·.1) := (List.cons.inj e).2
        obtain ⟨w, rr, ev, r1, r2⟩ := r
        obtain ⟨rfl, rfl⟩ := List.cons.inj ev
        subst e1
        obtain ⟨i1, i2⟩ := ih e2 r2
        by_cases q : k1 = k
        · simp only [List.map_cons, if_pos q]
          exact ⟨by rw [i1], _, _, rfl, rv, i2⟩
        · simp only [List.map_cons, if_neg q]
          exact ⟨by rw [i1], _, _, rfl, r1, i2⟩
  unfold putD putK
  rw [any e]
  split
  · exact repl e r
  · simp only [List.map_append, List.map_cons, List.map_nil]
    exact ⟨by rw [e], r.append (RpL.one rv)⟩
theorem mergeD_rp {K : PySem.W.Frag} {H : Hp} {ρ : List Addr} : ∀ {more : List (Key × D)} {ms : List (Key × V)} {kvs : List (Key × D)} {vs : List (Key × V)}, more.map (·.1) = ms.map (·.1) → RpL K H ρ (more.map (·.2)) (ms.map (·.2)) → kvs.map (·.1) = vs.map (·.1) → RpL K H ρ (kvs.map (·.2)) (vs.map (·.2)) →
    (mergeD kvs more).map (·.1) = (mergeK vs ms).map (·.1) ∧ RpL K H ρ ((mergeD kvs more).map (·.2)) ((mergeK vs ms).map (·.2))
  | [], [], _, _, _, _, e, r => ⟨e, r⟩
  | [], _ :: _, _, _, h, _, _, _ => by cases h
  | _ :: _, [], _, _, h, _, _, _ => by cases h
  | (k1, d1) :: more, (k2, v2) :: ms, kvs, vs, h, q, e, r => by
    have e1 : k1 = k2 := (List.cons.inj h).1
    subst e1
    obtain ⟨v, rr, ev, q1, q2⟩ := q
    obtain ⟨rfl, rfl⟩ := List.cons.inj ev
    obtain ⟨e', r'⟩ := putD_rp (k := k1) e r q1
    have z := mergeD_rp (more := more) (ms := ms) (List.cons.inj h).2 q2 e' r'
    exact z
theorem cr_dict (hc : X.calm = true) (md : Sct.md = .pln) : CallR X (.type "dict") (LC X.K bDict) := by
  intro pins s σ H xs us Q I rx h
  obtain ⟨ρ, S, ds, d, S', hs, r, hf, hq⟩ := h
  unfold bDict at hf
  split at hf
  · rename_i ps
    split at hf
    · cases e : ps.mapM pairD with
      | none => rw [e] at hf; cases hf
      | some kvs =>
        rw [e] at hf; cases hf
        obtain ⟨v, r2, rfl, ⟨a, vs, rfl, sa, ra⟩, rfl⟩ := r
        obtain ⟨as, ws, rfl, pa, ek, rw'⟩ := pair_rp e ra
        obtain ⟨o, ho, hd⟩ := sa.2.2 md
        refine call_dict_tup hc pins s σ H _ us Q I rx ⟨a, as, ws, o, rfl, sa.1, ho, hd, pa, fun p hp => ?_⟩
        obtain ⟨e', r'⟩ := mergeD_rp (kvs := []) (vs := []) ek rw' rfl rfl
        exact hq _ (ρ ++ [p]) _ (Mono.new hp) ⟨[p], rfl⟩ (hs.newD hp e' r') ⟨p, rfl, by rw [← hs.len]; simp⟩
    · cases hf
  · cases hf
theorem mt_sindex' : MtR X "str.index" (LM X.K mSindex) := by
  intro pins s σ H x xs v us Q I rx rxs h
  obtain ⟨ρ, S, d0, ds, d, S', hs, r0, r, hf, hq⟩ := h
  unfold mSindex at hf
  split at hf
  · rename_i a b
    split at hf
    · rename_i i rest e
      cases hf
      cases r0
      obtain ⟨w, r2, rfl, r1, rfl⟩ := r
      cases r1
      exact mt_sindex pins s σ H _ _ v us Q I rx rxs ⟨a, b, i, rest, rfl, rfl, e, hq.same hs rfl⟩
    · cases hf
  · cases hf
theorem mt_insert' : MtR X "list.insert" (LM X.K mInsert) := by
  intro pins s σ H x xs v us Q I rx rxs h
  obtain ⟨ρ, S, d0, ds, d, S', hs, r0, r, hf, hq⟩ := h
  unfold mInsert at hf
  split at hf
  · rename_i n i y
    split at hf
    · rename_i ys e
      split at hf
      · rename_i hl
        cases hf
        obtain ⟨a, vs, rfl, ea, ha, ra⟩ := hs.lstM e r0
        obtain ⟨w1, t1, rfl, q1, w2, t2, rfl, q2, rfl⟩ := r
        cases q1
        exact mt_insert pins s σ H _ _ v us Q I rx rxs ⟨a, vs, i, w2, rfl, rfl, ha, by rw [← ra.length]; exact hl.1, hl.2.1, hl.2.2, hq.write hs (getM_so e) ea (((ra.take _).append (RpL.one q2)).append (ra.drop _)) rfl⟩
      · cases hf
    · cases hf
  · cases hf
/-- a method without arguments -/
def LM0 (K : PySem.W.Frag) (f : D → Sto → Option (D × Sto)) : V → List V → Hp → VK → Prop := fun x xs H Q => xs = [] ∧ ∃ ρ S d0 d S', Sr K H ρ S ∧ Rp K H ρ d0 x ∧ f d0 S = some (d, S') ∧ Pst K H ρ d S' Q
theorem mt_pop' : MtM X "list.pop" (LM0 X.K mPop) := by
  intro pins s σ H x xs v us Q I rx rxs h
  obtain ⟨rfl, ρ, S, d0, d, S', hs, r0, hf, hq⟩ := h
  unfold mPop at hf
  split at hf
  · rename_i n
    split at hf
    · rename_i ys e
      split at hf
      · rename_i y ey
        cases hf
        obtain ⟨a, vs, rfl, ea, ha, ra⟩ := hs.lstM e r0
        obtain ⟨w, ew, rw'⟩ := ra.get ey
        rw [ra.length] at ew
        refine mt_pop pins s σ H _ _ v us Q I rx rxs ⟨a, vs, w, rfl, rfl, ha, ew, hq.write hs (getM_so e) ea ?_ rw'⟩
        rw [List.dropLast_eq_take, List.dropLast_eq_take, ra.length]
        exact ra.take _
      · cases hf
    · cases hf
  · cases hf
theorem mt_reverse' : MtM X "list.reverse" (LM0 X.K mReverse) := by
  intro pins s σ H x xs v us Q I rx rxs h
  obtain ⟨rfl, ρ, S, d0, d, S', hs, r0, hf, hq⟩ := h
  unfold mReverse at hf
  split at hf
  · rename_i n
    split at hf
    · rename_i ys e
      cases hf
      obtain ⟨a, vs, rfl, ea, ha, ra⟩ := hs.lstM e r0
      exact mt_reverse pins s σ H _ _ v us Q I rx rxs ⟨a, vs, rfl, rfl, ha, hq.write hs (getM_so e) ea ra.reverse rfl⟩
    · cases hf
  · cases hf
end
end Cs

set_option Elab.async false
set_option linter.all false
set_option maxRecDepth 100000
namespace Cs
open PySem PySem.Spec PyProof.Rows L2
variable [Sct]

/-! ### the given text against the own one -/
def isVis (sc : Scope) (x : Str) : Bool := match sc.names.lookup x with
  | some .local => true | some .cell => true | some .free => true | _ => false
def isLoc (sc : Scope) (x : Str) : Bool := match sc.names.lookup x with
  | some .local => true | some .cell => true | _ => false
def isGl (sc : Scope) (x : Str) : Bool := match sc.names.lookup x with
  | some .globalImplicit => true | _ => false
def nd (x : Str) : Bool := !(x == ("__debug__" : Str)) && !(x == ("__classdict__" : Str))
theorem isVis_ok {sc : Scope} {x : Str} (h : isVis sc x = true) : Vis sc x := by
  unfold isVis at h
  unfold Vis
  split at h <;> simp_all
theorem isLoc_ok {sc : Scope} {x : Str} (h : isLoc sc x = true) : L2.Loc sc x := by
  unfold isLoc at h
  unfold L2.Loc
  split at h <;> simp_all
theorem isGl_ok {sc : Scope} {x : Str} (h : isGl sc x = true) : sc.names.lookup x = some .globalImplicit := by
  unfold isGl at h
  split at h <;> simp_all
theorem nd_ok {x : Str} (h : nd x = true) : (x == ("__debug__" : Str)) = false ∧ (x == ("__classdict__" : Str)) = false := by
  unfold nd at h
  simpa using h
/-- what the text may name: functions, constants -/
structure MC where
  N : List Str
  fs : List String
  gs : List String
  ds : List String
def cnOk : Cn → Const → Bool
  | .non, .none => true
  | .bl b, .bool b' => b == b'
  | .int i, .int j => i == j
  | .str s, .str x => decide (x = Str.ofString s)
  | _, _ => false
def bopOk : Bop → Operator → Bool
  | .add, .Add => true | .sub, .Sub => true | .mul, .Mult => true | .fdiv, .FloorDiv => true | .mod, .Mod => true | .pow, .Pow => true
  | _, _ => false
def copOk : Cop → CmpOp → Bool
  | .eq, .Eq => true | .ne, .NotEq => true | .lt, .Lt => true | .le, .LtE => true | .gt, .Gt => true | .ge, .GtE => true | .isin, .In => true | .notin, .NotIn => true
  | _, _ => false
def bltFns : List String := ["len", "abs", "max", "min", "all", "any", "repr", "sorted"]
def bltTys : List String := ["int", "list", "tuple", "dict"]
def mthFns : List String := ["append", "index", "insert", "sindex"]
def mth0Fns : List String := ["pop", "reverse"]
/-- a method's name in the text -/
def mNm (f : String) : String := if f = "sindex" then "index" else f
/-- built-ins that must not be hidden by the text -/
def bltAll : List String := bltFns ++ bltTys ++ ["range", "reversed", "isinstance", "zip", "enumerate"] ++ isiTys
def mName (N : List Str) (i : Nat) (x : Str) : Bool := decide (N[i]? = some x)
def mTgs (N : List Str) (sc : Scope) : List Nat → List Expr → Bool
  | [], [] => true
  | i :: is, .Name x _ :: es => mName N i x && isLoc sc x && mTgs N sc is es
  | _, _ => false
def mTg (N : List Str) (sc : Scope) : Tg → Expr → Bool
  | .v i, .Name x _ => mName N i x && isLoc sc x
  | .t is, .Tuple es _ _ => mTgs N sc is es && decide (0 < is.length)
  | _, _ => false
def simpleO : E → Bool
  | .var _ => true | .cn _ => true | _ => false
def isTrueE : E → Bool
  | .cn (.bl true) => true | _ => false
def lineOk (a c : Pos) : Bool := a.endLine == c.line
def isTupE : Expr → Bool
  | .Tuple _ _ _ => true | _ => false
/-- a walked thing's arguments -/
def itX (tg : Expr) (sc : Scope) : IK → Expr → Option (List Expr)
  | .enum, .Call (.Name x _) [e] [] _ => if decide (x = Str.ofString "enumerate") && isGl sc x && isTupE tg then some [e] else none
  | .seq, e => some [e]
  | .rng, .Call (.Name x _) es [] _ => if decide (x = Str.ofString "range") && isGl sc x && (es.length == 1 || es.length == 2) then some es else none
  | .rev, .Call (.Name x _) [e] [] _ => if decide (x = Str.ofString "reversed") && isGl sc x then some [e] else none
  | _, _ => none
mutual
def mE (m : MC) : Scope → E → Expr → Bool
  | sc, .var i, .Name x _ => mName m.N i x && isVis sc x && nd x
  | _, .cn c, .Constant k _ _ => cnOk c k
  | sc, .glb g, .Name x _ => decide (x = Str.ofString g) && m.gs.contains g && isGl sc x && nd x
  | sc, .bin op a b, .BinOp a' o b' _ => bopOk op o && mE m sc a a' && mE m sc b b'
  | sc, .neg a, .UnaryOp .USub a' _ => mE m sc a a'
  | sc, .cmp op a b, .Compare a' [o] [b'] _ => copOk op o && mE m sc a a' && mE m sc b b' && !behindInMarks o b'
  | sc, .isN a, .Compare a' [.Is] [.Constant .none _ _] _ => mE m sc a a'
  | sc, .notN a, .Compare a' [.IsNot] [.Constant .none _ _] _ => mE m sc a a'
  | sc, .isB a b, .Compare a' [.Is] [.Constant (.bool b') _ _] _ => mE m sc a a' && (b == b')
  | sc, .isi a T, .Call (.Name x _) [a', .Name y _] [] _ => decide (x = Str.ofString "isinstance") && decide (y = Str.ofString T) && isiTys.contains T && isGl sc x && isGl sc y && nd y && mE m sc a a'
  | sc, .nt a, .UnaryOp .Not a' _ => mE m sc a a'
  | sc, .and a b, .BoolOp .And vs pos => match vs with
    | [a', b'] => mE m sc a a' && mE m sc b b'
    | a' :: b' :: c' :: r => mE m sc a a' && mE m sc b (.BoolOp .And (b' :: c' :: r) pos)
    | _ => false
  | sc, .or a b, .BoolOp .Or vs pos => match vs with
    | [a', b'] => mE m sc a a' && mE m sc b b'
    | a' :: b' :: c' :: r => mE m sc a a' && mE m sc b (.BoolOp .Or (b' :: c' :: r) pos)
    | _ => false
  | sc, .ife t a b, .IfExp t' a' b' _ => mE m sc t t' && mE m sc a a' && mE m sc b b'
  | sc, .tup es, .Tuple es' _ _ => mEs m sc es es' && decide (es.length ≤ 1000)
  | sc, .lst es, .List es' _ => mEs m sc es es' && decide (es.length ≤ 1000)
  | sc, .idx a i, .Subscript a' i' _ => mE m sc a a' && mE m sc i i'
  | sc, .slc a lo hi, .Subscript a' (.Slice lo' hi' none _) _ => mE m sc a a' &&
      (match lo' with | none => isNonE lo | some l => mE m sc lo l && !isNonE lo) && (match hi' with | none => isNonE hi | some h => mE m sc hi h && !isNonE hi)
  | sc, .call f es, .Call (.Name x _) es' [] _ => decide (x = Str.ofString f) && m.fs.contains f && isGl sc x && nd x && mEs m sc es es' && decide (0 < es.length)
  | sc, .blt f es, .Call (.Name x _) es' [] _ => decide (x = Str.ofString f) && (bltFns.contains f || bltTys.contains f) && isGl sc x && nd x && mEs m sc es es' && decide (0 < es.length) && (f != "dict" || decide (Sct.md = .pln))
  | sc, .mth f o es, .Call (.Attribute o' x ap) es' [] cp => decide (x = Str.ofString (mNm f)) && mthFns.contains f && mE m sc o o' && simpleO o && mEs m sc es es' && decide (0 < es.length) && decide (es.length < 29) && lineOk ap cp
  | sc, .lc t k es c e, .ListComp e' [⟨tg, it, ifs, as⟩] scope _ => mTg m.N scope t tg && (match itX tg sc k it with | some es' => mEs m sc es es' | none => false) && (match ifs with | [] => isTrueE c | [i] => mE m (relS scope sc) c i | _ => false) &&
      mE m (relS scope sc) e e' && (as == 0) && blkC m.N sc scope (t.slots.map fun i => (m.N.getD i default, i))
  | sc, .lc2 t k es c t1 k1 es1 c1 e, .ListComp e' [⟨tg, it, ifs, as⟩, ⟨tg1, it1, ifs1, as1⟩] scope _ => mTg m.N scope t tg && mTg m.N scope t1 tg1 && (match itX tg sc k it with | some es' => mEs m sc es es' | none => false) &&
      (match itX tg1 (relS scope sc) k1 it1 with | some es' => mEs m (relS scope sc) es1 es' | none => false) && (match ifs with | [] => isTrueE c | [i] => mE m (relS scope sc) c i | _ => false) && (match ifs1 with | [] => isTrueE c1 | [i] => mE m (relS scope sc) c1 i | _ => false) &&
      mE m (relS scope sc) e e' && (as == 0) && (as1 == 0) && blkC m.N sc scope ((t.slots ++ t1.slots).map fun i => (m.N.getD i default, i))
  | sc, .tr e, e' => mE m sc e e'
  | _, .dnew, .Dict [] [] _ => true
  | sc, .mth0 f o, .Call (.Attribute o' x ap) [] [] cp => decide (x = Str.ofString f) && mth0Fns.contains f && mE m sc o o' && simpleO o && lineOk ap cp
  | sc, .dict1 k v, .Dict [some k'] [v'] _ => decide (Sct.md = .trk) && mE m sc k k' && mE m sc v v'
  | sc, .dc t k es c ke ve, .DictComp kx vx [⟨tg, it, ifs, as⟩] scope _ => mTg m.N scope t tg && (match itX tg sc k it with | some es' => mEs m sc es es' | none => false) && (match ifs with | [] => isTrueE c | [i] => mE m (relS scope sc) c i | _ => false) &&
      mE m (relS scope sc) ke kx && mE m (relS scope sc) ve vx && (as == 0) && blkC m.N sc scope (t.slots.map fun i => (m.N.getD i default, i)) && decide (Sct.md = .trk)
  | sc, .gget g i, .Subscript (.Name x _) i' _ => decide (x = Str.ofString g) && m.ds.contains g && isGl sc x && nd x && mE m sc i i'
  | sc, .gin neg g a, .Compare a' [o] [.Name x _] _ => (match neg, o with | false, .In => true | true, .NotIn => true | _, _ => false) && decide (x = Str.ofString g) && m.ds.contains g && isGl sc x && nd x && mE m sc a a'
  | sc, .dzip a b, .Call (.Name x _) [.Call (.Name y _) [a', b'] [] _] [] _ => decide (x = Str.ofString "dict") && decide (y = Str.ofString "zip") && isGl sc x && isGl sc y && mE m sc a a' && mE m sc b b'
  | sc, .lrng a, .Call (.Name x _) [.Call (.Name y _) [a'] [] _] [] _ => decide (x = Str.ofString "list") && decide (y = Str.ofString "range") && isGl sc x && isGl sc y && mE m sc a a'
  | sc, .trev a, .Call (.Name x _) [.Call (.Name y _) [a'] [] _] [] _ => decide (x = Str.ofString "tuple") && decide (y = Str.ofString "reversed") && isGl sc x && isGl sc y && mE m sc a a'
  | _, _, _ => false
termination_by structural _ e _ => e
def mEs (m : MC) : Scope → List E → List Expr → Bool
  | _, [], [] => true
  | sc, e :: es, e' :: es' => mE m sc e e' && mEs m sc es es'
  | _, _, _ => false
termination_by structural _ es _ => es
end
end Cs

set_option Elab.async false
set_option linter.all false
set_option maxRecDepth 100000
namespace Cs
open PySem PySem.Spec PyProof.Rows L2

/-! ### defs called where no repr runs around -/
/-- what a def promises to callers around whom nothing is being shown -/
structure FnG (P : Program) (w : World) (K : PySem.W.Frag) (mg : Str → Option Value) (base : Heap) (k : Nat) (f : Addr) (fd : FuncData) (ps : List Str) (sp : List V → Hp → VK → Prop) : Prop where
  cnt : ∀ vs H Q, sp vs H Q → vs.length = ps.length
  go : ∀ (A : Around) (outer : List Env) (s : Shared) (H : Hp) (args : Args) (us : List Value) (vs : List V) (Q : VK), A.guards = some [] → Room k A → Env0 P w K mg base A outer s H → BindsTo s fd args (ps.zip us) → Vals vs us → sp vs H Q →
    codeAny (model P w) A (.call (.ref f) args) (fun r s' => ∃ u, r = .ok (.ret u) ∧ CE outer P w H s Q u s') s

section
variable {X : Cx} {k : Nat} {f : Addr} {fd : FuncData} {ps : List Str} {sp : List V → Hp → VK → Prop} {x : Str} {p pos : Pos} {e : Expr} {es : List Expr} {t : TA}
/-- f(..) by such a promise -/
theorem pe_callG (F : FnG X.prog X.w X.K X.mg X.base k f fd ps sp) (hgd : X.A.guards = some []) (room : Room k X.A) (glo : Gl X x) (at_ : X.mg x = some (.ref f)) (kept : PySem.W.keepIn X.K (.ref f) = true) (bind : Binds X.K fd ps [])
    (args : PA X (e :: es) t) (ndb : (x == ("__debug__" : Str)) = false) (st : starEach (e :: es) X.env = (false, eval e X.env) :: starEach es X.env) (npl : (backTo pos (starEach es X.env)).any (·.1) = false) :
    PE X (.Call (.Name x p) (e :: es) [] pos) (fun σ H Q => t σ H fun vs H1 => sp vs H1 Q) where
  run pins s σ H Q I h := by
    apply wpAny_Call_Name_kw
    apply ld_glob I glo at_ (hd := ndb)
    refine PySem.W.callWith_K (h₀ := X.base) I.ok.mod.kin kept (thn (args.run pos pins s σ H _ I h) ?_) st npl
    rintro us s1 ⟨vs, H1, I1, rv, q⟩
    refine ⟨I1.kIn, wpAny_call ?_⟩
    have hn : (us ++ ([] : List Value)).length = ps.length := by rw [List.append_nil, ← rv.length]; exact F.cnt _ _ _ q
    have hb := bind s1 us I1.kIn hn
    rw [List.append_nil] at hb
    refine codeAny_mono (F.go X.A X.stack s1 H1 ⟨us, []⟩ us vs Q hgd room I1.env0 hb rv q) ?_
    rintro r s2 ⟨u, rfl, ce⟩
    exact I1.after ce
end
/-- a def of the text keeps its promise: by its body's reading -/
theorem fnG_of {P : Program} {w : World} {K : PySem.W.Frag} {mg : Str → Option Value} {base : Heap} {k : Nat} {x qual : Str} {st : Stmt} {f : Addr} {fd : FuncData} {N ps : List Str} {sp : List V → Hp → VK → Prop} (F : Fun K x qual st f fd) (sc : FnScope N ps (defScope st))
    (cnt : ∀ vs H Q, sp vs H Q → vs.length = ps.length)
    (body : ∀ (cdv : Value) (A : Around) (outer : List Env) (s : Shared) (H : Hp) (vs : List V) (Q : VK), A.guards = some [] → Room k (A.deeper (envOfC qual (defScope st) s.heap.objs.size f cdv)) → sp vs H Q →
      ∃ t, PSs (cxOf CX0 P w K mg base N qual (defScope st) f cdv A outer s H E0).nox (defBody st) t ∧ t { nx := fun _ H' => Q .non H', rt := Q } (L2.start N vs) H) : FnG P w K mg base (k + 1) f fd ps sp where
  cnt := cnt
  go A outer s H args us vs Q hgd room e0 hb rv q := by
    obtain ⟨oc, od, kV, doc, pm, an, cdv, ct, osl, rfl, lk, code⟩ := F.ex
    have kin : K.In s.heap := e0.mod.kin.keeps fun b o z => (e0.bs b o z).1
    have nl : s.heap.NoLimit := e0.mod.nolimit.keeps fun b o z => (e0.bs b o z).1
    have kinds : ∀ y ∈ ps.zip us, (defScope st).names.lookup y.1 = some .local ∨ ((defScope st).names.lookup y.1 = some .cell ∧ ((cellsFrom (s.heap.objs.size + 1) (defScope st).names []).lookup y.1).isSome = true) := by
      rintro ⟨n, v⟩ hy
      rcases sc.par n (List.of_mem_zip hy).1 with z | z
      · exact .inl z
      · exact .inr ⟨z, PySem.W.cellsFrom_some _ _ _ (.inl z)⟩
    apply codeAny_call_function room.depth (kin _ _ lk) rfl sc.co sc.gen rfl (PySem.W.codeRec_of kin code)
    apply hb
    apply wpAny_newFunctionEnv_cells sc.kind kinds
    rintro env he s1 y
    subst he
    refine ⟨nl.keeps y.toInCall.keep, codeAny_func ?_⟩
    obtain ⟨t, ht, hq⟩ := body cdv A outer s H vs Q hgd (room.deeper _) q
    have I := inv_start (CX := CX0) (E := E0) sc room.hd e0 (cnt _ _ _ q) rv y
    refine wpAny_mono (ht.nox.run [] s1 (L2.start N vs) H _ I hq) (fun fl s' hs => ?_) fun e s' hs => ?_
    · cases fl with
      | ret u =>
        obtain ⟨v, σ', H', J, r, z⟩ := hs
        exact ⟨u, rfl, v, H', J.os, J.bare, J.base, J.hok, r, z⟩
      | next =>
        obtain ⟨σ', H', J, z⟩ := hs
        exact ⟨.none, rfl, .non, H', J.os, J.bare, J.base, J.hok, rfl, z⟩
      | brk => exact hs.elim fun _ z => z.elim fun _ z => z.2.elim
      | cont => exact hs.elim fun _ z => z.elim fun _ z => z.2.elim
    · exact wpAny_mono hs (fun _ _ z => z.elim) fun _ _ z => z.elim
end Cs

set_option Elab.async false
set_option linter.all false
set_option maxRecDepth 100000
namespace Cs
open PySem PySem.Spec PyProof.Rows L2
variable [Sct]

/-! ### readings of expressions -/
def LE (K : PySem.W.Frag) (f : Ev → Sto → Option (D × Sto)) : TE := fun σ H Q => ∃ ρ env S d S', Sr K H ρ S ∧ EnvR K H ρ env σ ∧ f env S = some (d, S') ∧ Pst K H ρ d S' Q
def LT (K : PySem.W.Frag) (f : Ev → Sto → Option (Bool × Sto)) : TT := fun σ H Q => ∃ ρ env S k S', Sr K H ρ S ∧ EnvR K H ρ env σ ∧ f env S = some (k, S') ∧ ∀ H' ρ', Mono H H' → ρ <+: ρ' → Sr K H' ρ' S' → Q k H'
def LA (K : PySem.W.Frag) (f : Ev → Sto → Option (List D × Sto)) : TA := fun σ H Q => ∃ ρ env S ds S', Sr K H ρ S ∧ EnvR K H ρ env σ ∧ f env S = some (ds, S') ∧ ∀ H' ρ' vs, Mono H H' → ρ <+: ρ' → Sr K H' ρ' S' → RpL K H' ρ' ds vs → Q vs H'
section
variable {K : PySem.W.Frag} {H H1 : Hp} {ρ ρ1 : List Addr} {S S1 : Sto} {env : Ev} {σ : L2.St}
theorem LE.mk {f : Ev → Sto → Option (D × Sto)} {R : VK} {x : D} (hs : Sr K H ρ S) (he : EnvR K H ρ env σ) (hf : f env S = some (x, S1))
    (k : ∀ H1 ρ1 v, Mono H H1 → ρ <+: ρ1 → Sr K H1 ρ1 S1 → EnvR K H1 ρ1 env σ → Rp K H1 ρ1 x v → R v H1) : LE K f σ H R :=
  ⟨ρ, env, S, x, S1, hs, he, hf, fun H' ρ' v m p s r => k H' ρ' v m p s (he.mono m p) r⟩
theorem LT.mk {f : Ev → Sto → Option (Bool × Sto)} {R : Bool → Hp → Prop} {x : Bool} (hs : Sr K H ρ S) (he : EnvR K H ρ env σ) (hf : f env S = some (x, S1))
    (k : ∀ H1 ρ1, Mono H H1 → ρ <+: ρ1 → Sr K H1 ρ1 S1 → EnvR K H1 ρ1 env σ → R x H1) : LT K f σ H R :=
  ⟨ρ, env, S, x, S1, hs, he, hf, fun H' ρ' m p s => k H' ρ' m p s (he.mono m p)⟩
theorem LA.mk {f : Ev → Sto → Option (List D × Sto)} {R : List V → Hp → Prop} {x : List D} (hs : Sr K H ρ S) (he : EnvR K H ρ env σ) (hf : f env S = some (x, S1))
    (k : ∀ H1 ρ1 vs, Mono H H1 → ρ <+: ρ1 → Sr K H1 ρ1 S1 → EnvR K H1 ρ1 env σ → RpL K H1 ρ1 x vs → R vs H1) : LA K f σ H R :=
  ⟨ρ, env, S, x, S1, hs, he, hf, fun H' ρ' v m p s r => k H' ρ' v m p s (he.mono m p) r⟩
theorem Pst.mono {d : D} {Q : VK} (p : Pst K H ρ d S Q) (m : Mono H H1) (q : ρ <+: ρ1) : Pst K H1 ρ1 d S Q := fun H' ρ' v m' q' s r => p H' ρ' v (m.trans m') (q.trans q') s r
end
section
variable {X : Cx} {e : Expr}
theorem _root_.L2.PE.weakC {t t' : TE} (h : PE X e t) (w : ∀ σ H Q, t' σ H Q → t σ H Q) : PE X e t' := ⟨fun pins s σ H Q I q => h.run pins s σ H Q I (w _ _ _ q)⟩
theorem _root_.L2.PT.weakC {t t' : TT} (h : PT X e t) (w : ∀ σ H Q, t' σ H Q → t σ H Q) : PT X e t' := ⟨fun pins s σ H Q I q => h.run pins s σ H Q I (w _ _ _ q)⟩
theorem _root_.L2.PA.weakC {es : List Expr} {t t' : TA} (h : PA X es t) (w : ∀ σ H Q, t' σ H Q → t σ H Q) : PA X es t' := ⟨fun pos pins s σ H Q I q => h.run pos pins s σ H Q I (w _ _ _ q)⟩
theorem _root_.L2.PW.weakC {t t' : TT} (h : PW X e t) (w : ∀ σ H Q, t' σ H Q → t σ H Q) : PW X e t' := ⟨fun wh pins s σ H Q I q => h.run wh pins s σ H Q I (w _ _ _ q)⟩
theorem pw_of_pt {op : BoolOp} {vs : List Expr} {pos : Pos} {t : TT} (h : PT X (.BoolOp op vs pos) t) : PW X (.BoolOp op vs pos) t := ⟨fun wh pins s σ H Q I q => h.run pins s σ H Q I q⟩
abbrev LTe (K : PySem.W.Frag) (f : Ev → Sto → Option (D × Sto)) : TT := LT K fun env S => tst (f env S)
theorem tst_inv {m : Option (D × Sto)} {k : Bool} {S : Sto} (h : tst m = some (k, S)) : ∃ d, m = some (d, S) ∧ truth S d = some k := by
  obtain ⟨d, S1, e, h⟩ := bnd_inv h
  cases q : truth S1 d with
  | none => rw [q] at h; cases h
  | some k' => rw [q] at h; cases h; exact ⟨d, e, q⟩
theorem LTe.tru {K : PySem.W.Frag} {f : Ev → Sto → Option (D × Sto)} {σ H Q} (h : LTe K f σ H Q) : LE K f σ H fun x H' => ∃ k, TruV K x H' k ∧ Q k H' := by
  obtain ⟨ρ, env, S, k, S', hs, he, hf, hq⟩ := h
  obtain ⟨d, e, q⟩ := tst_inv hf
  exact LE.mk hs he e fun H1 ρ1 v m p s1 _ r => ⟨k, tru_of s1 r q, hq H1 ρ1 m p s1⟩
theorem LTe.bl {K : PySem.W.Frag} {f : Ev → Sto → Option (D × Sto)} {σ H Q} (hb : ∀ env S d S', f env S = some (d, S') → ∃ k, d = .bl k) (h : LTe K f σ H Q) : LE K f σ H fun x H' => ∃ k, x = .bl k ∧ Q k H' := by
  obtain ⟨ρ, env, S, k, S', hs, he, hf, hq⟩ := h
  obtain ⟨d, e, q⟩ := tst_inv hf
  obtain ⟨k', rfl⟩ := hb _ _ _ _ e
  cases q
  exact LE.mk hs he e fun H1 ρ1 v m p s1 _ r => ⟨k, r, hq H1 ρ1 m p s1⟩
theorem pt_of {f : Ev → Sto → Option (D × Sto)} (h : PE X e (LE X.K f)) (he : ∀ whole, isTrue e X.env whole = (do let v ← whole; standAt e.pos; holding [v] (truthy v))) : PT X e (LTe X.K f) :=
  (pt_truth h he).weakC fun _ _ _ q => q.tru

/-- what the text's names stand for -/
structure Mo (P : Program) (w : World) (K : PySem.W.Frag) (mg : Str → Option Value) (base : Heap) (c : Cfg) (k : Nat) (m : MC) : Prop where
  fn : ∀ f ∈ m.fs, (∃ (a : Addr) (fd : FuncData) (ps : List Str) (sp : List V → Hp → VK → Prop), mg (Str.ofString f) = some (.ref a) ∧ PySem.W.keepIn K (.ref a) = true ∧ Binds K fd ps [] ∧ FnG P w K mg base k a fd ps sp ∧
      ∀ vs H Q, LC K (c.C f) vs H Q → sp vs H Q) ∨ (f = "gcd" ∧ mg (Str.ofString f) = some (.builtin "math.gcd") ∧ c.C f = bGcd)
  gl : ∀ g ∈ m.gs, ∃ u v d, mg (Str.ofString g) = some u ∧ RelV v u ∧ c.G g = some d ∧ ∀ H ρ, Rp K H ρ d v
  bt : ∀ f ∈ bltAll, mg (Str.ofString f) = none
  gd : ∀ g ∈ m.ds, ∃ d es n tb, mg (Str.ofString g) = some (.ref d) ∧ KDict K w d es n ∧ c.G g = some tb ∧ ∀ z : Str, ∃ r, PySem.W.nsIn K d z = some r ∧ (tabAt tb z).isSome = r.isSome ∧ ∀ v, tabAt tb z = some v → ∃ u vv, r = some u ∧ RelV vv u ∧ ∀ H ρ, Rp K H ρ v vv
structure Good (m : MC) (c : Cfg) (k : Nat) (X : Cx) : Prop where
  N : X.N = m.N
  nd : m.N.Nodup
  calm : X.calm = true
  room : Room k X.A
  gd : X.A.guards = some []
  mo : Mo X.prog X.w X.K X.mg X.base c k m
theorem gl_of {x : Str} (h : isGl X.env.scope x = true) : Gl X x := isGl_ok h

theorem mE_star {m : MC} {sc : Scope} {x : Expr} {p : Pos} : ∀ e : E, mE m sc e (.Starred x p) = false
  | .tr e => by rw [mE]; exact mE_star e
  | .var _ | .cn _ | .glb _ | .bin .. | .neg _ | .cmp .. | .isN _ | .notN _ | .isB .. | .isi .. | .nt _ | .and .. | .or .. | .ife .. | .tup _ | .lst _ | .idx .. | .slc .. | .call .. | .blt .. | .mth .. | .lc .. | .lc2 .. | .dnew | .mth0 .. | .dict1 .. | .dc .. | .gget .. | .gin .. | .dzip .. | .trev _ | .lrng _ => by simp [mE]
theorem mE_slice {m : MC} {sc : Scope} {a b c : Option Expr} {p : Pos} : ∀ e : E, mE m sc e (.Slice a b c p) = false
  | .tr e => by rw [mE]; exact mE_slice e
  | .var _ | .cn _ | .glb _ | .bin .. | .neg _ | .cmp .. | .isN _ | .notN _ | .isB .. | .isi .. | .nt _ | .and .. | .or .. | .ife .. | .tup _ | .lst _ | .idx .. | .slc .. | .call .. | .blt .. | .mth .. | .lc .. | .lc2 .. | .dnew | .mth0 .. | .dict1 .. | .dc .. | .gget .. | .gin .. | .dzip .. | .trev _ | .lrng _ => by simp [mE]
theorem plainIx_of {m : MC} {sc : Scope} {e : E} {e' : Expr} (h : mE m sc e e' = true) : PlainIx e' := by
  intro o i
  cases e' with
  | Slice a b c p => rw [mE_slice] at h; cases h
  | _ => rfl
theorem star_of {m : MC} {sc : Scope} {e : E} {e' : Expr} {es : List Expr} {env : Env} (h : mE m sc e e' = true) : starEach (e' :: es) env = (false, eval e' env) :: starEach es env := by
  cases e' with
  | Starred x p => rw [mE_star] at h; cases h
  | _ => rfl
theorem stars_of {m : MC} {sc : Scope} {env : Env} : ∀ {es : List E} {es' : List Expr}, mEs m sc es es' = true → starEach es' env = es'.map (fun e => (false, eval e env))
  | [], [], _ => rfl
  | [], _ :: _, h => by simp [mEs] at h
  | _ :: _, [], h => by simp [mEs] at h
  | e :: es, e' :: es', h => by
    rw [mEs, Bool.and_eq_true] at h
    rw [star_of h.1, stars_of h.2]; rfl
theorem plain_of {es : List Expr} {env : Env} {pos : Pos} (h : starEach es env = es.map (fun e => (false, eval e env))) : (backTo pos (starEach es env)).any (·.1) = false := by
  rw [h]
  unfold backTo
  simp
end
end Cs

set_option Elab.async false
set_option linter.all false
set_option maxRecDepth 100000
namespace Cs
open PySem PySem.Spec PyProof.Rows L2
variable [Sct]

/-! ### targets -/
def LG (K : PySem.W.Frag) (t : Tg) : TG := fun v σ H Q => ∃ ρ env d env', EnvR K H ρ env σ ∧ Rp K H ρ d v ∧ asg t d env = some env' ∧
  ∀ σ', σ'.length = σ.length → EnvR K H ρ env' σ' → (∀ vs, (∀ i ∈ t.slots, i ∈ vs) → wipe σ' vs = wipe σ vs) → Q σ' H
theorem wipe_set {i : Nat} {x : Option V} : ∀ {vs : List Nat} {σ : L2.St}, i ∈ vs → wipe (σ.set i x) vs = wipe σ vs
  | [], _, h => by simp at h
  | v :: vs, σ, h => by
    unfold wipe
    by_cases z : i ∈ vs
    · rw [wipe_set z]
    · have e : i = v := by simpa [z] using h
      subst e
      have sw : ∀ {vs : List Nat} {σ : L2.St}, i ∉ vs → wipe (σ.set i x) vs = (wipe σ vs).set i x := by
        intro vs
        induction vs with
        | nil => intro σ _; rfl
        | cons u us ih =>
          intro σ hn
          simp only [List.mem_cons, not_or] at hn
          unfold wipe
          rw [ih hn.2, List.set_comm _ _ hn.1]
      rw [sw z, List.set_set]
theorem wipe_wipe {vs us : List Nat} {σ : L2.St} (h : ∀ i ∈ us, i ∈ vs) : wipe (wipe σ us) vs = wipe σ vs := by
  induction us with
  | nil => rfl
  | cons u us ih =>
    show wipe ((wipe σ us).set u none) vs = _
    rw [wipe_set (h u (by simp)), ih fun i hi => h i (by simp [hi])]
section
variable {X : Cx}
theorem _root_.L2.PG.weakC {e : Expr} {t t' : TG} (h : PG X e t) (w : ∀ v σ H Q, t' v σ H Q → t v σ H Q) : PG X e t' := ⟨fun pins s σ H v u Q I r q => h.run pins s σ H v u Q I r (w _ _ _ _ q)⟩
/-- which names may be stored here: those that the raw scope knows -/
def FnC (X : Cx) (sc : Scope) : Prop := ∀ x, isLoc sc x = true → L2.Loc X.env.scope x ∧ (X.fn x = true ∨ X.env.scope.names.lookup x = some .local)
theorem mName_ok {N : List Str} {i : Nat} {x : Str} (h : mName N i x = true) : N[i]? = some x := of_decide_eq_true h
theorem pg_one {N : List Str} {sc : Scope} {i : Nat} {x : Str} {p : Pos} (hN : X.N = N) (nd : N.Nodup) (fc : FnC X sc) (h : (mName N i x && isLoc sc x) = true) : PG X (.Name x p) (gName i) := by
  rw [Bool.and_eq_true] at h
  obtain ⟨h1, h2⟩ := fc x h.2
  exact pg_name (by rw [hN]; exact nd) (by rw [hN]; exact mName_ok h.1) h1 h2
/-- stores one after another -/
def gEach : List Nat → TGs
  | [] => gNil
  | i :: is => gCons (gName i) (gEach is)
theorem pg_each {N : List Str} {sc : Scope} (hN : X.N = N) (nd : N.Nodup) (fc : FnC X sc) : ∀ {is : List Nat} {es : List Expr}, mTgs N sc is es = true → PGs X es (gEach is)
  | [], [], _ => pgs_nil
  | i :: is, .Name x p :: es, h => by
    rw [mTgs, Bool.and_eq_true] at h
    exact pgs_cons (pg_one hN nd fc h.1) (pg_each hN nd fc h.2)
theorem each_len {N : List Str} {sc : Scope} {env : Env} : ∀ {is : List Nat} {es : List Expr}, mTgs N sc is es = true → (assignEach es env).length = is.length ∧ (assignEach es env).findIdx? (·.1) = none
  | [], [], _ => ⟨rfl, rfl⟩
  | i :: is, .Name x p :: es, h => by
    rw [mTgs, Bool.and_eq_true] at h
    obtain ⟨h1, h2⟩ := each_len (env := env) h.2
    refine ⟨?_, ?_⟩
    · show (assignEach es env).length + 1 = is.length + 1
      rw [h1]
    · show List.findIdx? (·.1) ((false, assign (.Name x p) env) :: assignEach es env) = none
      rw [List.findIdx?_cons]
      simp [h2]
theorem gEach_ok {K : PySem.W.Frag} {H : Hp} {ρ : List Addr} {Q : L2.St → Hp → Prop} : ∀ {is : List Nat} {ds : List D} {vs : List V} {env : Ev} {σ : L2.St}, RpL K H ρ ds vs → is.length = ds.length → EnvR K H ρ env σ →
    (∀ σ', σ'.length = σ.length → EnvR K H ρ ((is.zip ds).foldl (fun e p => e.set p.1 (some p.2)) env) σ' → (∀ sl, (∀ i ∈ is, i ∈ sl) → wipe σ' sl = wipe σ sl) → Q σ' H) → gEach is vs σ H Q
  | [], [], vs, env, σ, r, _, he, h => by
    cases r
    exact ⟨rfl, h σ rfl he fun _ _ => rfl⟩
  | [], _ :: _, _, _, _, _, hl, _, _ => by simp at hl
  | _ :: _, [], _, _, _, _, hl, _, _ => by simp at hl
  | i :: is, d :: ds, vs, env, σ, r, hl, he, h => by
    obtain ⟨v, r', rfl, r1, r2⟩ := r
    refine ⟨v, r', rfl, ?_⟩
    refine gEach_ok (env := env.set i (some d)) r2 (by simpa using hl) (he.set r1) fun σ' l e' w => h σ' (by simpa using l) e' fun sl hs => ?_
    rw [w sl fun j hj => hs j (by simp [hj]), wipe_set (hs i (by simp))]
theorem pg_tg {N : List Str} {sc : Scope} {t : Tg} {e : Expr} (hN : X.N = N) (nd : N.Nodup) (hc : X.calm = true) (fc : FnC X sc) (h : mTg N sc t e = true) : PG X e (LG X.K t) := by
  cases t with
  | v i =>
    cases e with
    | Name x p =>
      refine (pg_one hN nd fc h).weakC fun v σ H Q q => ?_
      obtain ⟨ρ, env, d, env', he, r, ha, hq⟩ := q
      cases ha
      exact hq _ (by simp) (he.set r) fun vs h => wipe_set (h i (by simp [Tg.slots]))
    | _ => simp [mTg] at h
  | t is =>
    cases e with
    | Tuple es k p =>
      simp only [mTg, Bool.and_eq_true] at h
      obtain ⟨h1, h2⟩ := each_len (env := X.env) h.1
      refine (pg_tup hc (pg_each hN nd fc h.1) h1 h2).weakC fun v σ H Q q => ?_
      obtain ⟨ρ, env, d, env', he, r, ha, hq⟩ := q
      unfold asg at ha
      simp only at ha
      split at ha
      · rename_i ds
        obtain ⟨a, vs, rfl, sa, ra⟩ := r
        split at ha
        · rename_i hl
          cases ha
          exact ⟨a, vs, rfl, sa.1, by rw [← ra.length, hl], gEach_ok ra hl he hq⟩
        · cases ha
      · cases ha
    | _ => simp [mTg] at h
end

/-! ### what is walked -/
def JOk (K : PySem.W.Frag) (H' : Hp) (ρ' : List Addr) (iw : List D × Watch) (J : It) : Prop := ∀ i H2 ρ2 S2, Mono H' H2 → ρ' <+: ρ2 → Sr K H2 ρ2 S2 → still iw.2 S2 →
  (i = iw.1.length → J.stop i H2) ∧ (∀ d, iw.1[i]? = some d → J.go i H2 ∧ ∀ x H3, J.yld i H2 x H3 → Sr K H3 ρ2 S2 ∧ Mono H2 H3 ∧ Rp K H3 ρ2 d x)
def LI (K : PySem.W.Frag) (k : IK) (f : Ev → Sto → Option (List D × Sto)) : TI := fun σ H R => ∃ ρ env S xs S1 iw, Sr K H ρ S ∧ EnvR K H ρ env σ ∧ f env S = some (xs, S1) ∧ items k xs S1 = some iw ∧
  ∀ H' ρ' J, Mono H H' → ρ <+: ρ' → Sr K H' ρ' S1 → EnvR K H' ρ' env σ → JOk K H' ρ' iw J → R J H'
theorem rp_rng {K : PySem.W.Frag} {H : Hp} {ρ : List Addr} {lo : Int} {n i : Nat} {d : D} (h : (rngD lo n)[i]? = some d) : i < n ∧ d = .int (lo + (i : Nat)) := by
  unfold rngD at h
  rw [List.getElem?_map] at h
  cases e : (List.range n)[i]? with
  | none => rw [e] at h; cases h
  | some j =>
    rw [e] at h; cases h
    obtain ⟨hi, hj⟩ := List.getElem?_eq_some_iff.mp e
    simp at hi hj
    subst hj
    exact ⟨hi, rfl⟩
theorem rngD_len {lo : Int} {n : Nat} : (rngD lo n).length = n := by simp [rngD]
section
variable {X : Cx} {tg : Expr}
theorem _root_.L2.PI.weakC {e : Expr} {t t' : TI} (h : PI X tg e t) (w : ∀ σ H R, t' σ H R → t σ H R) : PI X tg e t' := ⟨fun pins s σ H R I q => h.run pins s σ H R I (w _ _ _ q)⟩
/-- a list or a tuple -/
def iAny (K : PySem.W.Frag) (tl : TE) : TI := fun σ H R => tl σ H fun x H1 => ∃ a, x = .ref a ∧ (((∃ xs, SqL K H1 a xs) ∧ R (Itl K a) H1) ∨ ((∃ xs, SqT K H1 a xs) ∧ R (Itt K a) H1))
theorem pi_any {l : Expr} {tl : TE} (hl : PE X l tl) : PI X tg l (iAny X.K tl) := by
  refine ⟨fun pins s σ H R I h => ?_⟩
  refine thn (hl.run pins s σ H _ I h) fun v s1 ⟨x, H1, I1, r1, q1⟩ => ?_
  obtain ⟨a, e, q1⟩ := q1
  subst e
  cases r1
  rcases q1 with ⟨⟨xs, hq⟩, q⟩ | ⟨⟨xs, hq⟩, q⟩
  · obtain ⟨its, rv, p, hz⟩ := I1.list hq
    refine wpAny_pyIter_list p.isList ?_
    refine ⟨s1.heap.objs.size, [s1.heap.objs.size], _, _, H1, rfl, I1.kept (t' := s1.toks) fun b o e => Heap.get?_push_of_some _ e, turn_list a _, ⟨_, Heap.get?_push_size _ rfl, rfl, rfl⟩, fun b hb => ?_, q⟩
    have e : b = s1.heap.objs.size := by simpa using hb
    subst e
    exact I1.fpOk (Nat.le_refl _) (I1.hok.fresh (Nat.le_refl _))
  · obtain ⟨its, rv, p, hz⟩ := I1.tuple hq
    refine wpAny_pyIter_tuple (show s1.heap.IsTuple a its.toArray from p) ?_
    refine ⟨s1.heap.objs.size, [s1.heap.objs.size], _, _, H1, rfl, I1.kept (t' := s1.toks) fun b o e => Heap.get?_push_of_some _ e, turn_tuple a _, ⟨_, Heap.get?_push_size _ rfl, rfl, rfl⟩, fun b hb => ?_, q⟩
    have e : b = s1.heap.objs.size := by simpa using hb
    subst e
    exact I1.fpOk (Nat.le_refl _) (I1.hok.fresh (Nat.le_refl _))
theorem jok_tup {K : PySem.W.Frag} {H' : Hp} {ρ' : List Addr} {a : Addr} {ds : List D} {vs : List V} (sa : SqT K H' a vs) (ra : RpL K H' ρ' ds vs) : JOk K H' ρ' (ds, []) (Itt K a) := by
  intro i H2 ρ2 S2 m p s _
  refine ⟨fun e => ⟨vs, m.sqT sa, ?_⟩, fun d hd => ?_⟩
  · show vs.length ≤ i
    rw [e, ← ra.length]; exact Nat.le_refl _
  · obtain ⟨v, ev, rv⟩ := ra.get hd
    refine ⟨⟨vs, v, m.sqT sa, ev⟩, fun x H3 y => ?_⟩
    obtain ⟨rfl, y⟩ := y
    have := y vs (m.sqT sa)
    rw [ev] at this; cases this
    exact ⟨s, Mono.refl, rv.mono m p _ _⟩
theorem enumD_get : ∀ {ds : List D} {lo i : Nat} {d : D}, (enumD lo ds)[i]? = some d → ∃ y, ds[i]? = some y ∧ d = .tup [.int ((lo + i : Nat) : Int), y]
  | [], _, _, _, h => by simp [enumD] at h
  | x :: xs, lo, 0, d, h => by
    simp only [enumD, List.getElem?_cons_zero, Option.some.injEq] at h
    exact ⟨x, rfl, h.symm⟩
  | x :: xs, lo, i + 1, d, h => by
    simp only [enumD, List.getElem?_cons_succ] at h
    obtain ⟨y, e, rfl⟩ := enumD_get h
    exact ⟨y, e, by rw [show lo + 1 + i = lo + (i + 1) by omega]⟩
theorem enumD_len : ∀ {ds : List D} {lo : Nat}, (enumD lo ds).length = ds.length
  | [], _ => rfl
  | x :: xs, lo => by simp [enumD, enumD_len (ds := xs)]
theorem sr_tupO {K : PySem.W.Frag} {H : Hp} {ρ : List Addr} {S : Sto} {ds : List D} {vs : List V} {T : Addr} {o : Obj} (s : Sr K H ρ S) (h : H T = none) (hd : o.dict = none) (r : RpL K H ρ ds vs) :
    Sr K (upd H T (tupO (decide (Sct.md = .pln)) o vs)) ρ S ∧ Mono H (upd H T (tupO (decide (Sct.md = .pln)) o vs)) ∧ Rp K (upd H T (tupO (decide (Sct.md = .pln)) o vs)) ρ (.tup ds) (.ref T) := by
  refine ⟨s.newT h, Mono.new h, T, vs, rfl, ?_, RpL.mono (Mono.new h) (List.prefix_refl _) ds vs r⟩
  by_cases e : Sct.md = .pln
  · rw [decide_eq_true e]; exact SqX.newP e hd
  · rw [decide_eq_false e]; exact SqX.new e
theorem jok_enum {K : PySem.W.Frag} {H' : Hp} {ρ' : List Addr} {a : Addr} {ds : List D} {vs : List V} (sa : SqT K H' a vs) (ra : RpL K H' ρ' ds vs) : JOk K H' ρ' (enumD 0 ds, []) (IteT K (decide (Sct.md = .pln)) a) := by
  intro i H2 ρ2 S2 m p s _
  refine ⟨fun e => ⟨vs, m.sqT sa, ?_⟩, fun d hd => ?_⟩
  · have e : i = (enumD 0 ds).length := e
    rw [e, enumD_len, ← ra.length]; exact Nat.le_refl _
  · obtain ⟨y, ey, rfl⟩ := enumD_get hd
    obtain ⟨v, ev, rv⟩ := ra.get ey
    refine ⟨⟨vs, v, m.sqT sa, ev⟩, fun x H3 z => ?_⟩
    obtain ⟨T, w, o, rfl, hT, ho, rfl, hw⟩ := z
    have := hw vs (m.sqT sa)
    rw [ev] at this; cases this
    obtain ⟨q1, q2, q3⟩ := sr_tupO (ds := [.int ((0 + i : Nat) : Int), y]) s hT ho ⟨_, _, rfl, (by rw [Nat.zero_add]; rfl), RpL.one (rv.mono m p _ _)⟩
    exact ⟨q1, q2, q3⟩
theorem jok_lst {K : PySem.W.Frag} {H' : Hp} {ρ' : List Addr} {n : Nat} {a : Addr} {ds : List D} (ea : ρ'[n]? = some a) : JOk K H' ρ' (ds, [(n, ds)]) (Itl K a) := by
  intro i H2 ρ2 S2 m p s st
  have g : getL S2 n = some ds := st (n, ds) (by simp)
  obtain ⟨b, vs, eb, eb2, sb, rb⟩ := s.list g ⟨a, rfl, pre_get p ea⟩
  cases eb
  refine ⟨fun e => ⟨vs, sb, ?_⟩, fun d hd => ?_⟩
  · show vs.length ≤ i
    rw [e, ← rb.length]; exact Nat.le_refl _
  · obtain ⟨v, ev, rv⟩ := rb.get hd
    refine ⟨⟨vs, v, sb, ev⟩, fun x H3 y => ?_⟩
    obtain ⟨rfl, y⟩ := y
    have := y vs sb
    rw [ev] at this; cases this
    exact ⟨s, Mono.refl, rv⟩
theorem jok_rng {K : PySem.W.Frag} {H' : Hp} {ρ' : List Addr} {lo : Int} {n : Nat} : JOk K H' ρ' (rngD lo n, []) (Itr lo n) := by
  intro i H2 ρ2 S2 m p s st
  refine ⟨fun e => ?_, fun d hd => ?_⟩
  · show n ≤ i
    rw [e, rngD_len]; exact Nat.le_refl _
  · obtain ⟨hi, rfl⟩ := rp_rng (K := K) (H := H2) (ρ := ρ2) hd
    refine ⟨hi, fun x H3 y => ?_⟩
    obtain ⟨rfl, rfl⟩ := y
    exact ⟨s, Mono.refl, rfl⟩
theorem jok_rev {K : PySem.W.Frag} {H' : Hp} {ρ' : List Addr} {n : Nat} {a : Addr} {ds : List D} (ea : ρ'[n]? = some a) : JOk K H' ρ' (ds.reverse, [(n, ds)]) (Itv K a ds.length) := by
  intro i H2 ρ2 S2 m p s st
  have g : getL S2 n = some ds := st (n, ds) (by simp)
  obtain ⟨b, vs, eb, eb2, sb, rb⟩ := s.list g ⟨a, rfl, pre_get p ea⟩
  cases eb
  refine ⟨fun e => ?_, fun d hd => ?_⟩
  · show ds.length ≤ i
    rw [e, List.length_reverse]; exact Nat.le_refl _
  · have hi : i < ds.length := by
      have := (List.getElem?_eq_some_iff.mp hd).1
      simpa using this
    have hd' : ds[ds.length - 1 - i]? = some d := by rw [← List.getElem?_reverse hi]; exact hd
    obtain ⟨v, ev, rv⟩ := rb.get hd'
    refine ⟨⟨hi, vs, v, sb, ev⟩, fun x H3 y => ?_⟩
    obtain ⟨rfl, y⟩ := y
    have := y vs sb
    rw [ev] at this; cases this
    exact ⟨s, Mono.refl, rv⟩

theorem pi_seq {it : Expr} {f : Ev → Sto → Option (List D × Sto)} {g : Ev → Sto → Option (D × Sto)} (hg : PE X it (LE X.K g)) (e : ∀ env S, f env S = bnd (g env S) fun x S1 => some ([x], S1)) : PI X tg it (LI X.K .seq f) := by
  refine (pi_any hg).weakC fun σ H R q => ?_
  obtain ⟨ρ, env, S, xs, S1, iw, hs, he, hf, hi, hq⟩ := q
  rw [e] at hf
  obtain ⟨x, S2, e, hf⟩ := bnd_inv hf
  cases hf
  refine LE.mk hs he e fun H1 ρ1 v mm p s1 he1 r => ?_
  cases x with
  | tup ds =>
    cases hi
    obtain ⟨a, vs, rfl, sa, ra⟩ := r
    exact ⟨a, rfl, .inr ⟨⟨vs, sa.1⟩, hq H1 ρ1 _ mm p s1 he1 (jok_tup sa.1 ra)⟩⟩
  | loc n =>
    have hi : (getL S1 n).map (fun ds => ((ds, [(n, ds)]) : List D × Watch)) = some iw := hi
    cases eg : getL S1 n with
    | none => rw [eg] at hi; cases hi
    | some ds =>
      rw [eg] at hi; cases hi
      obtain ⟨a, vs, rfl, ea, sa, ra⟩ := s1.list eg r
      exact ⟨a, rfl, .inl ⟨⟨vs, sa⟩, hq H1 ρ1 _ mm p s1 he1 (jok_lst ea)⟩⟩
  | _ => cases hi
theorem pi_rng1 {a : Expr} {p pos : Pos} {f : Ev → Sto → Option (List D × Sto)} (hg : Gl X "range") (hm : X.mg "range" = none) (ha : PA X [a] (LA X.K f)) (hst : starEach [a] X.env = [(false, eval a X.env)]) (hlen : ∀ env S xs S', f env S = some (xs, S') → xs.length = 1) :
    PI X tg (.Call (.Name "range" p) [a] [] pos) (LI X.K .rng f) := by
  refine (pi_range1 hg hm ha hst).weakC fun σ H R q => ?_
  obtain ⟨ρ, env, S, xs, S1, iw, hs, he, hf, hi, hq⟩ := q
  have hl := hlen _ _ _ _ hf
  match xs, hl with
  | [x], _ =>
    refine LA.mk hs he hf fun H1 ρ1 vs mm p s1 he1 r => ?_
    obtain ⟨v, r2, rfl, r1, rfl⟩ := r
    cases x with
    | int j =>
      cases r1
      have hi : (if smallI j then some ((rngD 0 j.toNat, []) : List D × Watch) else none) = some iw := hi
      split at hi
      · rename_i sm; cases hi
        exact ⟨_, rfl, sm.1, sm.2, hq H1 ρ1 _ mm p s1 he1 jok_rng⟩
      · cases hi
    | _ => cases hi
theorem pi_rng2 {a b : Expr} {p pos : Pos} {f : Ev → Sto → Option (List D × Sto)} (hg : Gl X "range") (hm : X.mg "range" = none) (ha : PA X [a, b] (LA X.K f)) (hst : starEach [a, b] X.env = [(false, eval a X.env), (false, eval b X.env)])
    (hst2 : starEach [b] X.env = [(false, eval b X.env)]) (hlen : ∀ env S xs S', f env S = some (xs, S') → xs.length = 2) :
    PI X tg (.Call (.Name "range" p) [a, b] [] pos) (LI X.K .rng f) := by
  refine (pi_range2 hg hm ha hst hst2).weakC fun σ H R q => ?_
  obtain ⟨ρ, env, S, xs, S1, iw, hs, he, hf, hi, hq⟩ := q
  have hl := hlen _ _ _ _ hf
  match xs, hl with
  | [x, y], _ =>
    refine LA.mk hs he hf fun H1 ρ1 vs mm p s1 he1 r => ?_
    obtain ⟨v, r2, rfl, r1, w, r3, rfl, r4, rfl⟩ := r
    cases x with
    | int i =>
      cases y with
      | int j =>
        cases r1; cases r4
        have hi : (if smallI i ∧ smallI j then some ((rngD i (j - i).toNat, []) : List D × Watch) else none) = some iw := hi
        split at hi
        · rename_i sm; cases hi
          exact ⟨_, _, rfl, ⟨sm.1.1, sm.1.2, sm.2.1, sm.2.2⟩, hq H1 ρ1 _ mm p s1 he1 jok_rng⟩
        · cases hi
      | _ => cases hi
    | _ => cases hi
theorem pi_rev {a : Expr} {p pos : Pos} {f : Ev → Sto → Option (List D × Sto)} (hg : Gl X "reversed") (hm : X.mg "reversed" = none) (ha : PA X [a] (LA X.K f)) (hst : starEach [a] X.env = [(false, eval a X.env)]) (hlen : ∀ env S xs S', f env S = some (xs, S') → xs.length = 1) :
    PI X tg (.Call (.Name "reversed" p) [a] [] pos) (LI X.K .rev f) := by
  refine (pi_reversed hg hm ha hst).weakC fun σ H R q => ?_
  obtain ⟨ρ, env, S, xs, S1, iw, hs, he, hf, hi, hq⟩ := q
  have hl := hlen _ _ _ _ hf
  match xs, hl with
  | [x], _ =>
    refine LA.mk hs he hf fun H1 ρ1 vs mm p s1 he1 r => ?_
    obtain ⟨v, r2, rfl, r1, rfl⟩ := r
    cases x with
    | loc n =>
      have hi : (getL S1 n).map (fun ds => ((ds.reverse, [(n, ds)]) : List D × Watch)) = some iw := hi
      cases eg : getL S1 n with
      | none => rw [eg] at hi; cases hi
      | some ds =>
        rw [eg] at hi; cases hi
        obtain ⟨a, vs, rfl, ea, sa, ra⟩ := s1.list eg r1
        exact ⟨a, vs, rfl, sa, by rw [← ra.length]; exact hq H1 ρ1 _ mm p s1 he1 (jok_rev ea)⟩
    | _ => cases hi
theorem isTupE_ok {e : Expr} (h : isTupE e = true) : ∃ es n p, e = .Tuple es n p := by
  cases e <;> first | exact ⟨_, _, _, rfl⟩ | cases h
theorem pi_enum' {a : Expr} {p pos : Pos} {f : Ev → Sto → Option (List D × Sto)} (ht : isTupE tg = true) (hg : Gl X "enumerate") (hm : X.mg "enumerate" = none) (ha : PA X [a] (LA X.K f)) (hst : starEach [a] X.env = [(false, eval a X.env)]) (hlen : ∀ env S xs S', f env S = some (xs, S') → xs.length = 1) :
    PI X tg (.Call (.Name "enumerate" p) [a] [] pos) (LI X.K .enum f) := by
  obtain ⟨es, n, tp, rfl⟩ := isTupE_ok ht
  refine (pi_enumT (decide (Sct.md = .pln)) hg hm ha hst).weakC fun σ H R q => ?_
  obtain ⟨ρ, env, S, xs, S1, iw, hs, he, hf, hi, hq⟩ := q
  have hl := hlen _ _ _ _ hf
  match xs, hl with
  | [x], _ =>
    refine LA.mk hs he hf fun H1 ρ1 vs mm p s1 he1 r => ?_
    obtain ⟨v, r2, rfl, r1, rfl⟩ := r
    cases x with
    | tup ds =>
      cases hi
      obtain ⟨a, vs, rfl, sa, ra⟩ := r1
      exact ⟨a, vs, rfl, sa.1, hq H1 ρ1 _ mm p s1 he1 (jok_enum sa.1 ra)⟩
    | _ => cases hi
theorem stars1 {a : Expr} {env : Env} (h : starEach [a] env = [a].map fun e => (false, eval e env)) : starEach [a] env = [(false, eval a env)] := h
/-- by the arguments' readings -/
theorem pi_of {m : MC} {c : Cfg} {kk : Nat} {k : IK} {it : Expr} {es' : List Expr} {f : Ev → Sto → Option (List D × Sto)} (G : Good m c kk X) (hx : itX tg X.env.scope k it = some es') (ha : PA X es' (LA X.K f)) (h1 : ∀ e', es' = [e'] → ∃ g, PE X e' (LE X.K g) ∧ ∀ env S, f env S = bnd (g env S) fun x S1 => some ([x], S1))
    (hst : starEach es' X.env = es'.map (fun e => (false, eval e X.env))) (hst2 : ∀ a b, es' = [a, b] → starEach [b] X.env = [(false, eval b X.env)]) (hlen : ∀ env S xs S', f env S = some (xs, S') → xs.length = es'.length) : PI X tg it (LI X.K k f) := by
  cases k with
  | seq =>
    obtain rfl := (Option.some.inj hx)
    obtain ⟨g, hg, e⟩ := h1 it rfl
    exact pi_seq hg e
  | rng =>
    unfold itX at hx
    split at hx
    · cases ‹IK.rng = IK.enum›
    · cases ‹IK.rng = IK.seq›
    · rename_i x p es pos _
      split at hx
      · rename_i hc
        obtain rfl := (Option.some.inj hx)
        simp only [Bool.and_eq_true, decide_eq_true_eq, Bool.or_eq_true, beq_iff_eq] at hc
        obtain ⟨⟨rfl, hg⟩, hl⟩ := hc
        have hgl : Gl X (Str.ofString "range") := gl_of hg
        have hm : X.mg (Str.ofString "range") = none := G.mo.bt "range" (by decide)
        rcases hl with hl | hl
        · match es, hl with
          | [a], _ => exact pi_rng1 hgl hm ha hst hlen
        · match es, hl with
          | [a, b], _ => exact pi_rng2 hgl hm ha hst (hst2 a b rfl) hlen
      · cases hx
    · cases ‹IK.rng = IK.rev›
    · cases hx
  | rev =>
    unfold itX at hx
    split at hx
    · cases ‹IK.rev = IK.enum›
    · cases ‹IK.rev = IK.seq›
    · cases ‹IK.rev = IK.rng›
    · rename_i x p e pos _
      split at hx
      · rename_i hc
        obtain rfl := (Option.some.inj hx)
        simp only [Bool.and_eq_true, decide_eq_true_eq] at hc
        obtain ⟨rfl, hg⟩ := hc
        have hgl : Gl X (Str.ofString "reversed") := gl_of hg
        have hm : X.mg (Str.ofString "reversed") = none := G.mo.bt "reversed" (by decide)
        exact pi_rev hgl hm ha hst hlen
      · cases hx
    · cases hx
  | enum =>
    unfold itX at hx
    split at hx
    · rename_i x p e pos _
      split at hx
      · rename_i hc
        obtain rfl := (Option.some.inj hx)
        simp only [Bool.and_eq_true, decide_eq_true_eq] at hc
        obtain ⟨⟨rfl, hg⟩, hl⟩ := hc
        have hgl : Gl X (Str.ofString "enumerate") := gl_of hg
        have hm : X.mg (Str.ofString "enumerate") = none := G.mo.bt "enumerate" (by decide)
        exact pi_enum' hl hgl hm ha hst hlen
      · cases hx
    · cases ‹IK.enum = IK.seq›
    · cases ‹IK.enum = IK.rng›
    · cases ‹IK.enum = IK.rev›
    · cases hx
  | zip => cases hx
end
end Cs

set_option Elab.async false
set_option linter.all false
set_option maxRecDepth 100000
namespace Cs
open PySem PySem.Spec PyProof.Rows L2
variable [Sct]

section
variable {X : Cx} {m : MC} {c : Cfg} {kk : Nat}
/-- both readings -/
def Both (X : Cx) (e' : Expr) (f : Ev → Sto → Option (D × Sto)) : Prop := PE X e' (LE X.K f) ∧ PT X e' (LTe X.K f)

theorem b_var {i : Nat} {x : Str} {p : Pos} (G : Good m c kk X) (h : mE m X.env.scope (.var i) (.Name x p) = true) : Both X (.Name x p) (evE c (.var i)) := by
  rw [mE, Bool.and_eq_true, Bool.and_eq_true] at h
  obtain ⟨⟨h1, h2⟩, h3⟩ := h
  have pe : PE X (.Name x p) (LE X.K (evE c (.var i))) := by
    refine (pe_var (i := i) (by rw [G.N]; exact mName_ok h1) (isVis_ok h2) (nd_ok h3).1 (nd_ok h3).2).weakC fun σ H Q q => ?_
    obtain ⟨ρ, env, S, d, S', hs, he, hf, hq⟩ := q
    simp only [evE, evVar] at hf
    split at hf
    · rename_i d' e
      cases hf
      obtain ⟨v, ev, r⟩ := he.at_ i d e
      exact ⟨v, ev, hq.same hs r⟩
    · cases hf
  exact ⟨pe, pt_of pe fun _ => rfl⟩
theorem b_cn {k : Cn} {x : Const} {n : Nat} {p : Pos} (h : cnOk k x = true) : Both X (.Constant x n p) (evE c (.cn k)) := by
  have fin : ∀ {v : V}, (∀ (K : PySem.W.Frag) (H : Hp) (ρ : List Addr), Rp K H ρ k.d v) → PE X (.Constant x n p) (tC v) → Both X (.Constant x n p) (evE c (.cn k)) := by
    intro v r h
    have pe : PE X (.Constant x n p) (LE X.K (evE c (.cn k))) := h.weakC fun σ H Q q => by
      obtain ⟨ρ, env, S, d, S', hs, he, hf, hq⟩ := q
      rw [evE] at hf
      cases hf
      exact hq.same hs (r _ _ _)
    exact ⟨pe, pt_of pe fun _ => rfl⟩
  unfold cnOk at h
  split at h
  · exact fin (fun _ _ _ => rfl) pe_non
  · have e := of_decide_eq_true (by simpa using h : decide _ = true)
    subst e
    exact fin (fun _ _ _ => rfl) pe_bl
  · have e := eq_of_beq h
    subst e
    exact fin (fun _ _ _ => rfl) pe_int
  · have e := of_decide_eq_true h
    subst e
    exact fin (fun _ _ _ => rfl) pe_str
  · cases h
theorem b_glb {g : String} {x : Str} {p : Pos} (G : Good m c kk X) (h : mE m X.env.scope (.glb g) (.Name x p) = true) : Both X (.Name x p) (evE c (.glb g)) := by
  simp only [mE, Bool.and_eq_true, decide_eq_true_eq] at h
  obtain ⟨⟨⟨rfl, h2⟩, h3⟩, h4⟩ := h
  obtain ⟨u, v, d, e1, r1, e2, r2⟩ := G.mo.gl g (by simpa using h2)
  have pe : PE X (.Name (Str.ofString g) p) (LE X.K (evE c (.glb g))) := (pe_glob (gl_of h3) e1 r1 (nd_ok h4).1).weakC fun σ H Q q => by
    obtain ⟨ρ, env, S, d', S', hs, he, hf, hq⟩ := q
    rw [evE, e2] at hf
    cases hf
    exact hq.same hs (r2 _ _)
  exact ⟨pe, pt_of pe fun _ => rfl⟩
theorem b_bin {op : Bop} {o : Operator} {a b : E} {a' b' : Expr} {p : Pos} (ho : bopOk op o = true) (ha : PE X a' (LE X.K (evE c a))) (hb : PE X b' (LE X.K (evE c b))) : Both X (.BinOp a' o b' p) (evE c (.bin op a b)) := by
  have ho' : o = bop_of op := by
    cases op <;> cases o <;> first | rfl | cases ho
  subst ho'
  have pe : PE X (.BinOp a' (bop_of op) b' p) (LE X.K (evE c (.bin op a b))) := (pe_op (op_bop op) ha hb).weakC fun σ H Q q => by
    obtain ⟨ρ, env, S, d, S', hs, he, hf, hq⟩ := q
    rw [evE] at hf
    obtain ⟨x, S1, e1, hf⟩ := bnd_inv hf
    obtain ⟨y, S2, e2, hf⟩ := bnd_inv hf
    exact LE.mk hs he e1 fun H1 ρ1 v mm p s1 he1 r1 => LE.mk s1 he1 e2 fun H2 ρ2 w m2 p2 s2 he2 r2 => ⟨ρ2, S2, x, y, d, S', s2, r1.mono m2 p2 _ _, r2, hf, (hq.mono mm p).mono m2 p2⟩
  exact ⟨pe, pt_of pe fun _ => rfl⟩
theorem b_neg {a : E} {a' : Expr} {p : Pos} (ha : PE X a' (LE X.K (evE c a))) : Both X (.UnaryOp .USub a' p) (evE c (.neg a)) := by
  have pe : PE X (.UnaryOp .USub a' p) (LE X.K (evE c (.neg a))) := (pe_un un_neg ha).weakC fun σ H Q q => by
    obtain ⟨ρ, env, S, d, S', hs, he, hf, hq⟩ := q
    rw [evE] at hf
    obtain ⟨x, S1, e1, hf⟩ := bnd_inv hf
    refine LE.mk hs he e1 fun H1 ρ1 v mm p s1 he1 r1 => ?_
    cases x with
    | int i =>
      cases hf
      cases r1
      exact ⟨i, rfl, (hq.mono mm p).same s1 rfl⟩
    | _ => cases hf
  exact ⟨pe, pt_of pe fun _ => rfl⟩
theorem copL_bl {op : Cop} {x y d : D} {S S' : Sto} (h : copL op x y S = some (d, S')) : ∃ k, d = .bl k := by
  cases op with
  | eq => simp only [copL] at h; cases e : copEq x y S <;> rw [e] at h <;> cases h; exact ⟨_, rfl⟩
  | ne => simp only [copL] at h; cases e : copEq x y S <;> rw [e] at h <;> cases h; exact ⟨_, rfl⟩
  | _ => simp only [copL] at h; (repeat' split at h) <;> first | cases h; exact ⟨_, rfl⟩ | cases h
theorem cop_bl {op : Cop} {x y d : D} {S S' : Sto} (h : cop op x y S = some (d, S')) : ∃ k, d = .bl k := by
  unfold cop at h
  split at h
  · cases h; exact ⟨_, rfl⟩
  · cases h; exact ⟨_, rfl⟩
  · exact copL_bl h
theorem b_cmp {op : Cop} {o : CmpOp} {a b : E} {a' b' : Expr} {p : Pos} (G : Good m c kk X) (ho : copOk op o = true) (hm : behindInMarks o b' = false) (ha : PE X a' (LE X.K (evE c a))) (hb : PE X b' (LE X.K (evE c b))) : Both X (.Compare a' [o] [b'] p) (evE c (.cmp op a b)) := by
  have ho' : o = cop_of op := by cases op <;> cases o <;> first | rfl | cases ho
  subst ho'
  have hu : X.A.units + 65 < cLine := by have := G.room.un; omega
  have w : ∀ σ H Q, LE X.K (evE c (.cmp op a b)) σ H Q → tOp (LB X.K (cop op)) (LE X.K (evE c a)) (LE X.K (evE c b)) σ H Q := fun σ H Q q => by
    obtain ⟨ρ, env, S, d, S', hs, he, hf, hq⟩ := q
    rw [evE] at hf
    obtain ⟨x, S1, e1, hf⟩ := bnd_inv hf
    obtain ⟨y, S2, e2, hf⟩ := bnd_inv hf
    exact LE.mk hs he e1 fun H1 ρ1 v mm p s1 he1 r1 => LE.mk s1 he1 e2 fun H2 ρ2 w m2 p2 s2 he2 r2 => ⟨ρ2, S2, x, y, d, S', s2, r1.mono m2 p2 _ _, r2, hf, (hq.mono mm p).mono m2 p2⟩
  refine ⟨(pe_cmpR (op_cop hu op) ha hb hm).weakC w, (pt_cmpR (op_cop hu op) ha hb hm).weakC fun σ H Q q => w _ _ _ (q.bl ?_)⟩
  intro env S d S' hf
  rw [evE] at hf
  obtain ⟨x, S1, e1, hf⟩ := bnd_inv hf
  obtain ⟨y, S2, e2, hf⟩ := bnd_inv hf
  exact cop_bl hf
theorem isN_rp {K : PySem.W.Frag} {H : Hp} {ρ : List Addr} {d : D} {v : V} (r : Rp K H ρ d v) : decide (v = .non) = isN d := by
  cases d with
  | tup ds => obtain ⟨a, vs, rfl, _⟩ := r; rfl
  | loc n => obtain ⟨a, rfl, _⟩ := r; rfl
  | _ => cases r; rfl
theorem b_isN {a : E} {a' : Expr} {n : Nat} {p p2 : Pos} (ha : PE X a' (LE X.K (evE c a))) : Both X (.Compare a' [.Is] [.Constant .none n p] p2) (evE c (.isN a)) := by
  have w : ∀ σ H Q, LE X.K (evE c (.isN a)) σ H Q → tOp (fun x y H Q => y = .non ∧ Q (.bl (decide (x = .non))) H) (LE X.K (evE c a)) (tC .non) σ H Q := fun σ H Q q => by
    obtain ⟨ρ, env, S, d, S', hs, he, hf, hq⟩ := q
    rw [evE] at hf
    obtain ⟨x, S1, e1, hf⟩ := bnd_inv hf
    cases hf
    exact LE.mk hs he e1 fun H1 ρ1 v mm p s1 he1 r1 => ⟨rfl, by rw [isN_rp r1]; exact (hq.mono mm p).same s1 rfl⟩
  refine ⟨(pe_cmpR op_isN ha pe_non (nomark _)).weakC w, (pt_cmpR op_isN ha pe_non (nomark _)).weakC fun σ H Q q => w _ _ _ (q.bl ?_)⟩
  intro env S d S' hf
  rw [evE] at hf
  obtain ⟨x, S1, e1, hf⟩ := bnd_inv hf
  cases hf
  exact ⟨_, rfl⟩
theorem b_notN {a : E} {a' : Expr} {n : Nat} {p p2 : Pos} (ha : PE X a' (LE X.K (evE c a))) : Both X (.Compare a' [.IsNot] [.Constant .none n p] p2) (evE c (.notN a)) := by
  have w : ∀ σ H Q, LE X.K (evE c (.notN a)) σ H Q → tOp (fun x y H Q => y = .non ∧ Q (.bl (!decide (x = .non))) H) (LE X.K (evE c a)) (tC .non) σ H Q := fun σ H Q q => by
    obtain ⟨ρ, env, S, d, S', hs, he, hf, hq⟩ := q
    rw [evE] at hf
    obtain ⟨x, S1, e1, hf⟩ := bnd_inv hf
    cases hf
    exact LE.mk hs he e1 fun H1 ρ1 v mm p s1 he1 r1 => ⟨rfl, by rw [isN_rp r1]; exact (hq.mono mm p).same s1 rfl⟩
  refine ⟨(pe_cmpR op_notN ha pe_non (nomark _)).weakC w, (pt_cmpR op_notN ha pe_non (nomark _)).weakC fun σ H Q q => w _ _ _ (q.bl ?_)⟩
  intro env S d S' hf
  rw [evE] at hf
  obtain ⟨x, S1, e1, hf⟩ := bnd_inv hf
  cases hf
  exact ⟨_, rfl⟩
theorem b_isB {a : E} {b : Bool} {a' : Expr} {n : Nat} {p p2 : Pos} (ha : PE X a' (LE X.K (evE c a))) : Both X (.Compare a' [.Is] [.Constant (.bool b) n p] p2) (evE c (.isB a b)) := by
  have w : ∀ σ H Q, LE X.K (evE c (.isB a b)) σ H Q → tOp rIsB (LE X.K (evE c a)) (tC (.bl b)) σ H Q := fun σ H Q q => by
    obtain ⟨ρ, env, S, d, S', hs, he, hf, hq⟩ := q
    rw [evE] at hf
    obtain ⟨x, S1, e1, hf⟩ := bnd_inv hf
    refine LE.mk hs he e1 fun H1 ρ1 v mm p s1 he1 r1 => ?_
    cases x with
    | bl k =>
      cases hf
      cases r1
      exact ⟨k, b, rfl, rfl, (hq.mono mm p).same s1 rfl⟩
    | _ => cases hf
  refine ⟨(pe_cmpR op_isBl ha pe_bl (nomark _)).weakC w, (pt_cmpR op_isBl ha pe_bl (nomark _)).weakC fun σ H Q q => w _ _ _ (q.bl ?_)⟩
  intro env S d S' hf
  rw [evE] at hf
  obtain ⟨x, S1, e1, hf⟩ := bnd_inv hf
  cases x with
  | bl k => cases hf; exact ⟨_, rfl⟩
  | _ => cases hf
theorem boot_isi : ∀ T ∈ isiTys, bootBuiltins (Str.ofString T) = some (.type T) ∧ Str.ofString T ≠ "__name__" := by decide +kernel
theorem b_isi {a : E} {T : String} {a' : Expr} {p p2 p3 : Pos} (G : Good m c kk X) (hT : T ∈ isiTys) (g1 : isGl X.env.scope (Str.ofString "isinstance") = true) (g2 : isGl X.env.scope (Str.ofString T) = true) (n2 : nd (Str.ofString T) = true) (ha : PE X a' (LE X.K (evE c a)))
    (hst : starEach [a', .Name (Str.ofString T) p2] X.env = (false, eval a' X.env) :: starEach [.Name (Str.ofString T) p2] X.env) : Both X (.Call (.Name (Str.ofString "isinstance") p) [a', .Name (Str.ofString T) p2] [] p3) (evE c (.isi a T)) := by
  have hm : X.mg (Str.ofString "isinstance") = none := G.mo.bt "isinstance" (by decide)
  have hm2 : X.mg (Str.ofString T) = none := G.mo.bt T (List.mem_append_right _ hT)
  obtain ⟨b1, b2⟩ := boot_isi T hT
  have pc : PE X (.Name (Str.ofString T) p2) (tC (.ty T)) := pe_bltn (gl_of g2) hm2 b1 rfl b2 (nd_ok n2).1
  have pe : PE X (.Call (.Name (Str.ofString "isinstance") p) [a', .Name (Str.ofString T) p2] [] p3) (LE X.K (evE c (.isi a T))) := (pe_callB call_isi (gl_of g1) hm (by decide +kernel) (pa_cons ha (pa_cons pc pa_nil) hst) (by decide) (by decide) hst rfl).weakC fun σ H Q q => by
    obtain ⟨ρ, env, S, d, S', hs, he, hf, hq⟩ := q
    rw [evE] at hf
    obtain ⟨x, S1, e1, hf⟩ := bnd_inv hf
    split at hf
    · rename_i hk
      cases hf
      exact LE.mk hs he e1 fun H1 ρ1 v mm p s1 he1 r1 => ⟨v, .ty T, .type (tyN x), .type T, _, rfl, .ty T, ty_of s1 hk r1, kit_isi hT, (hq.mono mm p).same s1 rfl⟩
    · cases hf
  exact ⟨pe, pt_of pe fun _ => rfl⟩
theorem b_nt {a : E} {a' : Expr} {p : Pos} (ha : Both X a' (evE c a)) : Both X (.UnaryOp .Not a' p) (evE c (.nt a)) := by
  refine ⟨(pe_notT ha.1).weakC fun σ H Q q => ?_, (pt_not ha.2).weakC fun σ H Q q => ?_⟩
  · obtain ⟨ρ, env, S, d, S', hs, he, hf, hq⟩ := q
    rw [evE] at hf
    obtain ⟨x, S1, e1, hf⟩ := bnd_inv hf
    cases et : truth S1 x with
    | none => rw [et] at hf; cases hf
    | some k =>
      rw [et] at hf; cases hf
      exact LE.mk hs he e1 fun H1 ρ1 v mm p s1 he1 r1 => ⟨k, tru_of s1 r1 et, (hq.mono mm p).same s1 rfl⟩
  · obtain ⟨ρ, env, S, k, S', hs, he, hf, hq⟩ := q
    obtain ⟨d, hf, ht⟩ := tst_inv hf
    rw [evE] at hf
    obtain ⟨x, S1, e1, hf⟩ := bnd_inv hf
    cases et : truth S1 x with
    | none => rw [et] at hf; cases hf
    | some k' =>
      rw [et] at hf; cases hf
      cases ht
      exact LT.mk (x := k') (S1 := S') hs he (by show tst (evE c a env S) = some (k', S'); rw [e1]; show (truth S' x).map (fun k => (k, S')) = _; rw [et]; rfl) fun H1 ρ1 mm p s1 he1 => hq H1 ρ1 mm p s1
theorem and_inv {c : Cfg} {a b : E} {env : Ev} {S S' : Sto} {d : D} (h : evE c (.and a b) env S = some (d, S')) : ∃ x S1 k, evE c a env S = some (x, S1) ∧ truth S1 x = some k ∧ (if k = true then evE c b env S1 = some (d, S') else (d = x ∧ S' = S1)) := by
  rw [evE] at h
  obtain ⟨x, S1, e1, h⟩ := bnd_inv h
  obtain ⟨k, S2, e2, h⟩ := bnd_inv h
  cases et : truth S1 x with
  | none => rw [et] at e2; cases e2
  | some k' =>
    rw [et] at e2; cases e2
    refine ⟨x, S1, k, e1, et, ?_⟩
    cases k with
    | true => exact h
    | false => cases h; exact ⟨rfl, rfl⟩
theorem or_inv {c : Cfg} {a b : E} {env : Ev} {S S' : Sto} {d : D} (h : evE c (.or a b) env S = some (d, S')) : ∃ x S1 k, evE c a env S = some (x, S1) ∧ truth S1 x = some k ∧ (if k = true then (d = x ∧ S' = S1) else evE c b env S1 = some (d, S')) := by
  rw [evE] at h
  obtain ⟨x, S1, e1, h⟩ := bnd_inv h
  obtain ⟨k, S2, e2, h⟩ := bnd_inv h
  cases et : truth S1 x with
  | none => rw [et] at e2; cases e2
  | some k' =>
    rw [et] at e2; cases e2
    refine ⟨x, S1, k, e1, et, ?_⟩
    cases k with
    | true => cases h; exact ⟨rfl, rfl⟩
    | false => exact h
theorem tst_mk {m : Option (D × Sto)} {d : D} {k : Bool} {S : Sto} (h : m = some (d, S)) (t : truth S d = some k) : tst m = some (k, S) := by
  rw [h]; show (truth S d).map (fun k => (k, S)) = _; rw [t]; rfl
theorem b_and {a b : E} {a' b' : Expr} {rest : List Expr} {p : Pos} (ha : Both X a' (evE c a)) (hb1 : PE X (.BoolOp .And (b' :: rest) p) (LE X.K (evE c b))) (hb2 : PW X (.BoolOp .And (b' :: rest) p) (LTe X.K (evE c b))) : Both X (.BoolOp .And (a' :: b' :: rest) p) (evE c (.and a b)) := by
  refine ⟨(pe_andT ha.1 hb1).weakC fun σ H Q q => ?_, (PW.pt (pw_and ha.2 hb2)).weakC fun σ H Q q => ?_⟩
  · obtain ⟨ρ, env, S, d, S', hs, he, hf, hq⟩ := q
    obtain ⟨x, S1, k, e1, et, h⟩ := and_inv hf
    refine LE.mk hs he e1 fun H1 ρ1 v mm p s1 he1 r1 => ⟨k, tru_of s1 r1 et, ?_⟩
    cases k with
    | true => exact ⟨ρ1, env, S1, d, S', s1, he1, h, hq.mono mm p⟩
    | false =>
      obtain ⟨rfl, rfl⟩ := h
      exact (hq.mono mm p).same s1 r1
  · obtain ⟨ρ, env, S, k, S', hs, he, hf, hq⟩ := q
    obtain ⟨d, hf, ht⟩ := tst_inv hf
    obtain ⟨x, S1, k', e1, et, h⟩ := and_inv hf
    refine LT.mk hs he (tst_mk e1 et) fun H1 ρ1 mm p s1 he1 => ?_
    cases k' with
    | true => exact ⟨ρ1, env, S1, k, S', s1, he1, tst_mk h ht, fun H' ρ' m' p' s' => hq H' ρ' (mm.trans m') (p.trans p') s'⟩
    | false =>
      obtain ⟨rfl, rfl⟩ := h
      rw [et] at ht; cases ht
      exact hq H1 ρ1 mm p s1
theorem b_or {a b : E} {a' b' : Expr} {rest : List Expr} {p : Pos} (ha : Both X a' (evE c a)) (hb1 : PE X (.BoolOp .Or (b' :: rest) p) (LE X.K (evE c b))) (hb2 : PW X (.BoolOp .Or (b' :: rest) p) (LTe X.K (evE c b))) : Both X (.BoolOp .Or (a' :: b' :: rest) p) (evE c (.or a b)) := by
  refine ⟨(pe_orT ha.1 hb1).weakC fun σ H Q q => ?_, (PW.pt (pw_or ha.2 hb2)).weakC fun σ H Q q => ?_⟩
  · obtain ⟨ρ, env, S, d, S', hs, he, hf, hq⟩ := q
    obtain ⟨x, S1, k, e1, et, h⟩ := or_inv hf
    refine LE.mk hs he e1 fun H1 ρ1 v mm p s1 he1 r1 => ⟨k, tru_of s1 r1 et, ?_⟩
    cases k with
    | false => exact ⟨ρ1, env, S1, d, S', s1, he1, h, hq.mono mm p⟩
    | true =>
      obtain ⟨rfl, rfl⟩ := h
      exact (hq.mono mm p).same s1 r1
  · obtain ⟨ρ, env, S, k, S', hs, he, hf, hq⟩ := q
    obtain ⟨d, hf, ht⟩ := tst_inv hf
    obtain ⟨x, S1, k', e1, et, h⟩ := or_inv hf
    refine LT.mk hs he (tst_mk e1 et) fun H1 ρ1 mm p s1 he1 => ?_
    cases k' with
    | false => exact ⟨ρ1, env, S1, k, S', s1, he1, tst_mk h ht, fun H' ρ' m' p' s' => hq H' ρ' (mm.trans m') (p.trans p') s'⟩
    | true =>
      obtain ⟨rfl, rfl⟩ := h
      rw [et] at ht; cases ht
      exact hq H1 ρ1 mm p s1
theorem ifT_inv {α : Type} {mm : Option (Bool × Sto)} {f g : Sto → Option (α × Sto)} {r : α × Sto} (h : ifT mm f g = some r) : ∃ k S, mm = some (k, S) ∧ (if k = true then f S else g S) = some r := bnd_inv h
theorem b_ife {t a b : E} {t' a' b' : Expr} {p : Pos} (ht : PT X t' (LTe X.K (evE c t))) (ha : Both X a' (evE c a)) (hb : Both X b' (evE c b)) : Both X (.IfExp t' a' b' p) (evE c (.ife t a b)) := by
  refine ⟨(pe_ifExp ht ha.1 hb.1).weakC fun σ H Q q => ?_, ⟨fun pins s σ H Q I q => ?_⟩⟩
  · obtain ⟨ρ, env, S, d, S', hs, he, hf, hq⟩ := q
    rw [evE] at hf
    obtain ⟨k, S1, e1, h⟩ := ifT_inv hf
    refine LT.mk hs he e1 fun H1 ρ1 mm p s1 he1 => ?_
    cases k with
    | true => exact ⟨ρ1, env, S1, d, S', s1, he1, h, hq.mono mm p⟩
    | false => exact ⟨ρ1, env, S1, d, S', s1, he1, h, hq.mono mm p⟩
  · obtain ⟨ρ, env, S, k, S', hs, he, hf, hq⟩ := q
    obtain ⟨d, hf, htr⟩ := tst_inv hf
    rw [evE] at hf
    obtain ⟨k', S1, e1, h⟩ := ifT_inv hf
    have ht' := ht.run pins s σ H (fun d H1 => if d = true then LTe X.K (evE c a) σ H1 Q else LTe X.K (evE c b) σ H1 Q) I (LT.mk hs he e1 fun H1 ρ1 mm p s1 he1 => by
      cases k' with
      | true => exact ⟨ρ1, env, S1, k, S', s1, he1, tst_mk h htr, fun H' ρ' m' p' s' => hq H' ρ' (mm.trans m') (p.trans p') s'⟩
      | false => exact ⟨ρ1, env, S1, k, S', s1, he1, tst_mk h htr, fun H' ρ' m' p' s' => hq H' ρ' (mm.trans m') (p.trans p') s'⟩)
    show wpAny (model X.prog X.w) X.A (do if ← isTrue t' X.env (eval t' X.env) then isTrue a' X.env (eval a' X.env) else isTrue b' X.env (eval b' X.env)) (TP X pins σ Q) X.xe s
    refine wpAny_bind (thn ht' fun d s1 ⟨H1, I1, q1⟩ => ?_)
    cases d with
    | true => exact ha.2.run pins s1 σ H1 Q I1 q1
    | false => exact hb.2.run pins s1 σ H1 Q I1 q1
theorem b_tup {es : List E} {es' : List Expr} {n : Nat} {p : Pos} (ha : PA X es' (LA X.K (evEs c es))) (hl : ∀ env S xs S', evEs c es env S = some (xs, S') → xs.length = es.length) (hn : es.length ≤ 1000) : Both X (.Tuple es' n p) (evE c (.tup es)) := by
  have pe : PE X (.Tuple es' n p) (LE X.K (evE c (.tup es))) := (pe_tupV ha).weakC fun σ H Q q => by
    obtain ⟨ρ, env, S, d, S', hs, he, hf, hq⟩ := q
    rw [evE] at hf
    obtain ⟨xs, S1, e1, hf⟩ := bnd_inv hf
    cases hf
    refine LA.mk hs he e1 fun H1 ρ1 vs mm p s1 he1 r1 => ⟨?_, (hq.mono mm p).newT s1 r1⟩
    rw [← r1.length, hl _ _ _ _ e1]
    exact Nat.le_of_lt (Nat.lt_of_le_of_lt hn (by decide))
  exact ⟨pe, pt_of pe fun _ => rfl⟩
theorem b_lst {es : List E} {es' : List Expr} {p : Pos} (ha : PA X es' (LA X.K (evEs c es))) (hl : ∀ env S xs S', evEs c es env S = some (xs, S') → xs.length = es.length) (hn : es.length ≤ 1000) : Both X (.List es' p) (evE c (.lst es)) := by
  have pe : PE X (.List es' p) (LE X.K (evE c (.lst es))) := (pe_lst ha).weakC fun σ H Q q => by
    obtain ⟨ρ, env, S, d, S', hs, he, hf, hq⟩ := q
    rw [evE] at hf
    obtain ⟨xs, S1, e1, hf⟩ := bnd_inv hf
    cases hf
    refine LA.mk hs he e1 fun H1 ρ1 vs mm p s1 he1 r1 => ⟨?_, fun a hn => (hq.mono mm p).newL s1 r1 hn⟩
    rw [← r1.length, hl _ _ _ _ e1]
    exact Nat.le_of_lt (Nat.lt_of_le_of_lt hn (by decide))
  exact ⟨pe, pt_of pe fun _ => rfl⟩
theorem b_dnew {p : Pos} : Both X (.Dict [] [] p) (evE c .dnew) := by
  have pe : PE X (.Dict [] [] p) (LE X.K (evE c .dnew)) := pe_dnewK.weakC fun σ H Q q => by
    obtain ⟨ρ, env, S, d, S', hs, he, hf, hq⟩ := q
    rw [evE] at hf
    cases hf
    exact fun a hn => hq _ (ρ ++ [a]) _ (Mono.new hn) ⟨[a], rfl⟩ (hs.newD (kvs := []) (vs := []) hn rfl rfl) ⟨a, rfl, by rw [← hs.len]; simp⟩
  exact ⟨pe, pt_of pe fun _ => rfl⟩
theorem b_idx (G : Good m c kk X) {a i : E} {a' i' : Expr} {p : Pos} (ha : PE X a' (LE X.K (evE c a))) (hi : PE X i' (LE X.K (evE c i))) (hp : PlainIx i') : Both X (.Subscript a' i' p) (evE c (.idx a i)) := by
  have pe : PE X (.Subscript a' i' p) (LE X.K (evE c (.idx a i))) := (pe_ix (ix_iop (by have := G.room.un; omega)) ha hi hp).weakC fun σ H Q q => by
    obtain ⟨ρ, env, S, d, S', hs, he, hf, hq⟩ := q
    rw [evE] at hf
    obtain ⟨x, S1, e1, hf⟩ := bnd_inv hf
    obtain ⟨y, S2, e2, hf⟩ := bnd_inv hf
    exact LE.mk hs he e1 fun H1 ρ1 v mm p s1 he1 r1 => LE.mk s1 he1 e2 fun H2 ρ2 w m2 p2 s2 he2 r2 => ⟨ρ2, S2, x, y, d, S', s2, r1.mono m2 p2 _ _, r2, hf, (hq.mono mm p).mono m2 p2⟩
  exact ⟨pe, pt_of pe fun _ => rfl⟩
/-- a slice's bound -/
def LO (K : PySem.W.Frag) (e : E) (f : Ev → Sto → Option (D × Sto)) : TO := fun σ H Q => ∃ ρ env S d o S', Sr K H ρ S ∧ EnvR K H ρ env σ ∧ f env S = some (d, S') ∧ bndE e d = some o ∧ ∀ H' ρ', Mono H H' → ρ <+: ρ' → Sr K H' ρ' S' → Q o H'
theorem po_of {e : E} {o : Option Expr} (h : match o with | none => isNonE e = true | some l => PE X l (LE X.K (evE c e)) ∧ isNonE e = false) : PO X o (LO X.K e (evE c e)) := by
  cases o with
  | none =>
    refine ⟨fun pins s σ H Q I q => po_none.run pins s σ H Q I ?_⟩
    obtain ⟨ρ, env, S, d, o, S', hs, he, hf, hb, hq⟩ := q
    simp only at h
    unfold bndE at hb
    rw [if_pos h] at hb
    cases hb
    unfold isNonE at h
    split at h
    · rw [evE] at hf; cases hf
      exact hq H ρ Mono.refl (List.prefix_refl _) hs
    · cases h
  | some l =>
    refine ⟨fun pins s σ H Q I q => (po_some h.1).run pins s σ H Q I ?_⟩
    obtain ⟨ρ, env, S, d, o, S', hs, he, hf, hb, hq⟩ := q
    unfold bndE at hb
    rw [if_neg (by rw [h.2]; decide)] at hb
    refine LE.mk hs he hf fun H1 ρ1 v mm p s1 he1 r1 => ?_
    cases d with
    | int i => cases hb; cases r1; exact ⟨i, rfl, hq H1 ρ1 mm p s1⟩
    | _ => cases hb
theorem b_slc {a lo hi : E} {a' : Expr} {l' h' : Option Expr} {p p2 : Pos} (ha : PE X a' (LE X.K (evE c a))) (hl : PO X l' (LO X.K lo (evE c lo))) (hh : PO X h' (LO X.K hi (evE c hi))) : Both X (.Subscript a' (.Slice l' h' none p2) p) (evE c (.slc a lo hi)) := by
  have pe : PE X (.Subscript a' (.Slice l' h' none p2) p) (LE X.K (evE c (.slc a lo hi))) := (pe_slice sl_slop ha hl hh).weakC fun σ H Q q => by
    obtain ⟨ρ, env, S, d, S', hs, he, hf, hq⟩ := q
    rw [evE] at hf
    obtain ⟨x, S1, e1, hf⟩ := bnd_inv hf
    obtain ⟨y, S2, e2, hf⟩ := bnd_inv hf
    obtain ⟨z, S3, e3, hf⟩ := bnd_inv hf
    split at hf
    · rename_i l h el eh
      refine LE.mk hs he e1 fun H1 ρ1 v mm p s1 he1 r1 => ?_
      refine ⟨ρ1, env, S1, y, l, S2, s1, he1, e2, el, fun H2 ρ2 m2 p2 s2 => ?_⟩
      refine ⟨ρ2, env, S2, z, h, S3, s2, he1.mono m2 p2, e3, eh, fun H3 ρ3 m3 p3 s3 => ?_⟩
      exact ⟨ρ3, S3, x, d, S', s3, (r1.mono m2 p2 _ _).mono m3 p3 _ _, hf, ((hq.mono mm p).mono m2 p2).mono m3 p3⟩
    · cases hf
  exact ⟨pe, pt_of pe fun _ => rfl⟩
theorem b_call {f : String} {es : List E} {e' : Expr} {es' : List Expr} {p p2 : Pos} (G : Good m c kk X) (hf : f ∈ m.fs) (hg : isGl X.env.scope (Str.ofString f) = true) (hn : nd (Str.ofString f) = true) (ha : PA X (e' :: es') (LA X.K (evEs c es)))
    (hst : starEach (e' :: es') X.env = (false, eval e' X.env) :: starEach es' X.env) (hpl : (backTo p2 (starEach es' X.env)).any (·.1) = false) : Both X (.Call (.Name (Str.ofString f) p) (e' :: es') [] p2) (evE c (.call f es)) := by
  have pe : PE X (.Call (.Name (Str.ofString f) p) (e' :: es') [] p2) (LE X.K (evE c (.call f es))) := by
    rcases G.mo.fn f hf with ⟨a, fd, ps, sp, e1, e2, e3, e4, e5⟩ | ⟨_, e1, e2⟩
    · refine (pe_callG e4 G.gd G.room (gl_of hg) e1 e2 e3 ha (nd_ok hn).1 hst hpl).weakC fun σ H Q q => ?_
      obtain ⟨ρ, env, S, d, S', hs, he, hf, hq⟩ := q
      rw [evE] at hf
      obtain ⟨xs, S1, e1, hf⟩ := bnd_inv hf
      refine LA.mk hs he e1 fun H1 ρ1 vs mm p s1 he1 r1 => ?_
      exact e5 vs H1 Q ⟨ρ1, S1, xs, d, S', s1, r1, hf, hq.mono mm p⟩
    · refine (pe_callBfun cr_gcd' (gl_of hg) e1 ha (nd_ok hn).1 hst hpl).weakC fun σ H Q q => ?_
      obtain ⟨ρ, env, S, d, S', hs, he, hf, hq⟩ := q
      rw [evE] at hf
      obtain ⟨xs, S1, e1, hf⟩ := bnd_inv hf
      rw [e2] at hf
      exact LA.mk hs he e1 fun H1 ρ1 vs mm p s1 he1 r1 => ⟨ρ1, S1, xs, d, S', s1, r1, hf, hq.mono mm p⟩
  exact ⟨pe, pt_of pe fun _ => rfl⟩
theorem bltw {f : String} {es : List E} {b : Bf} {σ H Q} (hb : blt f = b) (q : LE X.K (evE c (.blt f es)) σ H Q) : tCB (LC X.K b) (LA X.K (evEs c es)) σ H Q := by
  obtain ⟨ρ, env, S, d, S', hs, he, hf, hq⟩ := q
  rw [evE] at hf
  obtain ⟨xs, S1, e1, hf⟩ := bnd_inv hf
  rw [hb] at hf
  exact LA.mk hs he e1 fun H1 ρ1 vs mm p s1 he1 r1 => ⟨ρ1, S1, xs, d, S', s1, r1, hf, hq.mono mm p⟩
theorem b_blt {f : String} {es : List E} {e' : Expr} {es' : List Expr} {p p2 : Pos} (G : Good m c kk X) (hf : f ∈ bltFns ∨ f ∈ bltTys) (hdi : f = "dict" → Sct.md = .pln) (hg : isGl X.env.scope (Str.ofString f) = true) (hn : nd (Str.ofString f) = true) (ha : PA X (e' :: es') (LA X.K (evEs c es)))
    (hst : starEach (e' :: es') X.env = (false, eval e' X.env) :: starEach es' X.env) (hpl : (backTo p2 (starEach es' X.env)).any (·.1) = false) : Both X (.Call (.Name (Str.ofString f) p) (e' :: es') [] p2) (evE c (.blt f es)) := by
  have hm : X.mg (Str.ofString f) = none := G.mo.bt f (by
    unfold bltAll
    rcases hf with h | h
    · exact List.mem_append_left _ (List.mem_append_left _ (List.mem_append_left _ h))
    · exact List.mem_append_left _ (List.mem_append_left _ (List.mem_append_right _ h)))
  have hu : X.A.units + 70 < cLine := by have := G.room.un; omega
  have hc := G.calm
  have pe : PE X (.Call (.Name (Str.ofString f) p) (e' :: es') [] p2) (LE X.K (evE c (.blt f es))) := by
    rcases hf with h | h
    · simp only [bltFns, List.mem_cons, List.not_mem_nil, or_false] at h
      rcases h with rfl | rfl | rfl | rfl | rfl | rfl | rfl | rfl
      · exact (pe_callB cr_len (gl_of hg) hm (by decide +kernel) ha (by decide) (nd_ok hn).1 hst hpl).weakC fun _ _ _ q => bltw rfl q
      · exact (pe_callB cr_abs (gl_of hg) hm (by decide +kernel) ha (by decide) (nd_ok hn).1 hst hpl).weakC fun _ _ _ q => bltw rfl q
      · exact (pe_callB (Cs.cr_max hc) (gl_of hg) hm (by decide +kernel) ha (by decide) (nd_ok hn).1 hst hpl).weakC fun _ _ _ q => bltw rfl q
      · exact (pe_callB (Cs.cr_min hc) (gl_of hg) hm (by decide +kernel) ha (by decide) (nd_ok hn).1 hst hpl).weakC fun _ _ _ q => bltw rfl q
      · exact (pe_callB (cr_all' hc) (gl_of hg) hm (by decide +kernel) ha (by decide) (nd_ok hn).1 hst hpl).weakC fun _ _ _ q => bltw rfl q
      · exact (pe_callB (cr_any' hc) (gl_of hg) hm (by decide +kernel) ha (by decide) (nd_ok hn).1 hst hpl).weakC fun _ _ _ q => bltw rfl q
      · exact (pe_callB (cr_repr G.gd hu) (gl_of hg) hm (by decide +kernel) ha (by decide) (nd_ok hn).1 hst hpl).weakC fun _ _ _ q => bltw rfl q
      · exact (pe_callB cr_sorted' (gl_of hg) hm (by decide +kernel) ha (by decide) (nd_ok hn).1 hst hpl).weakC fun _ _ _ q => bltw rfl q
    · simp only [bltTys, List.mem_cons, List.not_mem_nil, or_false] at h
      rcases h with rfl | rfl | rfl | rfl
      · exact (pe_callTy cr_int (gl_of hg) hm (by decide +kernel) ha (by decide) (nd_ok hn).1 hst hpl).weakC fun _ _ _ q => bltw rfl q
      · exact (pe_callTy (cr_list hc) (gl_of hg) hm (by decide +kernel) ha (by decide) (nd_ok hn).1 hst hpl).weakC fun _ _ _ q => bltw rfl q
      · exact (pe_callTy cr_tuple (gl_of hg) hm (by decide +kernel) ha (by decide) (nd_ok hn).1 hst hpl).weakC fun _ _ _ q => bltw rfl q
      · exact (pe_callTy (cr_dict hc (hdi rfl)) (gl_of hg) hm (by decide +kernel) ha (by decide) (nd_ok hn).1 hst hpl).weakC fun _ _ _ q => bltw rfl q
  exact ⟨pe, pt_of pe fun _ => rfl⟩
theorem b_trev {a : E} {a' : Expr} {p1 p2 p3 p4 : Pos} (G : Good m c kk X) (g1 : isGl X.env.scope (Str.ofString "tuple") = true) (g2 : isGl X.env.scope (Str.ofString "reversed") = true) (ha : PE X a' (LE X.K (evE c a)))
    (hst : starEach [a'] X.env = [(false, eval a' X.env)]) : Both X (.Call (.Name (Str.ofString "tuple") p1) [.Call (.Name (Str.ofString "reversed") p2) [a'] [] p3] [] p4) (evE c (.trev a)) := by
  have pe : PE X (.Call (.Name (Str.ofString "tuple") p1) [.Call (.Name (Str.ofString "reversed") p2) [a'] [] p3] [] p4) (LE X.K (evE c (.trev a))) :=
    (pe_trev G.calm (gl_of g1) (G.mo.bt "tuple" (by decide)) (gl_of g2) (G.mo.bt "reversed" (by decide)) ha hst).weakC fun σ H Q q => by
      obtain ⟨ρ, env, S, d, S', hs, he, hf, hq⟩ := q
      rw [evE] at hf
      obtain ⟨x, S1, e1, hf⟩ := bnd_inv hf
      refine LE.mk hs he e1 fun H1 ρ1 v mm p s1 he1 r1 => ?_
      unfold trOp at hf
      split at hf
      · rename_i n
        cases e : getL S1 n with
        | none => rw [e] at hf; cases hf
        | some xs =>
          rw [e] at hf; cases hf
          obtain ⟨a, vs, rfl, _, sa, ra⟩ := s1.list e r1
          exact ⟨a, vs, rfl, .inl sa, (hq.mono mm p).newT s1 ra.reverse⟩
      · rename_i xs
        cases hf
        obtain ⟨a, vs, rfl, sa, ra⟩ := r1
        exact ⟨a, vs, rfl, .inr sa.1, (hq.mono mm p).newT s1 ra.reverse⟩
      · cases hf
  exact ⟨pe, pt_of pe fun _ => rfl⟩
theorem keysL_rp {K : PySem.W.Frag} {H : Hp} {ρ : List Addr} {xs : List D} {ks : List Key} {vs : List V} (h : xs.mapM keyD = some ks) (r : RpL K H ρ xs vs) : vs = ks.map kV := keyD_rpL h r
theorem zip_rp {K : PySem.W.Frag} {H : Hp} {ρ : List Addr} : ∀ {ks : List Key} {ys : List D} {us : List V}, RpL K H ρ ys us → (ks.zip ys).map (·.1) = (ks.zip us).map (·.1) ∧ RpL K H ρ ((ks.zip ys).map (·.2)) ((ks.zip us).map (·.2))
  | [], _, _, _ => ⟨rfl, rfl⟩
  | k :: ks, [], us, r => by cases r; exact ⟨rfl, rfl⟩
  | k :: ks, y :: ys, us, r => by
    obtain ⟨u, rr, rfl, r1, r2⟩ := r
    obtain ⟨h1, h2⟩ := zip_rp (ks := ks) r2
    exact ⟨by simp [h1], u, _, rfl, r1, h2⟩
theorem mapM_len {α β : Type} {f : α → Option β} : ∀ {l : List α} {m : List β}, l.mapM f = some m → m.length = l.length
  | [], m, h => by cases h; rfl
  | a :: l, m, h => by
    rw [List.mapM_cons] at h
    cases e : f a with
    | none => rw [e] at h; cases h
    | some b =>
      rw [e] at h
      cases e2 : l.mapM f with
      | none => rw [e2] at h; cases h
      | some m' => rw [e2] at h; cases h; simp [mapM_len e2]
theorem b_dzip {a b : E} {a' b' : Expr} {p1 p2 p3 p4 : Pos} (G : Good m c kk X) (g1 : isGl X.env.scope (Str.ofString "dict") = true) (g2 : isGl X.env.scope (Str.ofString "zip") = true) (ha : PE X a' (LE X.K (evE c a))) (hb : PE X b' (LE X.K (evE c b)))
    (hs1 : starEach [a', b'] X.env = (false, eval a' X.env) :: starEach [b'] X.env) (hs2 : starEach [b'] X.env = [(false, eval b' X.env)]) :
    Both X (.Call (.Name (Str.ofString "dict") p1) [.Call (.Name (Str.ofString "zip") p2) [a', b'] [] p3] [] p4) (evE c (.dzip a b)) := by
  have pe : PE X (.Call (.Name (Str.ofString "dict") p1) [.Call (.Name (Str.ofString "zip") p2) [a', b'] [] p3] [] p4) (LE X.K (evE c (.dzip a b))) :=
    (pe_dzip G.calm (gl_of g1) (G.mo.bt "dict" (by decide)) (gl_of g2) (G.mo.bt "zip" (by decide)) ha hb hs1 hs2).weakC fun σ H Q q => by
      obtain ⟨ρ, env, S, d, S', hs, he, hf, hq⟩ := q
      rw [evE] at hf
      obtain ⟨x, S1, e1, hf⟩ := bnd_inv hf
      obtain ⟨y, S2, e2, hf⟩ := bnd_inv hf
      refine LE.mk hs he e1 fun H1 ρ1 v mm p s1 he1 r1 => LE.mk s1 he1 e2 fun H2 ρ2 w m2 p2 s2 he2 r2 => ?_
      unfold dzOp at hf
      split at hf
      · rename_i n ys
        split at hf
        · rename_i xs eg
          split at hf
          · rename_i ks ek
            split at hf
            · rename_i hl
              cases hf
              obtain ⟨a, vs, rfl, _, sa, ra⟩ := s2.list eg (r1.mono m2 p2 _ _)
              obtain ⟨b, us, rfl, sb, rb⟩ := r2
              rw [keysL_rp ek ra] at sa
              have l1 := mapM_len ek
              have l2 := rb.length
              refine ⟨a, b, ks, us, rfl, rfl, sa, sb.1, by omega, by omega, fun q hq' => ?_⟩
              obtain ⟨z1, z2⟩ := zip_rp (ks := ks) rb
              obtain ⟨z3, z4⟩ := mergeD_rp (kvs := []) (vs := []) z1 z2 rfl rfl
              exact ((hq.mono mm p).mono m2 p2) _ (ρ2 ++ [q]) _ (Mono.new hq') ⟨[q], rfl⟩ (s2.newD hq' z3 z4) ⟨q, rfl, by rw [← s2.len]; simp⟩
            · cases hf
          · cases hf
        · cases hf
      · cases hf
  exact ⟨pe, pt_of pe fun _ => rfl⟩
theorem b_dict1 {k v : E} {k' v' : Expr} {p : Pos} (G : Good m c kk X) (md : Sct.md = .trk) (hk : PE X k' (LE X.K (evE c k))) (hv : PE X v' (LE X.K (evE c v))) : Both X (.Dict [some k'] [v'] p) (evE c (.dict1 k v)) := by
  have pe : PE X (.Dict [some k'] [v'] p) (LE X.K (evE c (.dict1 k v))) := (pe_disp1 (by have := G.room.un; omega) hk hv).weakC fun σ H Q q => by
    obtain ⟨ρ, env, S, d, S', hs, he, hf, hq⟩ := q
    rw [evE] at hf
    obtain ⟨x, S1, e1, hf⟩ := bnd_inv hf
    obtain ⟨y, S2, e2, hf⟩ := bnd_inv hf
    split at hf
    · rename_i kt eg ek
      cases hf
      intro D hD
      have m0 : Mono H (upd H D (.dT [])) := Mono.new hD
      have p0 : ρ <+: ρ ++ [D] := ⟨[D], rfl⟩
      have ad : (ρ ++ [D])[S.length]? = some D := by rw [← hs.len]; simp
      refine LE.mk (hs.newE md (kvs := []) (vs := []) hD rfl rfl) (he.mono m0 p0) e1 fun H1 ρ1 v mm p s1 he1 r1 => LE.mk s1 he1 e2 fun H2 ρ2 vw m2 p2 s2 he2 r2 => ?_
      have ad2 : ρ2[S.length]? = some D := pre_get p2 (pre_get p ad)
      obtain ⟨b, rfl, hb⟩ := keyT_rp md ek (r1.mono m2 p2 _ _)
      have hg := getT_so eg
      obtain ⟨D', eD, _, us, hus, _, ru⟩ := s2.at_ _ _ hg
      rw [ad2] at eD; cases eD
      cases us with
      | cons u us => obtain ⟨_, ku, _⟩ := s2.dictT hg ⟨D, rfl, ad2⟩; simp_all
      | nil =>
        obtain ⟨s3, m3⟩ := s2.writeE md (ds := [(kt, y)]) (vs := [(kt, vw)]) hg ad2 rfl (RpL.one r2)
        exact ⟨b, kt, rfl, hb, hus, hq _ ρ2 _ (((m0.trans mm).trans m2).trans m3) (p0.trans (p.trans p2)) s3 ⟨D, rfl, ad2⟩⟩
    · cases hf
  exact ⟨pe, pt_of pe fun _ => rfl⟩
theorem b_gget {g : String} {i : E} {i' : Expr} {p p2 : Pos} (G : Good m c kk X) (hg : g ∈ m.ds) (gl : isGl X.env.scope (Str.ofString g) = true) (hn : nd (Str.ofString g) = true) (hi : PE X i' (LE X.K (evE c i))) (hp : PlainIx i') :
    Both X (.Subscript (.Name (Str.ofString g) p) i' p2) (evE c (.gget g i)) := by
  obtain ⟨dd, es, n, tb, e1, kd, e2, tab⟩ := G.mo.gd g hg
  have pe : PE X (.Subscript (.Name (Str.ofString g) p) i' p2) (LE X.K (evE c (.gget g i))) := (pe_ix ix_kdict (pe_glob (v := .ref dd) (gl_of gl) e1 rfl (nd_ok hn).1) hi hp).weakC fun σ H Q q => by
    obtain ⟨ρ, env, S, d, S', hs, he, hf, hq⟩ := q
    rw [evE] at hf
    obtain ⟨y, S1, e3, hf⟩ := bnd_inv hf
    refine LE.mk hs he e3 fun H1 ρ1 v mm p s1 he1 r1 => ?_
    rw [e2] at hf
    split at hf
    · rename_i tb' z et
      cases et
      obtain ⟨r, er, _, hv⟩ := tab z
      cases ev : tabAt tb z with
      | none => rw [ev] at hf; cases hf
      | some w1 =>
        rw [ev] at hf; cases hf
        obtain ⟨u, vv, rfl, ru, rr⟩ := hv _ ev
        cases r1
        exact ⟨dd, z, vv, rfl, rfl, ⟨es, n, u, kd.at_, kd.lit, er, ru⟩, (hq.mono mm p).same s1 (rr _ _)⟩
    · cases hf
  exact ⟨pe, pt_of pe fun _ => rfl⟩
theorem b_gin {neg : Bool} {o : CmpOp} {g : String} {a : E} {a' : Expr} {p p2 : Pos} (G : Good m c kk X) (ho : o = if neg then .NotIn else .In) (hg : g ∈ m.ds) (gl : isGl X.env.scope (Str.ofString g) = true) (hn : nd (Str.ofString g) = true) (ha : PE X a' (LE X.K (evE c a))) :
    Both X (.Compare a' [o] [.Name (Str.ofString g) p] p2) (evE c (.gin neg g a)) := by
  obtain ⟨dd, es, n, tb, e1, kd, e2, tab⟩ := G.mo.gd g hg
  have pg : PE X (.Name (Str.ofString g) p) (tC (.ref dd)) := pe_glob (v := .ref dd) (gl_of gl) e1 rfl (nd_ok hn).1
  have bl : ∀ env S d S', evE c (.gin neg g a) env S = some (d, S') → ∃ k, d = .bl k := by
    intro env S d S' hf
    rw [evE] at hf
    obtain ⟨y, S1, e3, hf⟩ := bnd_inv hf
    split at hf
    · cases hf; exact ⟨_, rfl⟩
    · cases hf
  have core : ∀ σ H Q, LE X.K (evE c (.gin neg g a)) σ H Q → LE X.K (evE c a) σ H fun x H1 => ∃ z r, x = .str z ∧ PySem.W.nsIn X.K dd z = some r ∧ Q (.bl (neg != r.isSome)) H1 := fun σ H Q q => by
    obtain ⟨ρ, env, S, d, S', hs, he, hf, hq⟩ := q
    rw [evE] at hf
    obtain ⟨y, S1, e3, hf⟩ := bnd_inv hf
    refine LE.mk hs he e3 fun H1 ρ1 v mm p s1 he1 r1 => ?_
    rw [e2] at hf
    split at hf
    · rename_i tb' z et
      cases et
      obtain ⟨r, er, es', _⟩ := tab z
      cases hf
      cases r1
      exact ⟨z, r, rfl, er, by rw [← es']; exact (hq.mono mm p).same s1 rfl⟩
    · cases hf
  cases neg with
  | false =>
    subst ho
    have w : ∀ σ H Q, LE X.K (evE c (.gin false g a)) σ H Q → tOp (fun x y H Q => ∃ (z : Str) (r : Option Value), x = .str z ∧ y = .ref dd ∧ PySem.W.nsIn X.K dd z = some r ∧ Q (.bl r.isSome) H) (LE X.K (evE c a)) (tC (.ref dd)) σ H Q := fun σ H Q q => by
      obtain ⟨ρ, env, S, d, S', hs, he, hf, hq⟩ := core σ H Q q
      exact ⟨ρ, env, S, d, S', hs, he, hf, fun H' ρ' v m p s r => let ⟨z, rr, e1, e2, e3⟩ := hq H' ρ' v m p s r; ⟨z, rr, e1, rfl, e2, by simpa using e3⟩⟩
    exact ⟨(pe_cmpR (op_in_kd kd) ha pg rfl).weakC w, (pt_cmpR (op_in_kd kd) ha pg rfl).weakC fun σ H Q q => w _ _ _ (q.bl bl)⟩
  | true =>
    subst ho
    have w : ∀ σ H Q, LE X.K (evE c (.gin true g a)) σ H Q → tOp (fun x y H Q => ∃ (z : Str) (r : Option Value), x = .str z ∧ y = .ref dd ∧ PySem.W.nsIn X.K dd z = some r ∧ Q (.bl (!r.isSome)) H) (LE X.K (evE c a)) (tC (.ref dd)) σ H Q := fun σ H Q q => by
      obtain ⟨ρ, env, S, d, S', hs, he, hf, hq⟩ := core σ H Q q
      exact ⟨ρ, env, S, d, S', hs, he, hf, fun H' ρ' v m p s r => let ⟨z, rr, e1, e2, e3⟩ := hq H' ρ' v m p s r; ⟨z, rr, e1, rfl, e2, by simpa using e3⟩⟩
    exact ⟨(pe_cmpR (op_notIn_kd kd) ha pg rfl).weakC w, (pt_cmpR (op_notIn_kd kd) ha pg rfl).weakC fun σ H Q q => w _ _ _ (q.bl bl)⟩
theorem b_lrng {a : E} {a' : Expr} {p1 p2 p3 p4 : Pos} (G : Good m c kk X) (g1 : isGl X.env.scope (Str.ofString "list") = true) (g2 : isGl X.env.scope (Str.ofString "range") = true) (ha : PE X a' (LE X.K (evE c a)))
    (hst : starEach [a'] X.env = [(false, eval a' X.env)]) : Both X (.Call (.Name (Str.ofString "list") p1) [.Call (.Name (Str.ofString "range") p2) [a'] [] p3] [] p4) (evE c (.lrng a)) := by
  have pe : PE X (.Call (.Name (Str.ofString "list") p1) [.Call (.Name (Str.ofString "range") p2) [a'] [] p3] [] p4) (LE X.K (evE c (.lrng a))) :=
    (pe_listRg G.calm (gl_of g1) (G.mo.bt "list" (by decide)) (prg_1 (gl_of g2) (G.mo.bt "range" (by decide)) ha hst)).weakC fun σ H Q q => by
      obtain ⟨ρ, env, S, d, S', hs, he, hf, hq⟩ := q
      rw [evE] at hf
      obtain ⟨x, S1, e1, hf⟩ := bnd_inv hf
      refine LE.mk hs he e1 fun H1 ρ1 v mm p s1 he1 r1 => ?_
      unfold lrOp at hf
      split at hf
      · rename_i i
        split at hf
        · rename_i hi
          cases hf
          cases r1
          refine ⟨i, rfl, ⟨by omega, by omega, by omega, by omega, by omega⟩, fun q hq' => ?_⟩
          have e : rgV 0 i = (List.range i.toNat).map fun j : Nat => V.int (0 + (j : Int)) := by unfold rgV; rw [Int.sub_zero]
          rw [e]
          refine (hq.mono mm p).newL s1 ?_ hq'
          have r : ∀ l : List Nat, RpL X.K H1 ρ1 (l.map fun i => D.int (0 + (i : Nat))) (l.map fun j : Nat => V.int (0 + (j : Int))) := by
            intro l
            induction l with
            | nil => exact rfl
            | cons n l ih => exact ⟨_, _, rfl, rfl, ih⟩
          exact r _
        · cases hf
      · cases hf
  exact ⟨pe, pt_of pe fun _ => rfl⟩
end
end Cs

set_option Elab.async false
set_option linter.all false
set_option maxRecDepth 100000
namespace Cs
open PySem PySem.Spec PyProof.Rows L2
variable [Sct]

section
variable {X : Cx} {m : MC} {c : Cfg} {kk : Nat}
theorem base_of {f : Str} {o : E} {o' : Expr} {sc : Scope} {env : Env} (h : mE m sc o o' = true) (hs : simpleO o = true) : attributeBase o' f env (eval o' env) = eval o' env := by
  cases o <;> first | cases hs | skip
  · cases o' <;> first | rfl | (simp [mE] at h)
  · cases o' <;> first | rfl | (simp [mE] at h)
theorem stars_few {es : List Expr} {env : Env} {cp : Pos} (h : starEach es env = es.map (fun e => (false, eval e env))) (hn : es.length < 29) :
    ((backTo cp (starEach es env)).all (fun x => !x.1) && (backToKw cp (keywordEach [] env)).all (fun x => x.1.isSome)
      && decide (es.length + ([] : List Keyword).length + (if ([] : List Keyword).isEmpty then 0 else 1) < 30)) = true := by
  rw [h]
  unfold backTo
  simp [keywordEach, backToKw]
  omega
theorem b_mth {f : String} {o : E} {es : List E} {o' e' : Expr} {es' : List Expr} {p ap cp : Pos} {sc : Scope} (hu : X.A.units + 65 < cLine) (hf : f ∈ mthFns) (ho : PE X o' (LE X.K (evE c o))) (ha : PA X (e' :: es') (LA X.K (evEs c es)))
    (hb : attributeBase o' (Str.ofString (mNm f)) X.env (eval o' X.env) = eval o' X.env) (hst : starEach (e' :: es') X.env = (e' :: es').map (fun e => (false, eval e X.env))) (hst2 : starEach es' X.env = es'.map (fun e => (false, eval e X.env))) (hl : lineOk ap cp = true) (hn : (e' :: es').length < 29) :
    Both X (.Call (.Attribute o' (Str.ofString (mNm f)) ap) (e' :: es') [] cp) (evE c (.mth f o es)) := by
  have hs1 : starEach (e' :: es') X.env = (false, eval e' X.env) :: starEach es' X.env := by rw [hst, hst2]; rfl
  have pe : PE X (.Call (.Attribute o' (Str.ofString (mNm f)) ap) (e' :: es') [] cp) (LE X.K (evE c (.mth f o es))) := by
    have w : ∀ g : Mf, mth f = g → (∀ x S1, mTy f x S1 = true → ∃ n, x = .loc n ∧ (getL S1 n).isSome = true) → ∀ σ H Q, LE X.K (evE c (.mth f o es)) σ H Q → tBM X.K "list" (LM X.K g) (LE X.K (evE c o)) (LA X.K (evEs c es)) σ H Q := by
      intro g hg hty σ H Q q
      obtain ⟨ρ, env, S, d, S', hs, he, hf, hq⟩ := q
      rw [evE] at hf
      obtain ⟨x, S1, e1, hf⟩ := bnd_inv hf
      split at hf
      · rename_i ht
        obtain ⟨xs, S2, e2, hf⟩ := bnd_inv hf
        rw [hg] at hf
        refine LE.mk hs he e1 fun H1 ρ1 v mm p s1 he1 r1 => ⟨?_, LA.mk s1 he1 e2 fun H2 ρ2 vs m2 p2 s2 he2 r2 => ⟨ρ2, S2, x, xs, d, S', s2, r1.mono m2 p2 _ _, r2, hf, (hq.mono mm p).mono m2 p2⟩⟩
        obtain ⟨n, rfl, htl⟩ := hty x S1 ht
        cases eg : getL S1 n with
        | none => rw [eg] at htl; cases htl
        | some ds =>
          obtain ⟨a, us, rfl, _, sa, _⟩ := s1.list eg r1
          exact .inl ⟨rfl, us, sa⟩
      · cases hf
    simp only [mthFns, List.mem_cons, List.not_mem_nil, or_false] at hf
    rcases hf with rfl | rfl | rfl | rfl
    · refine (pe_bm PySem.F.plainAttrs_list PySem.F.slot_list_append PySem.F.type_list_append mt_append' ho ha hb (stars_few hst hn) hl hs1 (plain_of hst2)).weakC (w _ rfl fun x S1 ht => ?_)
      cases x with
      | loc n => exact ⟨n, rfl, ht⟩
      | _ => cases ht
    · refine (pe_bm PySem.F.plainAttrs_list PySem.F.slot_list_index PySem.F.type_list_index (mt_index' hu) ho ha hb (stars_few hst hn) hl hs1 (plain_of hst2)).weakC (w _ rfl fun x S1 ht => ?_)
      cases x with
      | loc n => exact ⟨n, rfl, ht⟩
      | _ => cases ht
    · refine (pe_bm PySem.F.plainAttrs_list PySem.F.slot_list_insert PySem.F.type_list_insert mt_insert' ho ha hb (stars_few hst hn) hl hs1 (plain_of hst2)).weakC (w _ rfl fun x S1 ht => ?_)
      cases x with
      | loc n => exact ⟨n, rfl, ht⟩
      | _ => cases ht
    · refine (pe_bm PySem.F.plainAttrs_str PySem.F.slot_str_index PySem.F.type_str_index mt_sindex' ho ha hb (stars_few hst hn) hl hs1 (plain_of hst2)).weakC fun σ H Q q => ?_
      obtain ⟨ρ, env, S, d, S', hs, he, hf, hq⟩ := q
      rw [evE] at hf
      obtain ⟨x, S1, e1, hf⟩ := bnd_inv hf
      split at hf
      · rename_i ht
        obtain ⟨xs, S2, e2, hf⟩ := bnd_inv hf
        refine LE.mk hs he e1 fun H1 ρ1 v mm p s1 he1 r1 => ⟨?_, LA.mk s1 he1 e2 fun H2 ρ2 vs m2 p2 s2 he2 r2 => ⟨ρ2, S2, x, xs, d, S', s2, r1.mono m2 p2 _ _, r2, hf, (hq.mono mm p).mono m2 p2⟩⟩
        cases x with
        | str z => cases r1; exact rfl
        | loc n => cases ht
        | _ => cases ht
      · cases hf
  exact ⟨pe, pt_of pe fun _ => rfl⟩
theorem b_mth0 {f : String} {o : E} {o' : Expr} {ap cp : Pos} (hf : f ∈ mth0Fns) (ho : PE X o' (LE X.K (evE c o)))
    (hb : attributeBase o' (Str.ofString f) X.env (eval o' X.env) = eval o' X.env) (hl : lineOk ap cp = true) :
    Both X (.Call (.Attribute o' (Str.ofString f) ap) [] [] cp) (evE c (.mth0 f o)) := by
  have pe : PE X (.Call (.Attribute o' (Str.ofString f) ap) [] [] cp) (LE X.K (evE c (.mth0 f o))) := by
    have w : ∀ g : D → Sto → Option (D × Sto), mth0 f = g → (∀ x S r, g x S = some r → ∃ n, x = .loc n ∧ (getL S n).isSome = true) → ∀ σ H Q, LE X.K (evE c (.mth0 f o)) σ H Q → tBM X.K "list" (LM0 X.K g) (LE X.K (evE c o)) tNil σ H Q := by
      intro g hg hty σ H Q q
      obtain ⟨ρ, env, S, d, S', hs, he, hf, hq⟩ := q
      rw [evE] at hf
      obtain ⟨x, S1, e1, hf⟩ := bnd_inv hf
      rw [hg] at hf
      refine LE.mk hs he e1 fun H1 ρ1 v mm p s1 he1 r1 => ⟨?_, rfl, ρ1, S1, x, d, S', s1, r1, hf, hq.mono mm p⟩
      obtain ⟨n, rfl, htl⟩ := hty x S1 _ hf
      cases eg : getL S1 n with
      | none => rw [eg] at htl; cases htl
      | some ds =>
        obtain ⟨a, us, rfl, _, sa, _⟩ := s1.list eg r1
        exact .inl ⟨rfl, us, sa⟩
    have tm : ∀ {S : Sto} {n : Nat} {ys : List D}, getM S n = some ys → (getL S n).isSome = true := fun {S n ys} e => by
      unfold getL; rw [getM_so e]; rfl
    simp only [mth0Fns, List.mem_cons, List.not_mem_nil, or_false] at hf
    rcases hf with rfl | rfl
    · refine (pe_bm0 PySem.F.plainAttrs_list PySem.F.slot_list_pop PySem.F.type_list_pop mt_pop' ho hb hl).weakC (w _ rfl fun x S r h => ?_)
      unfold mPop at h
      split at h
      · split at h
        · exact ⟨_, rfl, tm (by assumption)⟩
        · cases h
      · cases h
    · refine (pe_bm0 PySem.F.plainAttrs_list PySem.F.slot_list_reverse PySem.F.type_list_reverse mt_reverse' ho hb hl).weakC (w _ rfl fun x S r h => ?_)
      unfold mReverse at h
      split at h
      · split at h
        · exact ⟨_, rfl, tm (by assumption)⟩
        · cases h
      · cases h
  exact ⟨pe, pt_of pe fun _ => rfl⟩

/-! ### what is let go -/
mutual
theorem und_of {K : PySem.W.Frag} {H : Hp} {ρ : List Addr} : ∀ (d : D) (v : V), Rp K H ρ d v → d.und ρ.length
  | .non, _, _ => trivial
  | .bl _, _, _ => trivial
  | .int _, _, _ => trivial
  | .str _, _, _ => trivial
  | .tup ds, v, h => by
    obtain ⟨a, vs, rfl, _, r⟩ := h
    exact und_ofL ds vs r
  | .loc n, v, h => by
    obtain ⟨a, rfl, e⟩ := h
    exact (List.getElem?_eq_some_iff.mp e).1
theorem und_ofL {K : PySem.W.Frag} {H : Hp} {ρ : List Addr} : ∀ (ds : List D) (vs : List V), RpL K H ρ ds vs → D.undL ρ.length ds
  | [], _, _ => trivial
  | d :: ds, _, h => by
    obtain ⟨v, r, rfl, h1, h2⟩ := h
    exact ⟨und_of d v h1, und_ofL ds r h2⟩
end
mutual
theorem Rp.cut {K : PySem.W.Frag} {H : Hp} {ρ ρ' : List Addr} (p : ρ <+: ρ') : ∀ (d : D) (v : V), d.und ρ.length → Rp K H ρ' d v → Rp K H ρ d v
  | .non, _, _, h => h
  | .bl _, _, _, h => h
  | .int _, _, _, h => h
  | .str _, _, _, h => h
  | .tup ds, v, u, h => by
    obtain ⟨a, vs, rfl, sa, r⟩ := h
    exact ⟨a, vs, rfl, sa, RpL.cut p ds vs u r⟩
  | .loc n, v, u, h => by
    obtain ⟨a, rfl, e⟩ := h
    refine ⟨a, rfl, ?_⟩
    obtain ⟨t, rfl⟩ := p
    have u' : n < ρ.length := u
    rw [List.getElem?_append_left u'] at e
    exact e
theorem RpL.cut {K : PySem.W.Frag} {H : Hp} {ρ ρ' : List Addr} (p : ρ <+: ρ') : ∀ (ds : List D) (vs : List V), D.undL ρ.length ds → RpL K H ρ' ds vs → RpL K H ρ ds vs
  | [], _, _, h => h
  | d :: ds, vs, u, h => by
    obtain ⟨v, r, rfl, h1, h2⟩ := h
    exact ⟨v, r, rfl, Rp.cut p d v u.1 h1, RpL.cut p ds r u.2 h2⟩
end
theorem SoR.und {K : PySem.W.Frag} {H : Hp} {ρ : List Addr} {so : SO} {a : Addr} (h : SoR K H ρ so a) : so.und ρ.length := by
  cases so with
  | lst ds => obtain ⟨vs, _, r⟩ := h; exact und_ofL ds vs r
  | dk kvs => obtain ⟨vs, _, _, r⟩ := h; exact und_ofL _ _ r
  | dt kvs => obtain ⟨_, vs, _, _, r⟩ := h; exact und_ofL _ _ r
  | ro ds => obtain ⟨vs, _, r⟩ := h; exact und_ofL ds vs r
theorem SoR.cut {K : PySem.W.Frag} {H : Hp} {ρ ρ' : List Addr} (p : ρ <+: ρ') {so : SO} {a : Addr} (u : so.und ρ.length) (h : SoR K H ρ' so a) : SoR K H ρ so a := by
  cases so with
  | lst ds => obtain ⟨vs, e, r⟩ := h; exact ⟨vs, e, RpL.cut p ds vs u r⟩
  | dk kvs => obtain ⟨vs, e, k, r⟩ := h; exact ⟨vs, e, k, RpL.cut p _ _ u r⟩
  | dt kvs => obtain ⟨on, vs, e, k, r⟩ := h; exact ⟨on, vs, e, k, RpL.cut p _ _ u r⟩
  | ro ds => obtain ⟨vs, e, r⟩ := h; exact ⟨vs, e, RpL.cut p ds vs u r⟩
theorem Sr.cut {K : PySem.W.Frag} {H H' : Hp} {ρ ρ' : List Addr} {S S' : Sto} (s : Sr K H ρ S) (p : ρ <+: ρ') (s' : Sr K H' ρ' S') (pr : Pre S S') : Sr K H' ρ (S'.take S.length) := by
  have get : ∀ {n : Nat} {so : SO}, (S'.take S.length)[n]? = some so → n < S.length ∧ S'[n]? = some so := by
    intro n so e
    rw [List.getElem?_take] at e
    split at e
    · exact ⟨by assumption, e⟩
    · cases e
  have back : ∀ {n : Nat} {a : Addr}, n < S.length → ρ'[n]? = some a → ρ[n]? = some a := by
    intro n a hn e
    obtain ⟨t, rfl⟩ := p
    rw [List.getElem?_append_left (by rw [s.len]; exact hn)] at e
    exact e
  refine ⟨by rw [List.length_take, s.len, Nat.min_eq_left pr.1], fun n so e => ?_, fun n n' so so' a e e' hm hm' ea ea' => ?_⟩
  · obtain ⟨hn, e⟩ := get e
    obtain ⟨a, ea, r⟩ := s'.at_ n so e
    refine ⟨a, back hn ea, r.cut p ?_⟩
    rcases pr.2 n so hn e with q | q
    · obtain ⟨b, _, r0⟩ := s.at_ n so q
      exact r0.und
    · rw [s.len]; exact q
  · obtain ⟨hn, e⟩ := get e
    obtain ⟨hn', e'⟩ := get e'
    exact s'.inj n n' so so' a e e' hm hm' (pre_get p ea) (pre_get p ea')
theorem fin_ok {K : PySem.W.Frag} {H H' : Hp} {ρ ρ' : List Addr} {S S' S2 : Sto} {d d2 : D} {v : V} (s : Sr K H ρ S) (p : ρ <+: ρ') (s' : Sr K H' ρ' S') (r : Rp K H' ρ' d v) (h : fin S (d, S') = some (d2, S2)) :
    ∃ ρ2, ρ <+: ρ2 ∧ Sr K H' ρ2 S2 ∧ Rp K H' ρ2 d2 v := by
  unfold fin at h
  split at h
  · rename_i pr
    have sc := s.cut p s' pr
    simp only at h
    split at h
    · rename_i u
      cases h
      exact ⟨ρ, List.prefix_refl _, sc, r.cut p d v (by rw [s.len]; exact u)⟩
    · rename_i nu
      split at h
      · rename_i k
        split at h
        · rename_i so0 e
          split at h
          · rename_i ux
            obtain ⟨mx, ux⟩ := ux
            cases h
            obtain ⟨a, rfl, ea⟩ := r
            have e : S'[k]? = some so0 := e
            obtain ⟨b, eb, rb⟩ := s'.at_ k _ e
            rw [ea] at eb; cases eb
            have hk : S.length ≤ k := by
              have nu : ¬ k < S.length := nu
              omega
            have rx : SoR K H' ρ so0 a := rb.cut p (by rw [s.len]; exact ux)
            have pq : ρ <+: ρ ++ [a] := ⟨[a], rfl⟩
            have lt : (S'.take S.length).length = S.length := by rw [List.length_take, Nat.min_eq_left pr.1]
            have la : (ρ ++ [a])[S.length]? = some a := by rw [← s.len]; simp
            have get : ∀ {n : Nat} {so : SO}, (S'.take S.length ++ [so0])[n]? = some so → (n < S.length ∧ (S'.take S.length)[n]? = some so) ∨ (n = S.length ∧ so = so0) := by
              intro n so q
              rcases Nat.lt_trichotomy n S.length with z | z | z
              · rw [List.getElem?_append_left (by rw [lt]; exact z)] at q; exact .inl ⟨z, q⟩
              · subst z
                rw [List.getElem?_append_right (by rw [lt]; exact Nat.le_refl _), lt] at q
                simp at q
                exact .inr ⟨rfl, q.symm⟩
              · rw [List.getElem?_eq_none (by simp [lt]; omega)] at q; cases q
            have old : ∀ {n : Nat} {so : SO} {b : Addr}, n < S.length → (S'.take S.length)[n]? = some so → so.mut = true → (ρ ++ [a])[n]? = some b → ρ[n]? = some b ∧ b ≠ a := by
              intro n so b hn q hm q2
              obtain ⟨b', eb', _⟩ := sc.at_ n so q
              have := pre_get pq eb'
              rw [q2] at this; cases this
              refine ⟨eb', fun z => ?_⟩
              subst z
              rw [List.getElem?_take, if_pos hn] at q
              have := s'.inj n k so _ b q e hm mx (pre_get p eb') ea
              omega
            refine ⟨ρ ++ [a], pq, ⟨by simp [lt, s.len], fun n so q => ?_, fun n n' so so' b q q' hm hm' z z' => ?_⟩, ⟨a, rfl, la⟩⟩
            · rcases get q with ⟨hn, q⟩ | ⟨rfl, rfl⟩
              · obtain ⟨b, eb, rb⟩ := sc.at_ n so q
                exact ⟨b, pre_get pq eb, rb.mono Mono.refl pq fun _ _ h => h⟩
              · exact ⟨a, la, rx.mono Mono.refl pq fun _ _ h => h⟩
            · rcases get q with ⟨hn, q⟩ | ⟨rfl, rfl⟩
              · obtain ⟨w1, w2⟩ := old hn q hm z
                rcases get q' with ⟨hn', q'⟩ | ⟨rfl, rfl⟩
                · obtain ⟨w1', _⟩ := old hn' q' hm' z'
                  exact sc.inj n n' so so' b q q' hm hm' w1 w1'
                · rw [la] at z'; cases z'
                  exact absurd rfl w2
              · rcases get q' with ⟨hn', q'⟩ | ⟨rfl, rfl⟩
                · obtain ⟨_, w2⟩ := old hn' q' hm' z'
                  rw [la] at z; cases z
                  exact absurd rfl w2
                · rfl
          · cases h
        · cases h
      · cases h
  · cases h
theorem b_tr {e : E} {e' : Expr} (h : Both X e' (evE c e)) : Both X e' (evE c (.tr e)) := by
  have core : ∀ σ H Q, LE X.K (evE c (.tr e)) σ H Q → LE X.K (evE c e) σ H Q := fun σ H Q q => by
    obtain ⟨ρ, env, S, d, S', hs, he, hf, hq⟩ := q
    rw [evE] at hf
    obtain ⟨x, S1, e1, hf⟩ := bnd_inv hf
    refine LE.mk hs he e1 fun H1 ρ1 v mm p s1 he1 r1 => ?_
    obtain ⟨ρ2, p2, s2, r2⟩ := fin_ok hs p s1 r1 hf
    exact hq H1 ρ2 v mm p2 s2 r2
  refine ⟨h.1.weakC core, h.2.weakC fun σ H Q q => ?_⟩
  obtain ⟨ρ, env, S, k, S', hs, he, hf, hq⟩ := q
  obtain ⟨d, hf, ht⟩ := tst_inv hf
  rw [evE] at hf
  obtain ⟨x, S1, e1, hf⟩ := bnd_inv hf
  -- the truth of what is let go is the truth ahead of it
  have tt : truth S1 x = some k ∧ ∀ H1 ρ1, Mono H H1 → ρ <+: ρ1 → Sr X.K H1 ρ1 S1 → ∃ ρ2, ρ <+: ρ2 ∧ Sr X.K H1 ρ2 S' := by
    have hf0 := hf
    unfold fin at hf
    split at hf
    · rename_i pr
      simp only at hf
      split at hf
      · rename_i u
        cases hf
        refine ⟨?_, fun H1 ρ1 mm p s1 => ⟨ρ, List.prefix_refl _, hs.cut p s1 pr⟩⟩
        cases d with
        | loc n =>
          have hn : n < S.length := u
          simp only [truth, getL] at ht ⊢
          rw [List.getElem?_take, if_pos hn] at ht
          exact ht
        | _ => exact ht
      · cases x with
        | loc n =>
          simp only at hf
          split at hf
          · rename_i xs e2
            split at hf
            · cases hf
              have e2 : (S1 : Sto)[n]? = some xs := e2
              have lt : (S1.take S.length).length = S.length := by rw [List.length_take, Nat.min_eq_left pr.1]
              refine ⟨?_, fun H1 ρ1 mm p s1 => ?_⟩
              · simp only [truth, getL] at ht ⊢
                rw [e2]
                rw [List.getElem?_append_right (by rw [lt]; exact Nat.le_refl _), lt] at ht
                simpa using ht
              · obtain ⟨a, ea, _⟩ := s1.at_ n _ e2
                obtain ⟨ρ2, p2, s2, _⟩ := fin_ok (v := .ref a) hs p s1 (show Rp X.K H1 ρ1 (.loc n) (.ref a) from ⟨a, rfl, ea⟩) hf0
                exact ⟨ρ2, p2, s2⟩
            · cases hf
          · cases hf
        | _ => cases hf
    · cases hf
  refine LT.mk hs he (tst_mk e1 tt.1) fun H1 ρ1 mm p s1 he1 => ?_
  obtain ⟨ρ2, p2, s2⟩ := tt.2 H1 ρ1 mm p s1
  exact hq H1 ρ2 mm p2 s2
end
end Cs

set_option Elab.async false
set_option linter.all false
set_option maxRecDepth 100000
namespace Cs
open PySem PySem.Spec PyProof.Rows L2
variable [Sct]

section
variable {X : Cx} {m : MC} {c : Cfg} {kk : Nat}
theorem Good.blk (G : Good m c kk X) (s : Shared) (H : Hp) (scope : Scope) (cl : List (Str × Addr)) (C : Addr) (fp : List Addr) : Good m c kk (X.blk s H scope (compEnvC scope cl C X.env) fp) :=
  ⟨G.N, G.nd, G.calm, G.room, G.gd, G.mo⟩
theorem blk_fn (s : Shared) (H : Hp) (scope : Scope) (cl : List (Str × Addr)) (C : Addr) (fp : List Addr) : FnC (X.blk s H scope (compEnvC scope cl C X.env) fp) scope := by
  intro x h
  have keep : ∀ k : NameKind, k ≠ .free → scope.names.lookup x = some k → (relS scope X.env.scope).names.lookup x = some k := fun k hk e => lookup_relS_keep hk e
  have h' := isLoc_ok h
  rcases h' with e | e
  · exact ⟨.inl (keep _ (by decide) e), .inr (keep _ (by decide) e)⟩
  · exact ⟨.inr (keep _ (by decide) e), .inl (by show (scope.names.lookup x == some .cell) = true; rw [e]; rfl)⟩
theorem pts_weak {ifs : List Expr} {t t' : TT} (h : PTs X ifs t) (w : ∀ σ H Q, t' σ H Q → t σ H Q) : PTs X ifs t' := ⟨fun pins s σ H Q I q => h.run pins s σ H Q I (w _ _ _ q)⟩
/-- a comprehension's inner loop, walked -/
theorem lcL_walk {K : PySem.W.Frag} {cond : Ev → Sto → Option (Bool × Sto)} {elt : Ev → Sto → Option (D × Sto)} {iw : List D × Watch} {J : It} {t : Tg} {n0 : Nat} {Dd : Addr} {envw : Ev} {σ0 : L2.St} {vs : List Nat} {S0 Sf : Sto} {H1 Hs : Hp} {ρ1 ρs : List Addr} {Qe : Hp → Prop}
    (jok : JOk K H1 ρ1 iw J) (mm : Mono H1 Hs) (pp : ρ1 <+: ρs) (ss : Sr K Hs ρs S0) (he : EnvR K Hs ρs envw (wipe σ0 vs)) (hv : ∀ i ∈ t.slots, i ∈ vs) (ad : ρs[n0]? = some Dd) (hl : lcL cond elt iw.2 t n0 envw iw.1 S0 = some ((), Sf))
    (hq : ∀ H' ρ', Mono Hs H' → ρs <+: ρ' → Sr K H' ρ' Sf → Qe H') :
    ∃ W : Nat → Nat → Hp → Prop, (∃ m, W 0 m Hs) ∧ ∀ i m H, W i m H → (J.stop i H ∧ Qe H) ∨ (J.go i H ∧ ∃ Nx : Hp → Prop, (∀ H', Nx H' → ∃ m', m' < m ∧ W (i + 1) m' H') ∧ ∀ x H', J.yld i H x H' → LG K t x (wipe σ0 vs) H' fun σ2 H2 =>
      wipe σ2 vs = wipe σ0 vs ∧ LT K cond σ2 H2 fun b H3 => if b = true then LE K elt σ2 H3 fun y H4 => ∃ acc, H4 Dd = some (.lst acc) ∧ acc.length < sizeLine ∧ Nx (upd H4 Dd (.lst (acc ++ [y]))) else Nx H3) := by
  refine ⟨fun i m H2 => m = iw.1.length - i ∧ i ≤ iw.1.length ∧ ∃ ρ2 S2, Mono Hs H2 ∧ ρs <+: ρ2 ∧ Sr K H2 ρ2 S2 ∧ lcL cond elt iw.2 t n0 envw (iw.1.drop i) S2 = some ((), Sf),
    ⟨iw.1.length, by simp, Nat.zero_le _, ρs, S0, Mono.refl, List.prefix_refl _, ss, by rw [List.drop_zero]; exact hl⟩, ?_⟩
  rintro i m H2 ⟨rfl, hi, ρ2, S2, m2, p2, s2, hl2⟩
  by_cases hlt : i < iw.1.length
  · rw [List.drop_eq_getElem_cons hlt] at hl2
    unfold lcL at hl2
    split at hl2
    · rename_i stl
      obtain ⟨_, j2⟩ := jok i H2 ρ2 S2 (mm.trans m2) (pp.trans p2) s2 stl
      obtain ⟨go, yl⟩ := j2 iw.1[i] (List.getElem?_eq_getElem hlt)
      split at hl2
      · cases hl2
      · rename_i env1 ha
        obtain ⟨kb, S3, ec, hl3⟩ := bnd_inv hl2
        refine .inr ⟨go, fun H3 => ∃ ρ3 S3, Mono Hs H3 ∧ ρs <+: ρ3 ∧ Sr K H3 ρ3 S3 ∧ lcL cond elt iw.2 t n0 envw (iw.1.drop (i + 1)) S3 = some ((), Sf),
          fun H' ⟨ρ3, S3, a1, a2, a3, a4⟩ => ⟨iw.1.length - (i + 1), by omega, rfl, hlt, ρ3, S3, a1, a2, a3, a4⟩, fun x H3 y => ?_⟩
        obtain ⟨s3, m3, r3⟩ := yl x H3 y
        have e3 : EnvR K H3 ρ2 envw (wipe σ0 vs) := he.mono (m2.trans m3) p2
        refine ⟨ρ2, envw, _, env1, e3, r3, ha, fun σ' l e' w => ⟨by rw [w vs hv, wipe_wipe (fun _ h => h)], ?_⟩⟩
        refine LT.mk s3 e' ec fun H5 ρ5 m5 p5 s5 he5 => ?_
        cases kb with
        | true =>
          simp only [if_true] at hl3 ⊢
          obtain ⟨yd, S4, ey, hl4⟩ := bnd_inv hl3
          split at hl4
          · rename_i acc eg
            split at hl4
            · rename_i hlen
              refine LE.mk s5 he5 ey fun H6 ρ6 v m6 p6 s6 he6 r6 => ?_
              have ad6 : ρ6[n0]? = some Dd := pre_get p6 (pre_get p5 (pre_get p2 ad))
              obtain ⟨b, eb, us, hb, rb⟩ := s6.at_ _ _ (getM_so eg)
              rw [ad6] at eb; cases eb
              obtain ⟨s7, m7⟩ := s6.write (getM_so eg) ad6 (rb.append (RpL.one r6))
              exact ⟨us, hb, by rw [← rb.length]; exact hlen, ρ6, _, (((m2.trans m3).trans m5).trans m6).trans m7, (p2.trans p5).trans p6, s7, hl4⟩
            · cases hl4
          · cases hl4
        | false =>
          exact ⟨ρ5, S3, (m2.trans m3).trans m5, p2.trans p5, s5, hl3⟩
    · cases hl2
  · have ei : i = iw.1.length := by omega
    subst ei
    rw [List.drop_length] at hl2
    unfold lcL at hl2
    split at hl2
    · rename_i stl
      cases hl2
      obtain ⟨j1, _⟩ := jok _ H2 ρ2 _ (mm.trans m2) (pp.trans p2) s2 stl
      exact .inl ⟨j1 rfl, hq H2 ρ2 m2 p2 s2⟩
    · cases hl2
theorem lift_inv {α : Type} {o : Option α} {S S' : Sto} {a : α} (h : lift o S = some (a, S')) : o = some a ∧ S' = S := by
  unfold lift at h
  cases o with
  | none => cases h
  | some b => cases h; exact ⟨rfl, rfl⟩
theorem lc_core' {K : PySem.W.Frag} {k : IK} {es : List E} {t : Tg} {cnd e : E} {σ : L2.St} {H : Hp} {Q : VK} (q : LE K (evE c (.lc t k es cnd e)) σ H Q) :
    tLc (LI K k (evEs c es)) (LG K t) (LTe K (evE c cnd)) (LE K (evE c e)) t.slots σ H Q := by
  obtain ⟨ρ, env, S, d, S', hs, he, hf, hq⟩ := q
  rw [evE] at hf
  obtain ⟨xs, S1, e1, hf1⟩ := bnd_inv hf
  obtain ⟨iw, S1', e2, hf2⟩ := bnd_inv hf1
  obtain ⟨e2, rfl⟩ := lift_inv e2
  obtain ⟨u, Sf, hl, hf3⟩ := bnd_inv hf2
  cases hf3
  refine ⟨ρ, env, S, xs, S1', iw, hs, he, e1, e2, fun H1 ρ1 J mm p s1 he1 jok Dd hD => ?_⟩
  have n1 : Mono H1 (upd H1 Dd (.lst [])) := Mono.new hD
  have pq : ρ1 <+: ρ1 ++ [Dd] := ⟨[Dd], rfl⟩
  have ad : (ρ1 ++ [Dd])[S1'.length]? = some Dd := by rw [← s1.len]; simp
  exact lcL_walk (vs := t.slots) jok n1 pq (s1.newL hD (show RpL _ _ _ [] [] from rfl)) ((he1.mono n1 pq).wipe _) (fun _ h => h) ad hl fun H' ρ' m' p' s' => hq H' ρ' _ (mm.trans (n1.trans m')) (p.trans (pq.trans p')) s' ⟨Dd, rfl, pre_get p' ad⟩
theorem lc2_core' {K : PySem.W.Frag} {k k1 : IK} {es es1 : List E} {t t1 : Tg} {cnd cnd1 e : E} {σ : L2.St} {H : Hp} {Q : VK} (q : LE K (evE c (.lc2 t k es cnd t1 k1 es1 cnd1 e)) σ H Q) :
    tLc2 (LI K k (evEs c es)) (LG K t) (LTe K (evE c cnd)) (LI K k1 (evEs c es1)) (LG K t1) (LTe K (evE c cnd1)) (LE K (evE c e)) (t.slots ++ t1.slots) t1.slots σ H Q := by
  obtain ⟨ρ, env, S, d, S', hs, he, hf, hq⟩ := q
  rw [evE] at hf
  obtain ⟨xs, S1, e1, hf1⟩ := bnd_inv hf
  obtain ⟨iw, S1', e2, hf2⟩ := bnd_inv hf1
  obtain ⟨e2, rfl⟩ := lift_inv e2
  obtain ⟨u, Sf, hl, hf3⟩ := bnd_inv hf2
  cases hf3
  refine ⟨ρ, env, S, xs, S1', iw, hs, he, e1, e2, fun H1 ρ1 J mm p s1 he1 jok Dd hD => ?_⟩
  have n1 : Mono H1 (upd H1 Dd (.lst [])) := Mono.new hD
  have pq : ρ1 <+: ρ1 ++ [Dd] := ⟨[Dd], rfl⟩
  have ad : (ρ1 ++ [Dd])[S1'.length]? = some Dd := by rw [← s1.len]; simp
  generalize hin : (fun (env1 : Ev) (S2 : Sto) => bnd (evEs c es1 env1 S2) fun ys S3 => bnd (lift (items k1 ys S3) S3) fun iw1 S3 => lcL (fun env S => tst (evE c cnd1 env S)) (evE c e) iw1.2 t1 S1'.length (wipeE env1 t1.slots) iw1.1 S3) = inner at hl
  refine ⟨fun i m H2 => m = iw.1.length - i ∧ i ≤ iw.1.length ∧ ∃ ρ2 S2, Mono (upd H1 Dd (.lst [])) H2 ∧ (ρ1 ++ [Dd]) <+: ρ2 ∧ Sr K H2 ρ2 S2 ∧
      lc2L (fun env S => tst (evE c cnd env S)) inner iw.2 t (wipeE env (t.slots ++ t1.slots)) (iw.1.drop i) S2 = some ((), S'),
    ⟨iw.1.length, by simp, Nat.zero_le _, ρ1 ++ [Dd], S1' ++ [.lst []], Mono.refl, List.prefix_refl _, s1.newL hD (show RpL _ _ _ [] [] from rfl), by rw [List.drop_zero]; exact hl⟩, ?_⟩
  rintro i m H2 ⟨rfl, hi, ρ2, S2, m2, p2, s2, hl2⟩
  have pr1 : ρ1 <+: ρ2 := pq.trans p2
  by_cases hlt : i < iw.1.length
  · rw [List.drop_eq_getElem_cons hlt] at hl2
    unfold lc2L at hl2
    split at hl2
    · rename_i stl
      obtain ⟨_, j2⟩ := jok i H2 ρ2 S2 (n1.trans m2) pr1 s2 stl
      obtain ⟨go, yl⟩ := j2 iw.1[i] (List.getElem?_eq_getElem hlt)
      split at hl2
      · cases hl2
      · rename_i env1 ha
        obtain ⟨kb, S3, ec, hl3⟩ := bnd_inv hl2
        refine .inr ⟨go, fun H3 => ∃ ρ3 S3, Mono (upd H1 Dd (.lst [])) H3 ∧ (ρ1 ++ [Dd]) <+: ρ3 ∧ Sr K H3 ρ3 S3 ∧
          lc2L (fun env S => tst (evE c cnd env S)) inner iw.2 t (wipeE env (t.slots ++ t1.slots)) (iw.1.drop (i + 1)) S3 = some ((), S'),
          fun H' ⟨ρ3, S3, a1, a2, a3, a4⟩ => ⟨iw.1.length - (i + 1), by omega, rfl, hlt, ρ3, S3, a1, a2, a3, a4⟩, fun x H3 y => ?_⟩
        obtain ⟨s3, m3, r3⟩ := yl x H3 y
        have e3 : EnvR K H3 ρ2 env σ := he1.mono ((n1.trans m2).trans m3) pr1
        refine ⟨ρ2, wipeE env (t.slots ++ t1.slots), _, env1, e3.wipe _, r3, ha, fun σ' l e' w => ⟨by rw [w _ (fun i hi => List.mem_append_left _ hi), wipe_wipe (fun _ h => h)], ?_⟩⟩
        refine LT.mk s3 e' ec fun H5 ρ5 m5 p5 s5 he5 => ?_
        cases kb with
        | true =>
          simp only [if_true] at hl3 ⊢
          obtain ⟨_, S4, ey, hl4⟩ := bnd_inv hl3
          rw [← hin] at ey
          obtain ⟨ys, S6, e6, ey1⟩ := bnd_inv ey
          obtain ⟨iw1, S6', e7, ey2⟩ := bnd_inv ey1
          obtain ⟨e7, rfl⟩ := lift_inv e7
          refine ⟨ρ5, env1, S3, ys, S6', iw1, s5, he5, e6, e7, fun H7 ρ7 J1 m7 p7 s7 he7 jok1 => ?_⟩
          have ad7 : ρ7[S1'.length]? = some Dd := pre_get p7 (pre_get p5 (pre_get p2 ad))
          refine lcL_walk (vs := t1.slots) jok1 Mono.refl (List.prefix_refl _) s7 (he7.wipe _) (fun _ h => h) ad7 ey2 fun H' ρ' m' p' s' => ?_
          exact ⟨ρ', S4, (((m2.trans m3).trans m5).trans m7).trans m', ((p2.trans p5).trans p7).trans p', s', hl4⟩
        | false =>
          exact ⟨ρ5, S3, (m2.trans m3).trans m5, p2.trans p5, s5, hl3⟩
    · cases hl2
  · have ei : i = iw.1.length := by omega
    subst ei
    rw [List.drop_length] at hl2
    unfold lc2L at hl2
    split at hl2
    · rename_i stl
      cases hl2
      obtain ⟨j1, _⟩ := jok _ H2 ρ2 S' (n1.trans m2) pr1 s2 stl
      exact .inl ⟨j1 rfl, hq H2 ρ2 _ (mm.trans (n1.trans m2)) (p.trans pr1) s2 ⟨Dd, rfl, pre_get p2 ad⟩⟩
    · cases hl2
theorem b_lc {t : Tg} {k : IK} {es : List E} {cnd e : E} {tg it elt : Expr} {ifs : List Expr} {scope : Scope} {p : Pos} (G : Good m c kk X) (hi : PI X tg it (LI X.K k (evEs c es))) (hs : ∀ x, foldedSetIterable it X.env x = pure x)
    (ok : blkC m.N X.env.scope scope (t.slots.map fun i => (m.N.getD i default, i)) = true) (htg : mTg m.N scope t tg = true)
    (ht : ∀ X' : Cx, Good m c kk X' → X'.env.scope = relS scope X.env.scope → X'.K = X.K → PTs X' ifs (LTe X.K (evE c cnd)))
    (he : ∀ X' : Cx, Good m c kk X' → X'.env.scope = relS scope X.env.scope → X'.K = X.K → PE X' elt (LE X.K (evE c e))) : Both X (.ListComp elt [⟨tg, it, ifs, 0⟩] scope p) (evE c (.lc t k es cnd e)) := by
  have own : (t.slots.map fun i => (m.N.getD i default, i)).map (·.2) = t.slots := by
    rw [List.map_map]
    show t.slots.map (fun i => i) = _
    simp
  have pe : PE X (.ListComp elt [⟨tg, it, ifs, 0⟩] scope p) (LE X.K (evE c (.lc t k es cnd e))) := by
    refine (pe_lc (own := t.slots.map fun i => (m.N.getD i default, i)) (g := LG X.K t) (tt := LTe X.K (evE c cnd)) (te := LE X.K (evE c e)) G.calm (by rw [G.N]; exact G.nd) hi (blkOk_by (by rw [G.N]; exact ok))
      (fun s H C cl fp => ?_) (fun s H C cl fp => ht _ (G.blk s H scope cl C fp) rfl rfl) (fun s H C cl fp => he _ (G.blk s H scope cl C fp) rfl rfl) hs).weakC fun σ H Q q => ?_
    · exact pg_tg (X := X.blk s H scope (compEnvC scope cl C X.env) fp) G.N G.nd G.calm (blk_fn s H scope cl C fp) htg
    · rw [own]
      exact lc_core' q
  exact ⟨pe, pt_of pe fun _ => rfl⟩
theorem own_of {is : List Nat} : (is.map fun i => (m.N.getD i default, i)).map (·.2) = is := by
  rw [List.map_map]
  show is.map (fun i => i) = _
  simp
theorem b_lc2 {t t1 : Tg} {k k1 : IK} {es es1 : List E} {cnd cnd1 e : E} {tg it tg1 it1 elt : Expr} {ifs ifs1 : List Expr} {scope : Scope} {p : Pos} (G : Good m c kk X) (hi : PI X tg it (LI X.K k (evEs c es))) (hs : ∀ x, foldedSetIterable it X.env x = pure x)
    (hs1 : ∀ env x, foldedSetIterable it1 env x = pure x) (ok : blkC m.N X.env.scope scope ((t.slots ++ t1.slots).map fun i => (m.N.getD i default, i)) = true) (htg : mTg m.N scope t tg = true) (htg1 : mTg m.N scope t1 tg1 = true)
    (hi1 : ∀ X' : Cx, Good m c kk X' → X'.env.scope = relS scope X.env.scope → X'.K = X.K → PI X' tg1 it1 (LI X.K k1 (evEs c es1)))
    (ht : ∀ X' : Cx, Good m c kk X' → X'.env.scope = relS scope X.env.scope → X'.K = X.K → PTs X' ifs (LTe X.K (evE c cnd)))
    (ht1 : ∀ X' : Cx, Good m c kk X' → X'.env.scope = relS scope X.env.scope → X'.K = X.K → PTs X' ifs1 (LTe X.K (evE c cnd1)))
    (he : ∀ X' : Cx, Good m c kk X' → X'.env.scope = relS scope X.env.scope → X'.K = X.K → PE X' elt (LE X.K (evE c e))) : Both X (.ListComp elt [⟨tg, it, ifs, 0⟩, ⟨tg1, it1, ifs1, 0⟩] scope p) (evE c (.lc2 t k es cnd t1 k1 es1 cnd1 e)) := by
  have pe : PE X (.ListComp elt [⟨tg, it, ifs, 0⟩, ⟨tg1, it1, ifs1, 0⟩] scope p) (LE X.K (evE c (.lc2 t k es cnd t1 k1 es1 cnd1 e))) := by
    refine (pe_lc2 (own := (t.slots ++ t1.slots).map fun i => (m.N.getD i default, i)) (vs1 := t1.slots) (g := LG X.K t) (g1 := LG X.K t1) (tt := LTe X.K (evE c cnd)) (tt1 := LTe X.K (evE c cnd1)) (te := LE X.K (evE c e)) (wi1 := LI X.K k1 (evEs c es1)) G.calm (by rw [G.N]; exact G.nd) hi (blkOk_by (by rw [G.N]; exact ok)) (fun i h => by rw [own_of]; exact List.mem_append_right _ h)
      (fun s H C cl fp => pg_tg (X := X.blk s H scope (compEnvC scope cl C X.env) fp) G.N G.nd G.calm (blk_fn s H scope cl C fp) htg) (fun s H C cl fp => ht _ (G.blk s H scope cl C fp) rfl rfl) (fun s H C cl fp => hi1 _ (G.blk s H scope cl C fp) rfl rfl)
      (fun s H C cl fp => pg_tg (X := X.blk s H scope (compEnvC scope cl C X.env) fp) G.N G.nd G.calm (blk_fn s H scope cl C fp) htg1) (fun s H C cl fp => ht1 _ (G.blk s H scope cl C fp) rfl rfl) (fun s H C cl fp => he _ (G.blk s H scope cl C fp) rfl rfl) hs hs1).weakC fun σ H Q q => ?_
    rw [own_of]
    exact lc2_core' q
  exact ⟨pe, pt_of pe fun _ => rfl⟩
theorem evEs_len : ∀ {es : List E} {env : Ev} {S : Sto} {xs : List D} {S' : Sto}, evEs c es env S = some (xs, S') → xs.length = es.length
  | [], _, _, _, _, h => by rw [evEs] at h; cases h; rfl
  | e :: es, env, S, xs, S', h => by
    rw [evEs] at h
    obtain ⟨x, S1, _, h⟩ := bnd_inv h
    obtain ⟨ys, S2, h2, h⟩ := bnd_inv h
    cases h
    simp [evEs_len h2]
theorem mEs_len {sc : Scope} : ∀ {es : List E} {es' : List Expr}, mEs m sc es es' = true → es.length = es'.length
  | [], [], _ => rfl
  | [], _ :: _, h => by simp [mEs] at h
  | _ :: _, [], h => by simp [mEs] at h
  | e :: es, e' :: es', h => by
    rw [mEs, Bool.and_eq_true] at h
    simp [mEs_len h.2]
theorem pa_nil' : PA X [] (LA X.K (evEs c [])) := pa_nil.weakC fun σ H Q q => by
  obtain ⟨ρ, env, S, ds, S', hs, he, hf, hq⟩ := q
  rw [evEs] at hf
  cases hf
  exact hq H ρ [] Mono.refl (List.prefix_refl _) hs rfl
theorem pa_cons' {e : E} {es : List E} {e' : Expr} {es' : List Expr} (h1 : PE X e' (LE X.K (evE c e))) (h2 : PA X es' (LA X.K (evEs c es))) (hs : starEach (e' :: es') X.env = (false, eval e' X.env) :: starEach es' X.env) : PA X (e' :: es') (LA X.K (evEs c (e :: es))) :=
  (pa_cons h1 h2 hs).weakC fun σ H Q q => by
    obtain ⟨ρ, env, S, ds, S', hs, he, hf, hq⟩ := q
    rw [evEs] at hf
    obtain ⟨x, S1, e1, hf⟩ := bnd_inv hf
    obtain ⟨ys, S2, e2, hf⟩ := bnd_inv hf
    cases hf
    exact LE.mk hs he e1 fun H1 ρ1 v mm p s1 he1 r1 => LA.mk s1 he1 e2 fun H2 ρ2 vs m2 p2 s2 he2 r2 => hq H2 ρ2 (v :: vs) (mm.trans m2) (p.trans p2) s2 ⟨v, vs, rfl, r1.mono m2 p2 _ _, r2⟩
theorem mE_set {sc : Scope} {l : List Expr} {n : Nat} {p : Pos} : ∀ e : E, mE m sc e (.Set l n p) = false
  | .tr e => by rw [mE]; exact mE_set e
  | .var _ | .cn _ | .glb _ | .bin .. | .neg _ | .cmp .. | .isN _ | .notN _ | .isB .. | .isi .. | .nt _ | .and .. | .or .. | .ife .. | .tup _ | .lst _ | .idx .. | .slc .. | .call .. | .blt .. | .mth .. | .lc .. | .lc2 .. | .dnew | .mth0 .. | .dict1 .. | .dc .. | .gget .. | .gin .. | .dzip .. | .trev _ | .lrng _ => by simp [mE]
theorem fold_of {sc : Scope} {es : List E} {es' : List Expr} {k : IK} {it : Expr} {env : Env} {tg : Expr} (h : itX tg sc k it = some es') (hm : mEs m sc es es' = true) : ∀ x, foldedSetIterable it env x = pure x := by
  intro x
  cases it with
  | Set elts n p =>
    exfalso
    cases k with
    | seq =>
      cases h
      match es, hm with
      | [e], hm =>
        rw [mEs, Bool.and_eq_true] at hm
        rw [mE_set] at hm
        exact absurd hm.1 (by decide)
      | [], hm => simp [mEs] at hm
      | _ :: _ :: _, hm => simp [mEs] at hm
    | _ => cases h
  | _ => rfl
theorem isTrueE_ok {e : E} (h : isTrueE e = true) : e = .cn (.bl true) := by
  unfold isTrueE at h
  split at h
  · rfl
  · cases h
theorem stars_tl {e : Expr} {es : List Expr} {env : Env} (h : starEach (e :: es) env = (e :: es).map fun e => (false, eval e env)) : starEach es env = es.map fun e => (false, eval e env) := by
  cases e with
  | Starred x p =>
    have h2 : ((true, eval x env) :: starEach es env) = (false, eval (.Starred x p) env) :: es.map fun e => (false, eval e env) := h
    simp at h2
  | _ => exact (List.cons.inj h).2
theorem mE_isN {sc : Scope} {a : E} {e' : Expr} (h : mE m sc (.isN a) e' = true) : ∃ a' n p p2, e' = .Compare a' [.Is] [.Constant .none n p] p2 ∧ mE m sc a a' = true := by
  unfold mE at h
  split at h
  all_goals first | (cases h; done) | (cases ‹E.isN _ = _›; done) | (cases ‹E.isN _ = _›; exact ⟨_, _, _, _, rfl, h⟩)
theorem mE_notN {sc : Scope} {a : E} {e' : Expr} (h : mE m sc (.notN a) e' = true) : ∃ a' n p p2, e' = .Compare a' [.IsNot] [.Constant .none n p] p2 ∧ mE m sc a a' = true := by
  unfold mE at h
  split at h
  all_goals first | (cases h; done) | (cases ‹E.notN _ = _›; done) | (cases ‹E.notN _ = _›; exact ⟨_, _, _, _, rfl, h⟩)
theorem mE_isB {sc : Scope} {a : E} {b : Bool} {e' : Expr} (h : mE m sc (.isB a b) e' = true) : ∃ a' n p p2, e' = .Compare a' [.Is] [.Constant (.bool b) n p] p2 ∧ mE m sc a a' = true := by
  unfold mE at h
  split at h
  all_goals first | (cases h; done) | (cases ‹E.isB _ _ = _›; done) | (cases ‹E.isB _ _ = _›; rw [Bool.and_eq_true] at h; have e := eq_of_beq h.2; subst e; exact ⟨_, _, _, _, rfl, h.1⟩)
theorem mE_slc {sc : Scope} {a lo hi : E} {e' : Expr} (h : mE m sc (.slc a lo hi) e' = true) : ∃ a' l' h' p p2, e' = .Subscript a' (.Slice l' h' none p2) p ∧ mE m sc a a' = true ∧
    (match l' with | none => isNonE lo = true | some l => mE m sc lo l = true ∧ isNonE lo = false) ∧ (match h' with | none => isNonE hi = true | some l => mE m sc hi l = true ∧ isNonE hi = false) := by
  unfold mE at h
  split at h
  all_goals first | (cases h; done) | (cases ‹E.slc _ _ _ = _›; done) | skip
  cases ‹E.slc _ _ _ = _›
  rename_i a' l' h' p2 p
  rw [Bool.and_eq_true, Bool.and_eq_true] at h
  refine ⟨_, l', h', _, _, rfl, h.1.1, ?_, ?_⟩
  · have := h.1.2
    cases l' with
    | none => exact this
    | some l => simpa using this
  · have := h.2
    cases h' with
    | none => exact this
    | some l => simpa using this
theorem mE_call {sc : Scope} {f : String} {es : List E} {e' : Expr} (h : mE m sc (.call f es) e' = true) : ∃ e1 es' p p2, e' = .Call (.Name (Str.ofString f) p) (e1 :: es') [] p2 ∧ f ∈ m.fs ∧ isGl sc (Str.ofString f) = true ∧ nd (Str.ofString f) = true ∧ mEs m sc es (e1 :: es') = true := by
  unfold mE at h
  split at h
  all_goals first | (cases h; done) | (cases ‹E.call _ _ = _›; done) | skip
  cases ‹E.call _ _ = _›
  simp only [Bool.and_eq_true, decide_eq_true_eq] at h
  obtain ⟨⟨⟨⟨⟨rfl, h1⟩, h2⟩, h3⟩, h4⟩, h5⟩ := h
  rename_i es' p
  have hl := mEs_len h4
  cases es' with
  | nil => simp at hl; rw [hl] at h5; cases h5
  | cons e1 r => exact ⟨e1, r, _, _, rfl, by simpa using h1, h2, h3, h4⟩
theorem mE_blt {sc : Scope} {f : String} {es : List E} {e' : Expr} (h : mE m sc (.blt f es) e' = true) : ∃ e1 es' p p2, e' = .Call (.Name (Str.ofString f) p) (e1 :: es') [] p2 ∧ (f ∈ bltFns ∨ f ∈ bltTys) ∧ isGl sc (Str.ofString f) = true ∧ nd (Str.ofString f) = true ∧ mEs m sc es (e1 :: es') = true ∧ (f = "dict" → Sct.md = .pln) := by
  unfold mE at h
  split at h
  all_goals first | (cases h; done) | (cases ‹E.blt _ _ = _›; done) | skip
  cases ‹E.blt _ _ = _›
  simp only [Bool.and_eq_true, decide_eq_true_eq, Bool.or_eq_true] at h
  obtain ⟨⟨⟨⟨⟨⟨rfl, h1⟩, h2⟩, h3⟩, h4⟩, h5⟩, h6⟩ := h
  rename_i es' p
  have hl := mEs_len h4
  cases es' with
  | nil => simp at hl; rw [hl] at h5; cases h5
  | cons e1 r => exact ⟨e1, r, _, _, rfl, by simpa using h1, h2, h3, h4, fun z => by subst z; simpa using h6⟩
theorem mE_mth {sc : Scope} {f : String} {o : E} {es : List E} {e' : Expr} (h : mE m sc (.mth f o es) e' = true) : ∃ o' e1 es' ap cp, e' = .Call (.Attribute o' (Str.ofString (mNm f)) ap) (e1 :: es') [] cp ∧ f ∈ mthFns ∧ mE m sc o o' = true ∧ simpleO o = true ∧ mEs m sc es (e1 :: es') = true ∧ es.length < 29 ∧ lineOk ap cp = true := by
  unfold mE at h
  split at h
  all_goals first | (cases h; done) | (cases ‹E.mth _ _ _ = _›; done) | skip
  cases ‹E.mth _ _ _ = _›
  simp only [Bool.and_eq_true, decide_eq_true_eq] at h
  obtain ⟨⟨⟨⟨⟨⟨⟨rfl, h1⟩, h2⟩, h3⟩, h4⟩, h5⟩, h6⟩, h7⟩ := h
  rename_i es' p
  have hl := mEs_len h4
  cases es' with
  | nil => simp at hl; rw [hl] at h5; cases h5
  | cons e1 r => exact ⟨_, e1, r, _, _, rfl, by simpa using h1, h2, h3, h4, h6, h7⟩
theorem mE_isi {sc : Scope} {a : E} {T : String} {e' : Expr} (h : mE m sc (.isi a T) e' = true) : ∃ a' p p2 p3, e' = .Call (.Name (Str.ofString "isinstance") p) [a', .Name (Str.ofString T) p2] [] p3 ∧ T ∈ isiTys ∧ isGl sc (Str.ofString "isinstance") = true ∧ isGl sc (Str.ofString T) = true ∧ nd (Str.ofString T) = true ∧ mE m sc a a' = true := by
  unfold mE at h
  split at h
  all_goals first | (cases h; done) | (cases ‹E.isi _ _ = _›; done) | skip
  cases ‹E.isi _ _ = _›
  simp only [Bool.and_eq_true, decide_eq_true_eq] at h
  obtain ⟨⟨⟨⟨⟨⟨rfl, rfl⟩, h1⟩, h2⟩, h3⟩, h4⟩, h5⟩ := h
  exact ⟨_, _, _, _, rfl, by simpa using h1, h2, h3, h4, h5⟩
theorem mE_lc2 {sc : Scope} {t t1 : Tg} {k k1 : IK} {es es1 : List E} {c c1 e : E} {e' : Expr} (h : mE m sc (.lc2 t k es c t1 k1 es1 c1 e) e' = true) : ∃ elt tg it ifs tg1 it1 ifs1 scope p es' es1', e' = .ListComp elt [⟨tg, it, ifs, 0⟩, ⟨tg1, it1, ifs1, 0⟩] scope p ∧ mTg m.N scope t tg = true ∧ mTg m.N scope t1 tg1 = true ∧
    itX tg sc k it = some es' ∧ mEs m sc es es' = true ∧ itX tg1 (relS scope sc) k1 it1 = some es1' ∧ mEs m (relS scope sc) es1 es1' = true ∧
    (match ifs with | [] => isTrueE c = true | [i] => mE m (relS scope sc) c i = true | _ => False) ∧ (match ifs1 with | [] => isTrueE c1 = true | [i] => mE m (relS scope sc) c1 i = true | _ => False) ∧ mE m (relS scope sc) e elt = true ∧ blkC m.N sc scope ((t.slots ++ t1.slots).map fun i => (m.N.getD i default, i)) = true := by
  unfold mE at h
  split at h
  all_goals first | (cases h; done) | (cases ‹E.lc2 _ _ _ _ _ _ _ _ _ = _›; done) | skip
  cases ‹E.lc2 _ _ _ _ _ _ _ _ _ = _›
  simp only [Bool.and_eq_true] at h
  obtain ⟨⟨⟨⟨⟨⟨⟨⟨⟨h1, h2⟩, h3⟩, h4⟩, h5⟩, h6⟩, h7⟩, h8⟩, h9⟩, h10⟩ := h
  have e0 := eq_of_beq h8
  have e1 := eq_of_beq h9
  subst e0 e1
  split at h3
  · rename_i es' hx
    split at h4
    · rename_i es1' hx1
      refine ⟨_, _, _, _, _, _, _, _, _, es', es1', rfl, h1, h2, hx, h3, hx1, h4, ?_, ?_, h7, h10⟩
      · split at h5
        · exact h5
        · exact h5
        · cases h5
      · split at h6
        · exact h6
        · exact h6
        · cases h6
    · cases h4
  · cases h3
theorem mE_lc {sc : Scope} {t : Tg} {k : IK} {es : List E} {c e : E} {e' : Expr} (h : mE m sc (.lc t k es c e) e' = true) : ∃ elt tg it ifs scope p es', e' = .ListComp elt [⟨tg, it, ifs, 0⟩] scope p ∧ mTg m.N scope t tg = true ∧ itX tg sc k it = some es' ∧ mEs m sc es es' = true ∧
    (match ifs with | [] => isTrueE c = true | [i] => mE m (relS scope sc) c i = true | _ => False) ∧ mE m (relS scope sc) e elt = true ∧ blkC m.N sc scope (t.slots.map fun i => (m.N.getD i default, i)) = true := by
  unfold mE at h
  split at h
  all_goals first | (cases h; done) | (cases ‹E.lc _ _ _ _ _ = _›; done) | skip
  cases ‹E.lc _ _ _ _ _ = _›
  simp only [Bool.and_eq_true] at h
  obtain ⟨⟨⟨⟨⟨h1, h2⟩, h3⟩, h4⟩, h5⟩, h6⟩ := h
  have e0 := eq_of_beq h5
  subst e0
  split at h2
  · rename_i es' hx
    refine ⟨_, _, _, _, _, _, es', rfl, h1, hx, h2, ?_, h4, h6⟩
    split at h3
    · exact h3
    · exact h3
    · cases h3
  · cases h2
theorem mE_mth0 {sc : Scope} {f : String} {o : E} {e' : Expr} (h : mE m sc (.mth0 f o) e' = true) : ∃ o' ap cp, e' = .Call (.Attribute o' (Str.ofString f) ap) [] [] cp ∧ f ∈ mth0Fns ∧ mE m sc o o' = true ∧ simpleO o = true ∧ lineOk ap cp = true := by
  unfold mE at h
  split at h
  all_goals first | (cases h; done) | (cases ‹E.mth0 _ _ = _›; done) | skip
  cases ‹E.mth0 _ _ = _›
  simp only [Bool.and_eq_true, decide_eq_true_eq] at h
  obtain ⟨⟨⟨⟨rfl, h1⟩, h2⟩, h3⟩, h4⟩ := h
  exact ⟨_, _, _, rfl, by simpa using h1, h2, h3, h4⟩
theorem mE_dict1 {sc : Scope} {k v : E} {e' : Expr} (h : mE m sc (.dict1 k v) e' = true) : ∃ k' v' p, e' = .Dict [some k'] [v'] p ∧ Sct.md = .trk ∧ mE m sc k k' = true ∧ mE m sc v v' = true := by
  unfold mE at h
  split at h
  all_goals first | (cases h; done) | (cases ‹E.dict1 _ _ = _›; done) | skip
  cases ‹E.dict1 _ _ = _›
  simp only [Bool.and_eq_true, decide_eq_true_eq] at h
  exact ⟨_, _, _, rfl, h.1.1, h.1.2, h.2⟩
theorem mE_gget {sc : Scope} {g : String} {i : E} {e' : Expr} (h : mE m sc (.gget g i) e' = true) : ∃ i' p p2, e' = .Subscript (.Name (Str.ofString g) p) i' p2 ∧ g ∈ m.ds ∧ isGl sc (Str.ofString g) = true ∧ nd (Str.ofString g) = true ∧ mE m sc i i' = true := by
  unfold mE at h
  split at h
  all_goals first | (cases h; done) | (cases ‹E.gget _ _ = _›; done) | skip
  cases ‹E.gget _ _ = _›
  simp only [Bool.and_eq_true, decide_eq_true_eq] at h
  obtain ⟨⟨⟨⟨rfl, h1⟩, h2⟩, h3⟩, h4⟩ := h
  exact ⟨_, _, _, rfl, by simpa using h1, h2, h3, h4⟩
theorem mE_gin {sc : Scope} {neg : Bool} {g : String} {a : E} {e' : Expr} (h : mE m sc (.gin neg g a) e' = true) : ∃ a' o p p2, e' = .Compare a' [o] [.Name (Str.ofString g) p] p2 ∧ o = (if neg then CmpOp.NotIn else .In) ∧ g ∈ m.ds ∧ isGl sc (Str.ofString g) = true ∧ nd (Str.ofString g) = true ∧ mE m sc a a' = true := by
  unfold mE at h
  split at h
  all_goals first | (cases h; done) | (cases ‹E.gin _ _ _ = _›; done) | skip
  cases ‹E.gin _ _ _ = _›
  simp only [Bool.and_eq_true, decide_eq_true_eq] at h
  obtain ⟨⟨⟨⟨⟨h0, rfl⟩, h1⟩, h2⟩, h3⟩, h4⟩ := h
  refine ⟨_, _, _, _, rfl, ?_, by simpa using h1, h2, h3, h4⟩
  split at h0
  · rfl
  · rfl
  · cases h0
theorem mE_dzip {sc : Scope} {a b : E} {e' : Expr} (h : mE m sc (.dzip a b) e' = true) : ∃ a' b' p1 p2 p3 p4, e' = .Call (.Name (Str.ofString "dict") p1) [.Call (.Name (Str.ofString "zip") p2) [a', b'] [] p3] [] p4 ∧ isGl sc (Str.ofString "dict") = true ∧ isGl sc (Str.ofString "zip") = true ∧ mE m sc a a' = true ∧ mE m sc b b' = true := by
  unfold mE at h
  split at h
  all_goals first | (cases h; done) | (cases ‹E.dzip _ _ = _›; done) | skip
  cases ‹E.dzip _ _ = _›
  simp only [Bool.and_eq_true, decide_eq_true_eq] at h
  obtain ⟨⟨⟨⟨⟨rfl, rfl⟩, h1⟩, h2⟩, h3⟩, h4⟩ := h
  exact ⟨_, _, _, _, _, _, rfl, h1, h2, h3, h4⟩
theorem mE_trev {sc : Scope} {a : E} {e' : Expr} (h : mE m sc (.trev a) e' = true) : ∃ a' p1 p2 p3 p4, e' = .Call (.Name (Str.ofString "tuple") p1) [.Call (.Name (Str.ofString "reversed") p2) [a'] [] p3] [] p4 ∧ isGl sc (Str.ofString "tuple") = true ∧ isGl sc (Str.ofString "reversed") = true ∧ mE m sc a a' = true := by
  unfold mE at h
  split at h
  all_goals first | (cases h; done) | (cases ‹E.trev _ = _›; done) | skip
  cases ‹E.trev _ = _›
  simp only [Bool.and_eq_true, decide_eq_true_eq] at h
  obtain ⟨⟨⟨⟨rfl, rfl⟩, h1⟩, h2⟩, h3⟩ := h
  exact ⟨_, _, _, _, _, rfl, h1, h2, h3⟩
theorem mE_lrng {sc : Scope} {a : E} {e' : Expr} (h : mE m sc (.lrng a) e' = true) : ∃ a' p1 p2 p3 p4, e' = .Call (.Name (Str.ofString "list") p1) [.Call (.Name (Str.ofString "range") p2) [a'] [] p3] [] p4 ∧ isGl sc (Str.ofString "list") = true ∧ isGl sc (Str.ofString "range") = true ∧ mE m sc a a' = true := by
  unfold mE at h
  split at h
  all_goals first | (cases h; done) | (cases ‹E.lrng _ = _›; done) | skip
  cases ‹E.lrng _ = _›
  simp only [Bool.and_eq_true, decide_eq_true_eq] at h
  obtain ⟨⟨⟨⟨rfl, rfl⟩, h1⟩, h2⟩, h3⟩ := h
  exact ⟨_, _, _, _, _, rfl, h1, h2, h3⟩
theorem mE_dc {sc : Scope} {t : Tg} {k : IK} {es : List E} {c ke ve : E} {e' : Expr} (h : mE m sc (.dc t k es c ke ve) e' = true) : ∃ kx vx tg it ifs scope p es', e' = .DictComp kx vx [⟨tg, it, ifs, 0⟩] scope p ∧ mTg m.N scope t tg = true ∧ itX tg sc k it = some es' ∧ mEs m sc es es' = true ∧
    (match ifs with | [] => isTrueE c = true | [i] => mE m (relS scope sc) c i = true | _ => False) ∧ mE m (relS scope sc) ke kx = true ∧ mE m (relS scope sc) ve vx = true ∧ blkC m.N sc scope (t.slots.map fun i => (m.N.getD i default, i)) = true ∧ Sct.md = .trk := by
  unfold mE at h
  split at h
  all_goals first | (cases h; done) | (cases ‹E.dc _ _ _ _ _ _ = _›; done) | skip
  cases ‹E.dc _ _ _ _ _ _ = _›
  simp only [Bool.and_eq_true, decide_eq_true_eq] at h
  obtain ⟨⟨⟨⟨⟨⟨⟨h1, h2⟩, h3⟩, h4⟩, h5⟩, h6⟩, h7⟩, h8⟩ := h
  have e0 := eq_of_beq h6
  subst e0
  split at h2
  · rename_i es' hx
    refine ⟨_, _, _, _, _, _, _, es', rfl, h1, hx, h2, ?_, h4, h5, h7, h8⟩
    split at h3
    · exact h3
    · exact h3
    · cases h3
  · cases h2
/-- a dict comprehension's loop, walked -/
theorem dcL_walk {K : PySem.W.Frag} {cond : Ev → Sto → Option (Bool × Sto)} {ke ve : Ev → Sto → Option (D × Sto)} {iw : List D × Watch} {J : It} {t : Tg} {n0 : Nat} {Dd : Addr} {envw : Ev} {σ0 : L2.St} {vs : List Nat} {S0 Sf : Sto} {H1 Hs : Hp} {ρ1 ρs : List Addr} {Qe : Hp → Prop} (md : Sct.md = .trk)
    (jok : JOk K H1 ρ1 iw J) (mm : Mono H1 Hs) (pp : ρ1 <+: ρs) (ss : Sr K Hs ρs S0) (he : EnvR K Hs ρs envw (wipe σ0 vs)) (hv : ∀ i ∈ t.slots, i ∈ vs) (ad : ρs[n0]? = some Dd) (hl : dcL cond ke ve iw.2 t n0 envw iw.1 S0 = some ((), Sf))
    (hq : ∀ H' ρ', Mono Hs H' → ρs <+: ρ' → Sr K H' ρ' Sf → Qe H') :
    ∃ W : Nat → Nat → Hp → Prop, (∃ m, W 0 m Hs) ∧ ∀ i m H, W i m H → (J.stop i H ∧ Qe H) ∨ (J.go i H ∧ ∃ Nx : Hp → Prop, (∀ H', Nx H' → ∃ m', m' < m ∧ W (i + 1) m' H') ∧ ∀ x H', J.yld i H x H' → LG K t x (wipe σ0 vs) H' fun σ2 H2 =>
      wipe σ2 vs = wipe σ0 vs ∧ LT K cond σ2 H2 fun b H3 => if b = true then LE K ke σ2 H3 fun y H4 => LE K ve σ2 H4 fun z H5 => ∃ kvs ks p, y = .ref p ∧ H5 p = some (.tup (ks.map kV)) ∧ H5 Dd = some (.dT kvs) ∧ kvs.length < sizeLine ∧ Nx (upd H5 Dd (.dT (putK kvs ks z))) else Nx H3) := by
  refine ⟨fun i m H2 => m = iw.1.length - i ∧ i ≤ iw.1.length ∧ ∃ ρ2 S2, Mono Hs H2 ∧ ρs <+: ρ2 ∧ Sr K H2 ρ2 S2 ∧ dcL cond ke ve iw.2 t n0 envw (iw.1.drop i) S2 = some ((), Sf),
    ⟨iw.1.length, by simp, Nat.zero_le _, ρs, S0, Mono.refl, List.prefix_refl _, ss, by rw [List.drop_zero]; exact hl⟩, ?_⟩
  rintro i m H2 ⟨rfl, hi, ρ2, S2, m2, p2, s2, hl2⟩
  by_cases hlt : i < iw.1.length
  · rw [List.drop_eq_getElem_cons hlt] at hl2
    unfold dcL at hl2
    split at hl2
    · rename_i stl
      obtain ⟨_, j2⟩ := jok i H2 ρ2 S2 (mm.trans m2) (pp.trans p2) s2 stl
      obtain ⟨go, yl⟩ := j2 iw.1[i] (List.getElem?_eq_getElem hlt)
      split at hl2
      · cases hl2
      · rename_i env1 ha
        obtain ⟨kb, S3, ec, hl3⟩ := bnd_inv hl2
        refine .inr ⟨go, fun H3 => ∃ ρ3 S3, Mono Hs H3 ∧ ρs <+: ρ3 ∧ Sr K H3 ρ3 S3 ∧ dcL cond ke ve iw.2 t n0 envw (iw.1.drop (i + 1)) S3 = some ((), Sf),
          fun H' ⟨ρ3, S3, a1, a2, a3, a4⟩ => ⟨iw.1.length - (i + 1), by omega, rfl, hlt, ρ3, S3, a1, a2, a3, a4⟩, fun x H3 y => ?_⟩
        obtain ⟨s3, m3, r3⟩ := yl x H3 y
        have e3 : EnvR K H3 ρ2 envw (wipe σ0 vs) := he.mono (m2.trans m3) p2
        refine ⟨ρ2, envw, _, env1, e3, r3, ha, fun σ' l e' w => ⟨by rw [w vs hv, wipe_wipe (fun _ h => h)], ?_⟩⟩
        refine LT.mk s3 e' ec fun H5 ρ5 m5 p5 s5 he5 => ?_
        cases kb with
        | true =>
          simp only [if_true] at hl3 ⊢
          obtain ⟨yd, S4, ey, hl4⟩ := bnd_inv hl3
          obtain ⟨zd, S5, ez, hl5⟩ := bnd_inv hl4
          split at hl5
          · rename_i kvs kt eg ek
            split at hl5
            · rename_i hlen
              refine LE.mk s5 he5 ey fun H6 ρ6 v m6 p6 s6 he6 r6 => LE.mk s6 he6 ez fun H7 ρ7 u m7 p7 s7 he7 r7 => ?_
              have ad7 : ρ7[n0]? = some Dd := pre_get p7 (pre_get p6 (pre_get p5 (pre_get p2 ad)))
              obtain ⟨b, rfl, hb⟩ := keyT_rp md ek (r6.mono m7 p7 _ _)
              obtain ⟨a, us, ea, ea2, hus, ku, ru, _⟩ := s7.dictT (getT_so eg) ⟨Dd, rfl, ad7⟩
              cases ea
              obtain ⟨k1, k2⟩ := putD_rp (k := kt) ku ru r7
              obtain ⟨s8, m8⟩ := s7.writeE md (getT_so eg) ad7 k1 k2
              have hl : us.length = kvs.length := by
                have := congrArg List.length ku
                simpa using this.symm
              exact ⟨us, kt, b, rfl, hb, hus, by omega, ρ7, _, ((((m2.trans m3).trans m5).trans m6).trans m7).trans m8, ((p2.trans p5).trans p6).trans p7, s8, hl5⟩
            · cases hl5
          · cases hl5
        | false =>
          exact ⟨ρ5, S3, (m2.trans m3).trans m5, p2.trans p5, s5, hl3⟩
    · cases hl2
  · have ei : i = iw.1.length := by omega
    subst ei
    rw [List.drop_length] at hl2
    unfold dcL at hl2
    split at hl2
    · rename_i stl
      cases hl2
      obtain ⟨j1, _⟩ := jok _ H2 ρ2 _ (mm.trans m2) (pp.trans p2) s2 stl
      exact .inl ⟨j1 rfl, hq H2 ρ2 m2 p2 s2⟩
    · cases hl2
theorem b_dc {t : Tg} {k : IK} {es : List E} {cnd ke ve : E} {tg it kx vx : Expr} {ifs : List Expr} {scope : Scope} {p : Pos} (md : Sct.md = .trk) (G : Good m c kk X) (hi : PI X tg it (LI X.K k (evEs c es))) (hs : ∀ x, foldedSetIterable it X.env x = pure x)
    (ok : blkC m.N X.env.scope scope (t.slots.map fun i => (m.N.getD i default, i)) = true) (htg : mTg m.N scope t tg = true)
    (ht : ∀ X' : Cx, Good m c kk X' → X'.env.scope = relS scope X.env.scope → X'.K = X.K → PTs X' ifs (LTe X.K (evE c cnd)))
    (hke : ∀ X' : Cx, Good m c kk X' → X'.env.scope = relS scope X.env.scope → X'.K = X.K → PE X' kx (LE X.K (evE c ke)))
    (hve : ∀ X' : Cx, Good m c kk X' → X'.env.scope = relS scope X.env.scope → X'.K = X.K → PE X' vx (LE X.K (evE c ve))) : Both X (.DictComp kx vx [⟨tg, it, ifs, 0⟩] scope p) (evE c (.dc t k es cnd ke ve)) := by
  have pe : PE X (.DictComp kx vx [⟨tg, it, ifs, 0⟩] scope p) (LE X.K (evE c (.dc t k es cnd ke ve))) := by
    refine (pe_dcT (own := t.slots.map fun i => (m.N.getD i default, i)) (g := LG X.K t) (tt := LTe X.K (evE c cnd)) (tk := LE X.K (evE c ke)) (tv := LE X.K (evE c ve)) (by have := G.room.un; omega) G.calm (by rw [G.N]; exact G.nd) hi (blkOk_by (by rw [G.N]; exact ok))
      (fun s H C cl fp => ?_) (fun s H C cl fp => ht _ (G.blk s H scope cl C fp) rfl rfl) (fun s H C cl fp => hke _ (G.blk s H scope cl C fp) rfl rfl) (fun s H C cl fp => hve _ (G.blk s H scope cl C fp) rfl rfl) hs).weakC fun σ H Q q => ?_
    · exact pg_tg (X := X.blk s H scope (compEnvC scope cl C X.env) fp) G.N G.nd G.calm (blk_fn s H scope cl C fp) htg
    · rw [own_of]
      obtain ⟨ρ, env, S, d, S', hs, he, hf, hq⟩ := q
      rw [evE] at hf
      obtain ⟨xs, S1, e1, hf1⟩ := bnd_inv hf
      obtain ⟨iw, S1', e2, hf2⟩ := bnd_inv hf1
      obtain ⟨e2, rfl⟩ := lift_inv e2
      obtain ⟨u, Sf, hl, hf3⟩ := bnd_inv hf2
      cases hf3
      refine ⟨ρ, env, S, xs, S1', iw, hs, he, e1, e2, fun H1 ρ1 J mm p s1 he1 jok Dd hD => ?_⟩
      have n1 : Mono H1 (upd H1 Dd (.dT [])) := Mono.new hD
      have pq : ρ1 <+: ρ1 ++ [Dd] := ⟨[Dd], rfl⟩
      have ad : (ρ1 ++ [Dd])[S1'.length]? = some Dd := by rw [← s1.len]; simp
      exact dcL_walk (vs := t.slots) md jok n1 pq (s1.newE md (kvs := []) (vs := []) hD rfl rfl) ((he1.mono n1 pq).wipe _) (fun _ h => h) ad hl fun H' ρ' m' p' s' => hq H' ρ' _ (mm.trans (n1.trans m')) (p.trans (pq.trans p')) s' ⟨Dd, rfl, pre_get p' ad⟩
  exact ⟨pe, pt_of pe fun _ => rfl⟩
/-- the arguments of what is walked -/
theorem pi_es {k : IK} {es : List E} {tg it : Expr} {es' : List Expr} (G : Good m c kk X) (h2 : itX tg X.env.scope k it = some es') (h3 : mEs m X.env.scope es es' = true) (pa : PA X es' (LA X.K (evEs c es))) (one : ∀ e0 e', es = [e0] → es' = [e'] → PE X e' (LE X.K (evE c e0))) : PI X tg it (LI X.K k (evEs c es)) := by
  have st := stars_of (env := X.env) h3
  refine pi_of G h2 pa (fun e' z => ?_) st (fun a b z => ?_) (fun env S xs S' z => by rw [evEs_len z, mEs_len h3])
  · subst z
    match es, h3 with
    | [e0], h3 =>
      refine ⟨evE c e0, one e0 e' rfl rfl, fun env S => ?_⟩
      rw [evEs]
      rfl
    | [], h3 => simp [mEs] at h3
    | _ :: _ :: _, h3 => simp [mEs] at h3
  · subst z
    exact stars_tl st
theorem pts_of {cnd : E} {ifs : List Expr} (h : match ifs with | [] => isTrueE cnd = true | [i] => PT X i (LTe X.K (evE c cnd)) | _ => False) : PTs X ifs (LTe X.K (evE c cnd)) := by
  match ifs, h with
  | [], h4 =>
    refine pts_weak pts_nil fun σ H Q q => ?_
    obtain ⟨ρ, env, S, k, S', hs, he, hf, hq⟩ := q
    have hc : cnd = .cn (.bl true) := isTrueE_ok h4
    subst hc
    have hf : tst (evE c (.cn (.bl true)) env S) = some (k, S') := hf
    rw [evE] at hf
    cases hf
    exact hq H ρ Mono.refl (List.prefix_refl _) hs
  | [i], h4 => exact pts_one h4
mutual
theorem sE (c : Cfg) (m : MC) (kk : Nat) : ∀ (e : E) (X : Cx) (e' : Expr), Good m c kk X → mE m X.env.scope e e' = true → Both X e' (evE c e)
  | .var i, X, e', G, h => by
    cases e' <;> first | (simp [mE] at h; done) | skip
    exact b_var G h
  | .cn k, X, e', G, h => by
    cases e' <;> first | (simp [mE] at h; done) | skip
    exact b_cn (by simpa [mE] using h)
  | .glb g, X, e', G, h => by
    cases e' <;> first | (simp [mE] at h; done) | skip
    exact b_glb G h
  | .bin op a b, X, e', G, h => by
    cases e' <;> first | (simp [mE] at h; done) | skip
    rw [mE, Bool.and_eq_true, Bool.and_eq_true] at h
    exact b_bin h.1.1 (sE c m kk a X _ G h.1.2).1 (sE c m kk b X _ G h.2).1
  | .neg a, X, e', G, h => by
    cases e' with
    | UnaryOp op a' p =>
      cases op with
      | USub => exact b_neg (sE c m kk a X _ G (by simpa [mE] using h)).1
      | _ => simp [mE] at h
    | _ => simp [mE] at h
  | .cmp op a b, X, e', G, h => by
    cases e' with
    | Compare l ops cs p =>
      match ops, cs, h with
      | [o], [b'], h =>
        simp only [mE, Bool.and_eq_true, Bool.not_eq_true'] at h
        exact b_cmp G h.1.1.1 h.2 (sE c m kk a X _ G h.1.1.2).1 (sE c m kk b X _ G h.1.2).1
      | [], _, h => simp [mE] at h
      | [_], [], h => simp [mE] at h
      | [_], _ :: _ :: _, h => simp [mE] at h
      | _ :: _ :: _, _, h => simp [mE] at h
    | _ => simp [mE] at h
  | .isN a, X, e', G, h => by
    obtain ⟨a', n, p, p2, rfl, h2⟩ := mE_isN h
    exact b_isN (sE c m kk a X _ G h2).1
  | .notN a, X, e', G, h => by
    obtain ⟨a', n, p, p2, rfl, h2⟩ := mE_notN h
    exact b_notN (sE c m kk a X _ G h2).1
  | .isB a b, X, e', G, h => by
    obtain ⟨a', n, p, p2, rfl, h2⟩ := mE_isB h
    exact b_isB (sE c m kk a X _ G h2).1
  | .nt a, X, e', G, h => by
    cases e' with
    | UnaryOp op a' p =>
      cases op with
      | Not => exact b_nt (sE c m kk a X _ G (by simpa [mE] using h))
      | _ => simp [mE] at h
    | _ => simp [mE] at h
  | .and a b, X, e', G, h => by
    cases e' with
    | BoolOp op vs p =>
      cases op with
      | Or => simp [mE] at h
      | And =>
        match vs, h with
        | [a', b'], h =>
          simp only [mE, Bool.and_eq_true] at h
          obtain ⟨i1, i2⟩ := sE c m kk b X _ G h.2
          exact b_and (sE c m kk a X _ G h.1) (pe_one i1) (pw_and1 i2)
        | a' :: b' :: d' :: r, h =>
          simp only [mE, Bool.and_eq_true] at h
          obtain ⟨i1, i2⟩ := sE c m kk b X _ G h.2
          exact b_and (sE c m kk a X _ G h.1) i1 (pw_of_pt i2)
        | [], h => simp [mE] at h
        | [_], h => simp [mE] at h
    | _ => simp [mE] at h
  | .or a b, X, e', G, h => by
    cases e' with
    | BoolOp op vs p =>
      cases op with
      | And => simp [mE] at h
      | Or =>
        match vs, h with
        | [a', b'], h =>
          simp only [mE, Bool.and_eq_true] at h
          obtain ⟨i1, i2⟩ := sE c m kk b X _ G h.2
          exact b_or (sE c m kk a X _ G h.1) (pe_one i1) (pw_or1 i2)
        | a' :: b' :: d' :: r, h =>
          simp only [mE, Bool.and_eq_true] at h
          obtain ⟨i1, i2⟩ := sE c m kk b X _ G h.2
          exact b_or (sE c m kk a X _ G h.1) i1 (pw_of_pt i2)
        | [], h => simp [mE] at h
        | [_], h => simp [mE] at h
    | _ => simp [mE] at h
  | .ife t a b, X, e', G, h => by
    cases e' with
    | IfExp t' a' b' p =>
      simp only [mE, Bool.and_eq_true] at h
      exact b_ife (sE c m kk t X _ G h.1.1).2 (sE c m kk a X _ G h.1.2) (sE c m kk b X _ G h.2)
    | _ => simp [mE] at h
  | .tup es, X, e', G, h => by
    cases e' with
    | Tuple es' n p =>
      simp only [mE, Bool.and_eq_true, decide_eq_true_eq] at h
      exact b_tup (sEs c m kk es X _ G h.1) (fun _ _ _ _ => evEs_len) h.2
    | _ => simp [mE] at h
  | .lst es, X, e', G, h => by
    cases e' with
    | List es' p =>
      simp only [mE, Bool.and_eq_true, decide_eq_true_eq] at h
      exact b_lst (sEs c m kk es X _ G h.1) (fun _ _ _ _ => evEs_len) h.2
    | _ => simp [mE] at h
  | .dnew, X, e', G, h => by
    cases e' with
    | Dict ks vs p =>
      cases ks with
      | nil => cases vs with
        | nil => exact b_dnew
        | cons _ _ => simp [mE] at h
      | cons _ _ => simp [mE] at h
    | _ => simp [mE] at h
  | .idx a i, X, e', G, h => by
    cases e' with
    | Subscript a' i' p =>
      simp only [mE, Bool.and_eq_true] at h
      exact b_idx G (sE c m kk a X _ G h.1).1 (sE c m kk i X _ G h.2).1 (plainIx_of h.2)
    | _ => simp [mE] at h
  | .slc a lo hi, X, e', G, h => by
    obtain ⟨a', l', h', p, p2, rfl, h1, h2, h3⟩ := mE_slc h
    refine b_slc (sE c m kk a X _ G h1).1 (po_of ?_) (po_of ?_)
    · cases l' with
      | none => exact h2
      | some l => exact ⟨(sE c m kk lo X _ G h2.1).1, h2.2⟩
    · cases h' with
      | none => exact h3
      | some l => exact ⟨(sE c m kk hi X _ G h3.1).1, h3.2⟩
  | .call f es, X, e', G, h => by
    obtain ⟨e1, es', p, p2, rfl, h1, h2, h3, h4⟩ := mE_call h
    have st := stars_of (env := X.env) h4
    have st2 := stars_tl st
    exact b_call G h1 h2 h3 (sEs c m kk es X _ G h4) (by rw [st, st2]; rfl) (plain_of st2)
  | .blt f es, X, e', G, h => by
    obtain ⟨e1, es', p, p2, rfl, h1, h2, h3, h4, h5⟩ := mE_blt h
    have st := stars_of (env := X.env) h4
    have st2 := stars_tl st
    exact b_blt G h1 h5 h2 h3 (sEs c m kk es X _ G h4) (by rw [st, st2]; rfl) (plain_of st2)
  | .mth f o es, X, e', G, h => by
    obtain ⟨o', e1, es', p, p2, rfl, h1, h2, h3, h4, h5, h6⟩ := mE_mth h
    have st := stars_of (env := X.env) h4
    exact b_mth (sc := X.env.scope) (p := p) (by have := G.room.un; omega) h1 (sE c m kk o X _ G h2).1 (sEs c m kk es X _ G h4) (base_of h2 h3) st (stars_tl st) h6 (by rw [← mEs_len h4]; exact h5)
  | .isi a T, X, e', G, h => by
    obtain ⟨a', p, p2, p3, rfl, h1, h2, h3, h4, h5⟩ := mE_isi h
    exact b_isi G h1 h2 h3 h4 (sE c m kk a X _ G h5).1 (star_of h5)
  | .lc t k es cnd e, X, e', G, h => by
    obtain ⟨elt, tg, it, ifs, scope, p, es', rfl, h1, h2, h3, h4, h5, h6⟩ := mE_lc h
    refine b_lc G (pi_es G h2 h3 (sEs c m kk es X _ G h3) fun e0 e' z z' => ?_) (fold_of h2 h3) h6 h1 (fun X' G' hs hK => ?_) (fun X' G' hs hK => ?_)
    · match es, h3, z with
      | [e1], h3, z =>
        rw [← (List.cons.inj z).1]
        subst z'
        simp only [mEs, Bool.and_eq_true] at h3
        exact (sE c m kk e1 X _ G h3.1).1
    · rw [← hK]
      refine pts_of ?_
      match ifs, h4 with
      | [], h4 => exact h4
      | [i], h4 => exact (sE c m kk cnd X' _ G' (by rw [hs]; exact h4)).2
    · rw [← hK]
      exact (sE c m kk e X' _ G' (by rw [hs]; exact h5)).1
  | .lc2 t k es cnd t1 k1 es1 cnd1 e, X, e', G, h => by
    obtain ⟨elt, tg, it, ifs, tg1, it1, ifs1, scope, p, es', es1', rfl, h1, h2, h3, h4, h5, h6, h7, h8, h9, h10⟩ := mE_lc2 h
    refine b_lc2 G (pi_es G h3 h4 (sEs c m kk es X _ G h4) fun e0 e' z z' => ?_) (fold_of h3 h4) (fun env => fold_of h5 h6) h10 h1 h2 (fun X' G' hs hK => ?_) (fun X' G' hs hK => ?_) (fun X' G' hs hK => ?_) (fun X' G' hs hK => ?_)
    · match es, h4, z with
      | [e1], h4, z =>
        rw [← (List.cons.inj z).1]
        subst z'
        simp only [mEs, Bool.and_eq_true] at h4
        exact (sE c m kk e1 X _ G h4.1).1
    · rw [← hK]
      have pa := sEs c m kk es1 X' _ G' (by rw [hs]; exact h6)
      refine pi_es G' (by rw [hs]; exact h5) (by rw [hs]; exact h6) pa fun e0 e' z z' => ?_
      match es1, h6, z with
      | [e1], h6, z =>
        rw [← (List.cons.inj z).1]
        subst z'
        simp only [mEs, Bool.and_eq_true] at h6
        exact (sE c m kk e1 X' _ G' (by rw [hs]; exact h6.1)).1
    · rw [← hK]
      refine pts_of ?_
      match ifs, h7 with
      | [], h7 => exact h7
      | [i], h7 => exact (sE c m kk cnd X' _ G' (by rw [hs]; exact h7)).2
    · rw [← hK]
      refine pts_of ?_
      match ifs1, h8 with
      | [], h8 => exact h8
      | [i], h8 => exact (sE c m kk cnd1 X' _ G' (by rw [hs]; exact h8)).2
    · rw [← hK]
      exact (sE c m kk e X' _ G' (by rw [hs]; exact h9)).1
  | .mth0 f o, X, e', G, h => by
    obtain ⟨o', ap, cp, rfl, h1, h2, h3, h4⟩ := mE_mth0 h
    exact b_mth0 h1 (sE c m kk o X _ G h2).1 (base_of h2 h3) h4
  | .dict1 k v, X, e', G, h => by
    obtain ⟨k', v', p, rfl, h1, h2, h3⟩ := mE_dict1 h
    exact b_dict1 G h1 (sE c m kk k X _ G h2).1 (sE c m kk v X _ G h3).1
  | .gget g i, X, e', G, h => by
    obtain ⟨i', p, p2, rfl, h1, h2, h3, h4⟩ := mE_gget h
    exact b_gget G h1 h2 h3 (sE c m kk i X _ G h4).1 (plainIx_of h4)
  | .gin neg g a, X, e', G, h => by
    obtain ⟨a', o, p, p2, rfl, h0, h1, h2, h3, h4⟩ := mE_gin h
    exact b_gin G h0 h1 h2 h3 (sE c m kk a X _ G h4).1
  | .dzip a b, X, e', G, h => by
    obtain ⟨a', b', p1, p2, p3, p4, rfl, h1, h2, h3, h4⟩ := mE_dzip h
    exact b_dzip G h1 h2 (sE c m kk a X _ G h3).1 (sE c m kk b X _ G h4).1 (star_of h3) (star_of h4)
  | .lrng a, X, e', G, h => by
    obtain ⟨a', p1, p2, p3, p4, rfl, h1, h2, h3⟩ := mE_lrng h
    exact b_lrng G h1 h2 (sE c m kk a X _ G h3).1 (star_of h3)
  | .trev a, X, e', G, h => by
    obtain ⟨a', p1, p2, p3, p4, rfl, h1, h2, h3⟩ := mE_trev h
    exact b_trev G h1 h2 (sE c m kk a X _ G h3).1 (star_of h3)
  | .dc t k es cnd ke ve, X, e', G, h => by
    obtain ⟨kx, vx, tg, it, ifs, scope, p, es', rfl, h1, h2, h3, h4, h5, h6, h7, h8⟩ := mE_dc h
    refine b_dc h8 G (pi_es G h2 h3 (sEs c m kk es X _ G h3) fun e0 e' z z' => ?_) (fold_of h2 h3) h7 h1 (fun X' G' hs hK => ?_) (fun X' G' hs hK => ?_) (fun X' G' hs hK => ?_)
    · match es, h3, z with
      | [e1], h3, z =>
        rw [← (List.cons.inj z).1]
        subst z'
        simp only [mEs, Bool.and_eq_true] at h3
        exact (sE c m kk e1 X _ G h3.1).1
    · rw [← hK]
      refine pts_of ?_
      match ifs, h4 with
      | [], h4 => exact h4
      | [i], h4 => exact (sE c m kk cnd X' _ G' (by rw [hs]; exact h4)).2
    · rw [← hK]
      exact (sE c m kk ke X' _ G' (by rw [hs]; exact h5)).1
    · rw [← hK]
      exact (sE c m kk ve X' _ G' (by rw [hs]; exact h6)).1
  | .tr e, X, e', G, h => b_tr (sE c m kk e X e' G (by simpa [mE] using h))
theorem sEs (c : Cfg) (m : MC) (kk : Nat) : ∀ (es : List E) (X : Cx) (es' : List Expr), Good m c kk X → mEs m X.env.scope es es' = true → PA X es' (LA X.K (evEs c es))
  | [], X, es', G, h => by
    cases es' with
    | nil => exact pa_nil'
    | cons _ _ => simp [mEs] at h
  | e :: es, X, es', G, h => by
    cases es' with
    | nil => simp [mEs] at h
    | cons e' es' =>
      rw [mEs, Bool.and_eq_true] at h
      exact pa_cons' (sE c m kk e X e' G h.1).1 (sEs c m kk es X es' G h.2) (star_of h.1)
end
end
end Cs

set_option Elab.async false
set_option linter.all false
set_option maxRecDepth 100000
namespace Cs
open PySem PySem.Spec PyProof.Rows L2
variable [Sct]

/-! ### statements against the own ones -/
def lineEq (a b : Pos) : Bool := a.line == b.line
/-- x = e: a comprehension on the same line into a local changes the road -/
def setOk (sc : Scope) (x : Str) (px : Pos) : Expr → Bool
  | .ListComp _ gens s p => (match sc.names.lookup x with | some .local => decide (gens.length = 1) && px.line == p.line && !(s.names.any fun (n, k) => n == x && (k == .local || k == .cell)) | _ => true)
  | .SetComp .. | .DictComp .. => false
  | _ => true
def notTup : Expr → Bool
  | .Tuple .. => false | _ => true
def notSlc : Expr → Bool
  | .Slice .. => false | _ => true
def noComp : Expr → Bool
  | .ListComp .. | .SetComp .. | .DictComp .. => false
  | _ => true
def parOk (px py : Pos) (a b : Expr) : Bool := py.line == px.line && !([a, b].all (foldedForSure 8)) && !([a, b].all (constantsAlone 8))
mutual
def mS (m : MC) (sc : Scope) : S → Stmt → Bool
  | .set i e, .Assign [.Name x px] e' _ => mName m.N i x && isLoc sc x && mE m sc e e' && setOk sc x px e'
  | .setT is e, .Assign [.Tuple es k p] e' _ => mTg m.N sc (.t is) (.Tuple es k p) && mE m sc e e' && noComp e' && notTup e'
  | .par i j a b, .Assign [.Tuple [.Name x px, .Name y py] _ _] (.Tuple [a', b'] _ _) _ => parOk px py a' b' && mName m.N i x && mName m.N j y && decide (i ≠ j) && (match sc.names.lookup x with | some .local => true | _ => false) && (match sc.names.lookup y with | some .local => true | _ => false) && decide (x ≠ y) &&
      mE m sc a a' && mE m sc b b'
  | .setI o k v, .Assign [.Subscript o' k' _] v' _ => mE m sc o o' && mE m sc k k' && mE m sc v v' && noComp v' && notSlc k'
  | .ex e, .Expr e' _ => mE m sc e e' && noComp e'
  | .ret e, .Return (some e') _ => mE m sc e e'
  | .iff t a b, .If t' a' b' _ => mE m sc t t' && mSs m sc a a' && mSs m sc b b'
  | .whl t b, .While t' b' [] _ => mE m sc t t' && mSs m sc b b'
  | .for_ t k es b, .For tg it b' [] _ => mTg m.N sc t tg && (match itX tg sc k it with | some es' => mEs m sc es es' | none => false) && mSs m sc b b'
  | .brk, .Break _ => true
  | .cont, .Continue _ => true
  | .pass, .Pass _ => true
  | _, _ => false
termination_by structural s _ => s
def mSs (m : MC) (sc : Scope) : List S → List Stmt → Bool
  | [], [] => true
  | s :: ss, s' :: ss' => mS m sc s s' && mSs m sc ss ss'
  | _, _ => false
termination_by structural ss _ => ss
end

/-! ### their readings -/
def FlP (K : PySem.W.Frag) (H' : Hp) (ρ' : List Addr) (Dn : Ends) (n : Nat) : Fl → Prop
  | .nx env => ∀ σ', σ'.length = n → EnvR K H' ρ' env σ' → Dn.nx σ' H'
  | .rt d => ∀ v, Rp K H' ρ' d v → Dn.rt v H'
  | .bk env => ∀ σ', σ'.length = n → EnvR K H' ρ' env σ' → Dn.bk σ' H'
  | .ct env => ∀ σ', σ'.length = n → EnvR K H' ρ' env σ' → Dn.ct σ' H'
def LS (K : PySem.W.Frag) (f : X1) : TS := fun Dn σ H => ∃ ρ env S fl S', Sr K H ρ S ∧ EnvR K H ρ env σ ∧ f env S = some (fl, S') ∧ ∀ H' ρ', Mono H H' → ρ <+: ρ' → Sr K H' ρ' S' → FlP K H' ρ' Dn σ.length fl
section
variable {X : Cx} {m : MC} {c : Cfg} {kk : Nat}
theorem _root_.L2.PS.weakC {s : Stmt} {t t' : TS} (h : PS X s t) (w : ∀ D σ H, t' D σ H → t D σ H) : PS X s t' := ⟨fun pins s σ H D I q => h.run pins s σ H D I (w _ _ _ q)⟩
theorem _root_.L2.PSs.weakC {s : List Stmt} {t t' : TS} (h : PSs X s t) (w : ∀ D σ H, t' D σ H → t D σ H) : PSs X s t' := ⟨fun pins s σ H D I q => h.run pins s σ H D I (w _ _ _ q)⟩
structure GoodS (m : MC) (c : Cfg) (kk : Nat) (X : Cx) : Prop where
  g : Good m c kk X
  fn : ∀ x, X.fn x = true
  own : PassesOwn (model X.prog X.w) X.A X.env X.xe
  kind : X.env.scope.kind = .function
theorem GoodS.fc (G : GoodS m c kk X) : FnC X X.env.scope := fun x h => ⟨isLoc_ok h, .inl (G.fn x)⟩

theorem tr_core {K : PySem.W.Frag} {e : E} {σ : L2.St} {H : Hp} {Q : VK} (q : LE K (evE c (.tr e)) σ H Q) : LE K (evE c e) σ H Q := by
  obtain ⟨ρ, env, S, d, S', hs, he, hf, hq⟩ := q
  rw [evE] at hf
  obtain ⟨x, S1, e1, hf⟩ := bnd_inv hf
  refine LE.mk hs he e1 fun H1 ρ1 v mm p s1 he1 r1 => ?_
  obtain ⟨ρ2, p2, s2, r2⟩ := fin_ok hs p s1 r1 hf
  exact hq H1 ρ2 v mm p2 s2 r2
theorem lc_any {sc : Scope} {elt : Expr} {gen : Comprehension} {scope : Scope} {p : Pos} : ∀ e : E, mE m sc e (.ListComp elt [gen] scope p) = true →
    ∃ t k es cnd e0, mE m sc (.lc t k es cnd e0) (.ListComp elt [gen] scope p) = true ∧ ∀ K σ H Q, LE K (evE c e) σ H Q → LE K (evE c (.lc t k es cnd e0)) σ H Q
  | .tr e, h => by
    rw [mE] at h
    obtain ⟨t, k, es, cnd, e0, h1, h2⟩ := lc_any e h
    exact ⟨t, k, es, cnd, e0, h1, fun K σ H Q q => h2 K σ H Q (tr_core q)⟩
  | .lc t k es cnd e0, h => ⟨t, k, es, cnd, e0, h, fun _ _ _ _ q => q⟩
  | .var _, h | .cn _, h | .glb _, h | .bin .., h | .neg _, h | .cmp .., h | .isN _, h | .notN _, h | .isB .., h | .isi .., h | .nt _, h | .and .., h | .or .., h | .ife .., h | .tup _, h | .lst _, h | .idx .., h | .slc .., h | .call .., h | .blt .., h | .mth .., h | .lc2 .., h => by simp [mE] at h
theorem lc_parts {t : Tg} {k : IK} {es : List E} {cnd e : E} {elt : Expr} {gens : List Comprehension} {scope : Scope} {p : Pos} (G : Good m c kk X) (h : mE m X.env.scope (.lc t k es cnd e) (.ListComp elt gens scope p) = true) :
    ∃ tg it ifs, gens = [⟨tg, it, ifs, 0⟩] ∧ PI X tg it (LI X.K k (evEs c es)) ∧ (∀ x, foldedSetIterable it X.env x = pure x) ∧ BlkOk X.N X.env.scope scope (t.slots.map fun i => (m.N.getD i default, i)) ∧
      (∀ (s : Shared) (H : Hp) (C : Addr) (cl : List (Str × Addr)) (fp : List Addr), PG (X.blk s H scope (compEnvC scope cl C X.env) fp) tg (LG X.K t)) ∧
      (∀ (s : Shared) (H : Hp) (C : Addr) (cl : List (Str × Addr)) (fp : List Addr), PTs (X.blk s H scope (compEnvC scope cl C X.env) fp) ifs (LTe X.K (evE c cnd))) ∧
      (∀ (s : Shared) (H : Hp) (C : Addr) (cl : List (Str × Addr)) (fp : List Addr), PE (X.blk s H scope (compEnvC scope cl C X.env) fp) elt (LE X.K (evE c e))) := by
  obtain ⟨elt', tg, it, ifs, scope', p', es', e1, h1, h2, h3, h4, h5, h6⟩ := mE_lc h
  cases e1
  have st := stars_of (env := X.env) h3
  refine ⟨tg, it, ifs, rfl, ?_, fold_of h2 h3, blkOk_by (by rw [G.N]; exact h6), fun s H C cl fp => pg_tg (X := X.blk s H scope (compEnvC scope cl C X.env) fp) G.N G.nd G.calm (blk_fn s H scope cl C fp) h1, fun s H C cl fp => ?_, fun s H C cl fp => ?_⟩
  · refine pi_of G h2 (sEs c m kk es X _ G h3) (fun e' z => ?_) st (fun a b z => ?_) (fun env S xs S' z => by rw [evEs_len z, mEs_len h3])
    · subst z
      match es, h3 with
      | [e0], h3 =>
        simp only [mEs, Bool.and_eq_true] at h3
        refine ⟨evE c e0, (sE c m kk e0 X _ G h3.1).1, fun env S => ?_⟩
        rw [evEs]
        rfl
      | [], h3 => simp [mEs] at h3
      | _ :: _ :: _, h3 => simp [mEs] at h3
    · subst z
      exact stars_tl st
  · cases ifs with
    | nil =>
      refine pts_weak pts_nil fun σ H Q q => ?_
      obtain ⟨ρ, env, S, k, S', hs, he, hf, hq⟩ := q
      have hc : cnd = .cn (.bl true) := isTrueE_ok h4
      subst hc
      have hf : tst (evE c (.cn (.bl true)) env S) = some (k, S') := hf
      rw [evE] at hf
      cases hf
      exact hq H ρ Mono.refl (List.prefix_refl _) hs
    | cons i r =>
      cases r with
      | nil => exact pts_one (sE c m kk cnd _ _ (G.blk s H scope cl C fp) h4).2
      | cons _ _ => cases h4
  · exact (sE c m kk e _ _ (G.blk s H scope cl C fp) h5).1
theorem own_slots {t : Tg} : (t.slots.map fun i => (m.N.getD i default, i)).map (·.2) = t.slots := by
  rw [List.map_map]
  show t.slots.map (fun i => i) = _
  simp
theorem set_w {te : TE} {i : Nat} {e : E} {Dn : Ends} {σ : L2.St} {H : Hp} {K : PySem.W.Frag} (w : ∀ Q, LE K (evE c e) σ H Q → te σ H Q) (q : LS K (exS c (.set i e)) Dn σ H) : tAsg te (gName i) Dn σ H := by
  obtain ⟨ρ, env, S, fl, S', hs, he, hf, hq⟩ := q
  rw [exS] at hf
  obtain ⟨x, S1, e1, hf⟩ := bnd_inv hf
  cases hf
  exact w _ (LE.mk hs he e1 fun H1 ρ1 v mm p s1 he1 r1 => hq H1 ρ1 mm p s1 (σ.set i (some v)) (by simp) (he1.set r1))
theorem sw_false {e' : Expr} {t : Option Expr} {l : Nat} {env : Env} (h : noComp e' = true) : swapsWith e' t l env = pure false := by
  cases e' <;> first | rfl | cases h
theorem s_set {i : Nat} {x : Str} {px p : Pos} {e : E} {e' : Expr} (G : GoodS m c kk X) (h1 : mName m.N i x = true) (h2 : isLoc X.env.scope x = true) (h3 : mE m X.env.scope e e' = true) (h4 : setOk X.env.scope x px e' = true) :
    PS X (.Assign [.Name x px] e' p) (LS X.K (exS c (.set i e))) := by
  have hN : X.N.Nodup := by rw [G.g.N]; exact G.g.nd
  have hi : X.N[i]? = some x := by rw [G.g.N]; exact mName_ok h1
  have hx := isLoc_ok h2
  have plain : swapsWith e' (some (.Name x px)) p.line X.env = pure false → PS X (.Assign [.Name x px] e' p) (LS X.K (exS c (.set i e))) := fun hs =>
    (ps_set hN hi hx (sE c m kk e X e' G.g h3).1 hs (.inl (G.fn x))).weakC fun D σ H q => set_w (fun Q q => q) q
  cases e' with
  | ListComp elt gens scope lp =>
    have conv : ∀ q : NameKind, X.env.scope.names.lookup x = some q → X.env.kindOf x = some q := fun q z => z
    rcases hx with hx | hx
    · -- into a local
      have h4' : (decide (gens.length = 1) && px.line == lp.line && !(scope.names.any fun (n, k) => n == x && (k == .local || k == .cell))) = true := by
        unfold setOk at h4
        simp only [hx] at h4
        exact h4
      rw [Bool.and_eq_true, Bool.and_eq_true, Bool.not_eq_true', decide_eq_true_eq] at h4'
      obtain ⟨⟨h40, h41⟩, h42⟩ := h4'
      match gens, h40 with
      | [gen], _ =>
      obtain ⟨t, k, es, cnd, e0, hm, hw⟩ := lc_any (c := c) e h3
      obtain ⟨tg, it, ifs, ge, q1, q2, q3, q4, q5, q6⟩ := lc_parts (c := c) G.g hm
      cases ge
      refine (ps_setLc (own := t.slots.map fun i => (m.N.getD i default, i)) G.g.calm hN hi hx (sw_true G.kind hx h41 h42) q1 q3 q4 q5 q6 q2).weakC fun D σ H q => ?_
      refine set_w (fun Q q => ?_) q
      rw [own_slots]
      exact lc_core' (hw _ _ _ _ q)
    · refine plain ?_
      unfold swapsWith
      simp only [conv _ hx]
      have : (some NameKind.cell == some NameKind.local) = false := by decide
      rw [this]
      simp
  | SetComp _ _ _ _ => cases h4
  | DictComp _ _ _ _ _ => cases h4
  | _ => exact plain rfl
theorem s_setT {is : List Nat} {tg : Expr} {p : Pos} {e : E} {e' : Expr} (G : GoodS m c kk X) (h1 : mTg m.N X.env.scope (.t is) tg = true) (h3 : mE m X.env.scope e e' = true) (h4 : noComp e' = true) (h5 : notTup e' = true) :
    PS X (.Assign [tg] e' p) (LS X.K (exS c (.setT is e))) := by
  cases tg with
  | Tuple es n tp =>
    have hw : swappedStores [.Tuple es n tp] e' X.env = pure none := by
      cases e' <;> first | rfl | (cases h5; done) | cases h4
    have hs : swapsWithSole [.Tuple es n tp] e' p.line X.env = pure false := sw_false (t := some (.Tuple es n tp)) (l := p.line) (env := X.env) h4
    refine (ps_asg (sE c m kk e X e' G.g h3).1 (pg_tg G.g.N G.g.nd G.g.calm G.fc h1) hs hw rfl).weakC fun D σ H q => ?_
    obtain ⟨ρ, env, S, fl, S', hs, he, hf, hq⟩ := q
    rw [exS] at hf
    obtain ⟨x, S1, e1, hf1⟩ := bnd_inv hf
    obtain ⟨env1, S2, e2, hf2⟩ := bnd_inv hf1
    cases hf2
    unfold lift at e2
    cases ea : asg (.t is) x env with
    | none => rw [ea] at e2; cases e2
    | some env2 =>
      rw [ea] at e2; cases e2
      exact LE.mk hs he e1 fun H1 ρ1 v mm p s1 he1 r1 => ⟨ρ1, env, x, env1, he1, r1, ea, fun σ' l e' _ => hq H1 ρ1 mm p s1 σ' l e'⟩
  | _ => simp [mTg] at h1
theorem s_par {i j : Nat} {x y : Str} {px py tp vp p : Pos} {n1 n2 : Nat} {a b : E} {a' b' : Expr} (G : GoodS m c kk X) (hpo : parOk px py a' b' = true) (h1 : mName m.N i x = true) (h2 : mName m.N j y = true) (hij : i ≠ j) (hx : X.env.scope.names.lookup x = some .local) (hy : X.env.scope.names.lookup y = some .local)
    (hxy : x ≠ y) (ha : mE m X.env.scope a a' = true) (hb : mE m X.env.scope b b' = true) : PS X (.Assign [.Tuple [.Name x px, .Name y py] n1 tp] (.Tuple [a', b'] n2 vp) p) (LS X.K (exS c (.par i j a b))) := by
  have hN : X.N.Nodup := by rw [G.g.N]; exact G.g.nd
  have hm : mEs m X.env.scope [a, b] [a', b'] = true := by simp [mEs, ha, hb]
  have hw : swappedStores [.Tuple [.Name x px, .Name y py] n1 tp] (.Tuple [a', b'] n2 vp) X.env = pure (some [x, y]) := by
    unfold parOk at hpo
    simp only [Bool.and_eq_true, Bool.not_eq_true'] at hpo
    obtain ⟨⟨l1, l2⟩, l3⟩ := hpo
    have k1 : X.env.kindOf x = some .local := hx
    have k2 : X.env.kindOf y = some .local := hy
    have kb : X.env.blockKind = .function := by unfold Env.blockKind; rw [G.kind]; rfl
    have l1' : py.line = px.line := eq_of_beq l1
    unfold swappedStores
    simp only [List.length_cons, List.length_nil, kb]
    refine (if_neg (by decide)).trans ?_
    refine (if_neg ?_).trans ?_
    · intro h
      rw [List.any_eq_true] at h
      obtain ⟨z, hz, hm⟩ := h
      cases z <;> first | (cases hm; done) | skip
      simp only [List.mem_cons, List.not_mem_nil, or_false] at hz
      rcases hz with rfl | rfl
      · rw [mE_star] at ha; cases ha
      · rw [mE_star] at hb; cases hb
    have dd : ([x, y].eraseDups) = [x, y] := by
      rw [List.eraseDups_cons]
      have : (List.filter (fun b => !b == x) [y]) = [y] := by simp [Ne.symm hxy]
      rw [this]
      simp [List.eraseDups_cons]
    simp [k1, k2, Expr.pos, l1', l2, l3, dd]
  refine (ps_par G.g.calm hN (by rw [G.g.N]; exact mName_ok h1) (by rw [G.g.N]; exact mName_ok h2) hij hx hy (sEs c m kk [a, b] X [a', b'] G.g hm) hw rfl).weakC fun D σ H q => ?_
  obtain ⟨ρ, env, S, fl, S', hs, he, hf, hq⟩ := q
  rw [exS] at hf
  obtain ⟨x1, S1, e1, hf1⟩ := bnd_inv hf
  obtain ⟨y1, S2, e2, hf2⟩ := bnd_inv hf1
  cases hf2
  refine LA.mk (x := [x1, y1]) (S1 := S') hs he (by rw [evEs, e1]; show bnd (evEs c [b] env S1) _ = _; rw [evEs, e2]; rfl) fun H1 ρ1 vs mm p s1 he1 r1 => ?_
  obtain ⟨v, r, rfl, q1, w, r', rfl, q2, rfl⟩ := r1
  exact ⟨v, w, rfl, hq H1 ρ1 mm p s1 _ (by simp) ((he1.set q1).set q2)⟩
def rSetA : V → V → V → Hp → (Hp → Prop) → Prop := fun o i v H Q => rSetL o i v H Q ∨ ∃ a H', o = .ref a ∧ DPut H a i v H' ∧ Q H'
theorem set_any (hu : X.A.units + 1 < cLine) : PSet X rSetA := by
  intro pins s σ H o i v ov iv u Q I ro ri rv h
  rcases h with h | ⟨a, H', rfl, g, q⟩
  · exact set_list pins s σ H o i v ov iv u Q I ro ri rv h
  · cases ro
    exact d_setItem hu I g ri rv fun s' I' => ⟨H', I', q⟩
theorem s_setI {o k v : E} {o' k' v' : Expr} {tp p : Pos} (G : GoodS m c kk X) (h1 : mE m X.env.scope o o' = true) (h2 : mE m X.env.scope k k' = true) (h3 : mE m X.env.scope v v' = true) (h4 : noComp v' = true) (h5 : notSlc k' = true) :
    PS X (.Assign [.Subscript o' k' tp] v' p) (LS X.K (exS c (.setI o k v))) := by
  have hg := pg_sub (pos := tp) (sE c m kk o X o' G.g h1).1 (sE c m kk k X k' G.g h2).1 (set_any (X := X) (by have := G.g.room.un; omega)) (by
    intro u
    cases k' <;> first | rfl | cases h5)
  have hw : swappedStores [.Subscript o' k' tp] v' X.env = pure none := by
    cases v' <;> first | rfl | cases h4
  have hs : swapsWithSole [.Subscript o' k' tp] v' p.line X.env = pure false := sw_false (t := some (.Subscript o' k' tp)) (l := p.line) (env := X.env) h4
  refine (ps_asg (sE c m kk v X v' G.g h3).1 hg hs hw rfl).weakC fun D σ H q => ?_
  obtain ⟨ρ, env, S, fl, S', hs, he, hf, hq⟩ := q
  rw [exS] at hf
  obtain ⟨z, S1, e1, hf1⟩ := bnd_inv hf
  obtain ⟨x, S2, e2, hf2⟩ := bnd_inv hf1
  obtain ⟨y, S3, e3, hf3⟩ := bnd_inv hf2
  obtain ⟨_, S4, e4, hf4⟩ := bnd_inv hf3
  cases hf4
  refine LE.mk hs he e1 fun H1 ρ1 v mm p s1 he1 r1 => ?_
  refine LE.mk s1 he1 e2 fun H2 ρ2 w m2 p2 s2 he2 r2 => ?_
  refine LE.mk s2 he2 e3 fun H3 ρ3 u m3 p3 s3 he3 r3 => ?_
  have rz : Rp X.K H3 ρ3 z v := (r1.mono m2 p2 _ _).mono m3 p3 _ _
  have rx := r2.mono m3 p3 _ _
  cases x with
  | loc n =>
    simp only [setOp] at e4
    split at e4
    · rename_i kvs eg
      split at e4
      · rename_i key ek
        split at e4
        · rename_i hl
          cases e4
          obtain ⟨a, vs, rfl, ea, hv, kv, rv⟩ := s3.dict eg rx
          have := keyD_rp ek r3
          subst this
          obtain ⟨q1, q2⟩ := putD_rp (k := key) kv rv rz
          obtain ⟨s4, m4⟩ := s3.writeD (getK_so eg) ea q1 q2
          have hlen : vs.length < sizeLine := by
            have := congrArg List.length kv
            simp only [List.length_map] at this
            omega
          refine .inr ⟨a, _, rfl, DPut.k hv hlen, ?_⟩
          exact hq _ ρ3 (((mm.trans m2).trans m3).trans m4) ((p.trans p2).trans p3) s4 σ rfl (he3.mono m4 (List.prefix_refl _))
        · cases e4
      · cases e4
    · split at e4
      · rename_i kvs eg
        split at e4
        · rename_i key ek
          split at e4
          · rename_i hl
            cases e4
            obtain ⟨a, vs, rfl, ea, hv, kv, rv, md⟩ := s3.dictT (getT_so eg) rx
            obtain ⟨b, rfl, hb⟩ := keyT_rp md ek r3
            obtain ⟨q1, q2⟩ := putD_rp (k := key) kv rv rz
            obtain ⟨s4, m4⟩ := s3.writeE md (getT_so eg) ea q1 q2
            have hlen : vs.length < sizeLine := by
              have := congrArg List.length kv
              simp only [List.length_map] at this
              omega
            refine .inr ⟨a, _, rfl, DPut.t hv hb hlen, ?_⟩
            exact hq _ ρ3 (((mm.trans m2).trans m3).trans m4) ((p.trans p2).trans p3) s4 σ rfl (he3.mono m4 (List.prefix_refl _))
          · cases e4
        · cases e4
      split at e4
      · rename_i xs i eg
        split at e4
        · rename_i j ej
          cases e4
          obtain ⟨a, vs, rfl, ea, hv, rv⟩ := s3.lstM eg rx
          cases r3
          obtain ⟨s4, m4⟩ := s3.write (getM_so eg) ea (rv.set j rz)
          refine .inl ⟨a, vs, i, j, rfl, rfl, hv, by rw [← rv.length]; exact ej, ?_⟩
          exact hq _ ρ3 (((mm.trans m2).trans m3).trans m4) ((p.trans p2).trans p3) s4 σ rfl (he3.mono m4 (List.prefix_refl _))
        · cases e4
      · cases e4
  | _ => cases e4
theorem s_ex {e : E} {e' : Expr} {p : Pos} (G : GoodS m c kk X) (h : mE m X.env.scope e e' = true) (h4 : noComp e' = true) : PS X (.Expr e' p) (LS X.K (exS c (.ex e))) :=
  (ps_expr (sE c m kk e X e' G.g h).1 (sw_false h4)).weakC fun D σ H q => by
    obtain ⟨ρ, env, S, fl, S', hs, he, hf, hq⟩ := q
    rw [exS] at hf
    obtain ⟨z, S1, e1, hf1⟩ := bnd_inv hf
    cases hf1
    exact LE.mk hs he e1 fun H1 ρ1 v mm p s1 he1 r1 => hq H1 ρ1 mm p s1 σ rfl he1
theorem s_ret {e : E} {e' : Expr} {p : Pos} (G : GoodS m c kk X) (h : mE m X.env.scope e e' = true) : PS X (.Return (some e') p) (LS X.K (exS c (.ret e))) :=
  (ps_ret (sE c m kk e X e' G.g h).1).weakC fun D σ H q => by
    obtain ⟨ρ, env, S, fl, S', hs, he, hf, hq⟩ := q
    rw [exS] at hf
    obtain ⟨z, S1, e1, hf1⟩ := bnd_inv hf
    cases hf1
    exact LE.mk hs he e1 fun H1 ρ1 v mm p s1 he1 r1 => hq H1 ρ1 mm p s1 v r1
/-- a block's reading behind a state that has grown -/
theorem LS.mk' {K : PySem.W.Frag} {H H1 : Hp} {ρ ρ1 : List Addr} {S S' : Sto} {env : Ev} {σ : L2.St} {f : X1} {Dn : Ends} {fl : Fl} (s : Sr K H1 ρ1 S) (he : EnvR K H1 ρ1 env σ) (hf : f env S = some (fl, S')) (mm : Mono H H1) (p : ρ <+: ρ1)
    (hq : ∀ H' ρ', Mono H H' → ρ <+: ρ' → Sr K H' ρ' S' → FlP K H' ρ' Dn σ.length fl) : LS K f Dn σ H1 :=
  ⟨ρ1, env, S, fl, S', s, he, hf, fun H' ρ' m' p' s' => hq H' ρ' (mm.trans m') (p.trans p') s'⟩
theorem s_iff {t : E} {a b : List S} {t' : Expr} {a' b' : List Stmt} {p : Pos} (G : GoodS m c kk X) (h : mE m X.env.scope t t' = true) (ha : PSs X a' (LS X.K (exSs c a))) (hb : PSs X b' (LS X.K (exSs c b))) : PS X (.If t' a' b' p) (LS X.K (exS c (.iff t a b))) :=
  (ps_if (sE c m kk t X t' G.g h).2 ha hb).weakC fun D σ H q => by
    obtain ⟨ρ, env, S, fl, S', hs, he, hf, hq⟩ := q
    rw [exS] at hf
    obtain ⟨k, S1, e1, hf1⟩ := ifT_inv hf
    refine LT.mk hs he e1 fun H1 ρ1 mm p s1 he1 => ?_
    cases k with
    | true => exact LS.mk' s1 he1 hf1 mm p hq
    | false => exact LS.mk' s1 he1 hf1 mm p hq
theorem whN_step {cnd : Ev → Sto → Option (Bool × Sto)} {body : X1} {env : Ev} {S : Sto} {r : Fl × Sto} (h : whE cnd body env S = some r) : ∃ n, whN cnd body n env S = some r := by
  unfold whE at h
  split at h
  · exact ⟨_, h⟩
  · cases h
theorem s_whl {t : E} {b : List S} {t' : Expr} {b' : List Stmt} {p : Pos} (G : GoodS m c kk X) (h : mE m X.env.scope t t' = true) (hb : PSs X b' (LS X.K (exSs c b))) : PS X (.While t' b' [] p) (LS X.K (exS c (.whl t b))) :=
  (ps_while G.own (sE c m kk t X t' G.g h).2 hb).weakC fun D σ H q => by
    obtain ⟨ρ, env, S, fl, S', hs, he, hf, hq⟩ := q
    rw [exS] at hf
    obtain ⟨n, hn⟩ := whN_step hf
    refine ⟨fun n σ2 H2 => ∃ ρ2 env2 S2, σ2.length = σ.length ∧ Mono H H2 ∧ ρ <+: ρ2 ∧ Sr X.K H2 ρ2 S2 ∧ EnvR X.K H2 ρ2 env2 σ2 ∧ whN (fun env S => tst (evE c t env S)) (exSs c b) n env2 S2 = some (fl, S'),
      ⟨n, ρ, env, S, rfl, Mono.refl, List.prefix_refl _, hs, he, hn⟩, ?_⟩
    rintro n σ2 H2 ⟨ρ2, env2, S2, hl, m2, p2, s2, he2, hw⟩
    cases n with
    | zero => cases hw
    | succ n =>
      rw [whN] at hw
      obtain ⟨k, S3, e3, hw1⟩ := bnd_inv hw
      refine LT.mk s2 he2 e3 fun H3 ρ3 m3 p3 s3 he3 => ?_
      cases k with
      | false =>
        simp only [Bool.false_eq_true, if_false] at hw1 ⊢
        cases hw1
        exact hq H3 ρ3 (m2.trans m3) (p2.trans p3) s3 σ2 hl he3
      | true =>
        simp only [if_true] at hw1 ⊢
        obtain ⟨f, S4, e4, hw2⟩ := bnd_inv hw1
        refine ⟨fun σ5 H5 => ∃ ρ5 env5 S5, σ5.length = σ.length ∧ Mono H H5 ∧ ρ <+: ρ5 ∧ Sr X.K H5 ρ5 S5 ∧ EnvR X.K H5 ρ5 env5 σ5 ∧ whN (fun env S => tst (evE c t env S)) (exSs c b) n env5 S5 = some (fl, S'),
          fun σ' H' ⟨ρ5, env5, S5, a1, a2, a3, a4, a5, a6⟩ => ⟨n, Nat.lt_succ_self _, ρ5, env5, S5, a1, a2, a3, a4, a5, a6⟩, ?_⟩
        refine LS.mk' s3 he3 e4 Mono.refl (List.prefix_refl _) fun H5 ρ5 m5 p5 s5 => ?_
        cases f with
        | nx env5 => exact fun σ5 l5 he5 => ⟨ρ5, env5, S4, by rw [l5, hl], (m2.trans m3).trans m5, (p2.trans p3).trans p5, s5, he5, hw2⟩
        | ct env5 => exact fun σ5 l5 he5 => ⟨ρ5, env5, S4, by rw [l5, hl], (m2.trans m3).trans m5, (p2.trans p3).trans p5, s5, he5, hw2⟩
        | bk env5 =>
          cases hw2
          exact fun σ5 l5 he5 => hq H5 ρ5 ((m2.trans m3).trans m5) ((p2.trans p3).trans p5) s5 σ5 (by rw [l5, hl]) he5
        | rt d =>
          cases hw2
          exact fun v rv => hq H5 ρ5 ((m2.trans m3).trans m5) ((p2.trans p3).trans p5) s5 v rv
theorem s_for {t : Tg} {k : IK} {es : List E} {b : List S} {tg it : Expr} {es' : List Expr} {b' : List Stmt} {p : Pos} (G : GoodS m c kk X) (h1 : mTg m.N X.env.scope t tg = true) (h2 : itX tg X.env.scope k it = some es') (h3 : mEs m X.env.scope es es' = true) (hb : PSs X b' (LS X.K (exSs c b))) :
    PS X (.For tg it b' [] p) (LS X.K (exS c (.for_ t k es b))) := by
  have st := stars_of (env := X.env) h3
  have hi : PI X tg it (LI X.K k (evEs c es)) := by
    refine pi_of G.g h2 (sEs c m kk es X _ G.g h3) (fun e' z => ?_) st (fun a b z => ?_) (fun env S xs S' z => by rw [evEs_len z, mEs_len h3])
    · subst z
      match es, h3 with
      | [e0], h3 =>
        simp only [mEs, Bool.and_eq_true] at h3
        refine ⟨evE c e0, (sE c m kk e0 X _ G.g h3.1).1, fun env S => ?_⟩
        rw [evEs]
        rfl
      | [], h3 => simp [mEs] at h3
      | _ :: _ :: _, h3 => simp [mEs] at h3
    · subst z
      exact stars_tl st
  refine (ps_for G.own G.g.calm hi (pg_tg G.g.N G.g.nd G.g.calm G.fc h1) hb (fold_of h2 h3)).weakC fun D σ H q => ?_
  obtain ⟨ρ, env, S, fl, S', hs, he, hf, hq⟩ := q
  rw [exS] at hf
  obtain ⟨xs, S1, e1, hf1⟩ := bnd_inv hf
  obtain ⟨iw, S1', e2, hf2⟩ := bnd_inv hf1
  obtain ⟨e2, rfl⟩ : items k xs S1 = some iw ∧ S1' = S1 := by
    unfold lift at e2
    cases z : items k xs S1 with
    | none => rw [z] at e2; cases e2
    | some iw' => rw [z] at e2; cases e2; exact ⟨rfl, rfl⟩
  refine ⟨ρ, env, S, xs, S1', iw, hs, he, e1, e2, fun H1 ρ1 J mm p s1 he1 jok => ?_⟩
  refine ⟨fun i n σ2 H2 => n = iw.1.length - i ∧ i ≤ iw.1.length ∧ ∃ ρ2 env2 S2, σ2.length = σ.length ∧ Mono H1 H2 ∧ ρ1 <+: ρ2 ∧ Sr X.K H2 ρ2 S2 ∧ EnvR X.K H2 ρ2 env2 σ2 ∧ forL iw.2 t (exSs c b) (iw.1.drop i) env2 S2 = some (fl, S'),
    ⟨iw.1.length, by simp, Nat.zero_le _, ρ1, env, S1', rfl, Mono.refl, List.prefix_refl _, s1, he1, by rw [List.drop_zero]; exact hf2⟩, ?_⟩
  rintro i n σ2 H2 ⟨rfl, hi, ρ2, env2, S2, hl, m2, p2, s2, he2, hw⟩
  by_cases hlt : i < iw.1.length
  · rw [List.drop_eq_getElem_cons hlt] at hw
    unfold forL at hw
    split at hw
    · rename_i stl
      obtain ⟨_, j2⟩ := jok i H2 ρ2 S2 m2 p2 s2 stl
      obtain ⟨go, yl⟩ := j2 iw.1[i] (List.getElem?_eq_getElem hlt)
      split at hw
      · cases hw
      · rename_i env1 ha
        obtain ⟨f, S4, e4, hw2⟩ := bnd_inv hw
        refine .inr ⟨go, fun σ5 H5 => ∃ ρ5 env5 S5, σ5.length = σ.length ∧ Mono H1 H5 ∧ ρ1 <+: ρ5 ∧ Sr X.K H5 ρ5 S5 ∧ EnvR X.K H5 ρ5 env5 σ5 ∧ forL iw.2 t (exSs c b) (iw.1.drop (i + 1)) env5 S5 = some (fl, S'),
          fun σ' H' ⟨ρ5, env5, S5, a1, a2, a3, a4, a5, a6⟩ => ⟨iw.1.length - (i + 1), by omega, rfl, hlt, ρ5, env5, S5, a1, a2, a3, a4, a5, a6⟩, fun x H3 y => ?_⟩
        obtain ⟨s3, m3, r3⟩ := yl x H3 y
        refine ⟨ρ2, env2, _, env1, he2.mono m3 (List.prefix_refl _), r3, ha, fun σ' l e' _ => ?_⟩
        refine LS.mk' s3 e' e4 Mono.refl (List.prefix_refl _) fun H5 ρ5 m5 p5 s5 => ?_
        cases f with
        | nx env5 => exact fun σ5 l5 he5 => ⟨ρ5, env5, S4, by rw [l5, l, hl], (m2.trans m3).trans m5, p2.trans p5, s5, he5, hw2⟩
        | ct env5 => exact fun σ5 l5 he5 => ⟨ρ5, env5, S4, by rw [l5, l, hl], (m2.trans m3).trans m5, p2.trans p5, s5, he5, hw2⟩
        | bk env5 =>
          cases hw2
          exact fun σ5 l5 he5 => hq H5 ρ5 (((mm.trans m2).trans m3).trans m5) ((p.trans p2).trans p5) s5 σ5 (by rw [l5, l, hl]) he5
        | rt d =>
          cases hw2
          exact fun v rv => hq H5 ρ5 (((mm.trans m2).trans m3).trans m5) ((p.trans p2).trans p5) s5 v rv
    · cases hw
  · have ei : i = iw.1.length := by omega
    subst ei
    rw [List.drop_length] at hw
    unfold forL at hw
    split at hw
    · rename_i stl
      cases hw
      obtain ⟨j1, _⟩ := jok _ H2 ρ2 S' m2 p2 s2 stl
      exact .inl ⟨j1 rfl, hq H2 ρ2 (mm.trans m2) (p.trans p2) s2 σ2 hl he2⟩
    · cases hw
mutual
theorem sS (c : Cfg) (m : MC) (kk : Nat) (X : Cx) (G : GoodS m c kk X) : ∀ (s : S) (s' : Stmt), mS m X.env.scope s s' = true → PS X s' (LS X.K (exS c s))
  | .set i e, s', h => by
    unfold mS at h
    split at h
    all_goals first | (cases h; done) | (cases ‹S.set _ _ = _›; done) | skip
    cases ‹S.set _ _ = _›
    simp only [Bool.and_eq_true] at h
    exact s_set G h.1.1.1 h.1.1.2 h.1.2 h.2
  | .setT is e, s', h => by
    unfold mS at h
    split at h
    all_goals first | (cases h; done) | (cases ‹S.setT _ _ = _›; done) | skip
    cases ‹S.setT _ _ = _›
    simp only [Bool.and_eq_true] at h
    exact s_setT G h.1.1.1 h.1.1.2 h.1.2 h.2
  | .par i j a b, s', h => by
    unfold mS at h
    split at h
    all_goals first | (cases h; done) | (cases ‹S.par _ _ _ _ = _›; done) | skip
    cases ‹S.par _ _ _ _ = _›
    simp only [Bool.and_eq_true, decide_eq_true_eq] at h
    obtain ⟨⟨⟨⟨⟨⟨⟨⟨h0, h1⟩, h2⟩, h3⟩, h4⟩, h5⟩, h6⟩, h7⟩, h8⟩ := h
    refine s_par G h0 h1 h2 h3 ?_ ?_ h6 h7 h8
    · split at h4
      · assumption
      · cases h4
    · split at h5
      · assumption
      · cases h5
  | .setI o k v, s', h => by
    unfold mS at h
    split at h
    all_goals first | (cases h; done) | (cases ‹S.setI _ _ _ = _›; done) | skip
    cases ‹S.setI _ _ _ = _›
    simp only [Bool.and_eq_true] at h
    exact s_setI G h.1.1.1.1 h.1.1.1.2 h.1.1.2 h.1.2 h.2
  | .ex e, s', h => by
    unfold mS at h
    split at h
    all_goals first | (cases h; done) | (cases ‹S.ex _ = _›; done) | skip
    cases ‹S.ex _ = _›
    simp only [Bool.and_eq_true] at h
    exact s_ex G h.1 h.2
  | .ret e, s', h => by
    unfold mS at h
    split at h
    all_goals first | (cases h; done) | (cases ‹S.ret _ = _›; done) | skip
    cases ‹S.ret _ = _›
    exact s_ret G h
  | .iff t a b, s', h => by
    unfold mS at h
    split at h
    all_goals first | (cases h; done) | (cases ‹S.iff _ _ _ = _›; done) | skip
    cases ‹S.iff _ _ _ = _›
    simp only [Bool.and_eq_true] at h
    exact s_iff G h.1.1 (sSs c m kk X G a _ h.1.2) (sSs c m kk X G b _ h.2)
  | .whl t b, s', h => by
    unfold mS at h
    split at h
    all_goals first | (cases h; done) | (cases ‹S.whl _ _ = _›; done) | skip
    cases ‹S.whl _ _ = _›
    simp only [Bool.and_eq_true] at h
    exact s_whl G h.1 (sSs c m kk X G b _ h.2)
  | .for_ t k es b, s', h => by
    unfold mS at h
    split at h
    all_goals first | (cases h; done) | (cases ‹S.for_ _ _ _ _ = _›; done) | skip
    cases ‹S.for_ _ _ _ _ = _›
    simp only [Bool.and_eq_true] at h
    obtain ⟨⟨h1, h2⟩, h3⟩ := h
    split at h2
    · rename_i es' hx
      exact s_for G h1 hx h2 (sSs c m kk X G b _ h3)
    · cases h2
  | .brk, s', h => by
    unfold mS at h
    split at h
    all_goals first | (cases h; done) | (cases ‹S.brk = _›; done) | skip
    refine ps_break.weakC fun D σ H q => ?_
    obtain ⟨ρ, env, S, fl, S', hs, he, hf, hq⟩ := q
    rw [exS] at hf; cases hf
    exact hq H ρ Mono.refl (List.prefix_refl _) hs σ rfl he
  | .cont, s', h => by
    unfold mS at h
    split at h
    all_goals first | (cases h; done) | (cases ‹S.cont = _›; done) | skip
    refine ps_continue.weakC fun D σ H q => ?_
    obtain ⟨ρ, env, S, fl, S', hs, he, hf, hq⟩ := q
    rw [exS] at hf; cases hf
    exact hq H ρ Mono.refl (List.prefix_refl _) hs σ rfl he
  | .pass, s', h => by
    unfold mS at h
    split at h
    all_goals first | (cases h; done) | (cases ‹S.pass = _›; done) | skip
    refine ps_pass.weakC fun D σ H q => ?_
    obtain ⟨ρ, env, S, fl, S', hs, he, hf, hq⟩ := q
    rw [exS] at hf; cases hf
    exact hq H ρ Mono.refl (List.prefix_refl _) hs σ rfl he
theorem sSs (c : Cfg) (m : MC) (kk : Nat) (X : Cx) (G : GoodS m c kk X) : ∀ (ss : List S) (ss' : List Stmt), mSs m X.env.scope ss ss' = true → PSs X ss' (LS X.K (exSs c ss))
  | [], [], _ => pss_nil.weakC fun D σ H q => by
    obtain ⟨ρ, env, S, fl, S', hs, he, hf, hq⟩ := q
    rw [exSs] at hf; cases hf
    exact hq H ρ Mono.refl (List.prefix_refl _) hs σ rfl he
  | [], _ :: _, h => by simp [mSs] at h
  | _ :: _, [], h => by simp [mSs] at h
  | s :: ss, s' :: ss', h => by
    rw [mSs, Bool.and_eq_true] at h
    refine (pss_cons (sS c m kk X G s s' h.1) (sSs c m kk X G ss ss' h.2)).weakC fun D σ H q => ?_
    obtain ⟨ρ, env, S, fl, S', hs, he, hf, hq⟩ := q
    rw [exSs] at hf
    obtain ⟨f, S1, e1, hf1⟩ := bnd_inv hf
    refine LS.mk' hs he e1 Mono.refl (List.prefix_refl _) fun H1 ρ1 m1 p1 s1 => ?_
    cases f with
    | nx env1 =>
      intro σ1 l1 he1
      exact LS.mk' s1 he1 hf1 m1 p1 (by rw [l1]; exact hq)
    | rt d => cases hf1; exact hq H1 ρ1 m1 p1 s1
    | bk e => cases hf1; exact hq H1 ρ1 m1 p1 s1
    | ct e => cases hf1; exact hq H1 ρ1 m1 p1 s1
end
end
end Cs

set_option Elab.async false
set_option linter.all false
set_option maxRecDepth 100000
namespace Cs
open PySem PySem.Spec PyProof.Rows L2
variable [Sct]

/-! ### the defs of a text -/
structure Entry where
  f : String
  st : Stmt
  N : List Str
  ps : List Str
  d : FDef
/-- the text's defs say what the own ones say -/
structure Entry.Ok (fs gs ds : List String) (e : Entry) : Prop where
  sc : FnScope e.N e.ps (defScope e.st)
  ms : mSs ⟨e.N, fs, gs, ds⟩ (defScope e.st) e.d.body (defBody e.st) = true
  np : e.d.np = e.ps.length
  nl : e.d.nl = e.N.length
/-- .. and stand behind the top -/
def Entry.At (K : PySem.W.Frag) (mg : Str → Option Value) (e : Entry) : Prop := ∃ a fd, mg (Str.ofString e.f) = some (.ref a) ∧ Fun K (Str.ofString e.f) (Str.ofString e.f) e.st a fd ∧ Binds K fd e.ps []
/-- the names that are told, and what they stand for -/
structure Top (w : World) (K : PySem.W.Frag) (mg : Str → Option Value) (T : List Entry) (gs ds : List String) (G : String → Option D) (gcd : Bool) : Prop where
  at_ : ∀ e ∈ T, e.At K mg
  gl : ∀ g ∈ gs, ∃ u v d, mg (Str.ofString g) = some u ∧ RelV v u ∧ G g = some d ∧ ∀ H ρ, Rp K H ρ d v
  bt : ∀ f ∈ bltAll, mg (Str.ofString f) = none
  gd : ∀ g ∈ ds, ∃ d es n tb, mg (Str.ofString g) = some (.ref d) ∧ KDict K w d es n ∧ G g = some tb ∧ ∀ z : Str, ∃ r, PySem.W.nsIn K d z = some r ∧ (tabAt tb z).isSome = r.isSome ∧ ∀ v, tabAt tb z = some v → ∃ u vv, r = some u ∧ RelV vv u ∧ ∀ H ρ, Rp K H ρ v vv
  gc : gcd = true → mg (Str.ofString "gcd") = some (.builtin "math.gcd")
def spF (K : PySem.W.Frag) (n : Nat) (C : List D → Sto → Option (D × Sto)) : List V → Hp → VK → Prop := fun vs H Q => vs.length = n ∧ LC K C vs H Q
theorem start_ok {K : PySem.W.Frag} {H : Hp} {ρ : List Addr} {fd : FDef} {N : List Str} {ds : List D} {vs : List V} (r : RpL K H ρ ds vs) (hl : ds.length = fd.np) (hn : fd.nl = N.length) : EnvR K H ρ (start' fd ds) (L2.start N vs) := by
  unfold start' L2.start
  refine ⟨by simp [r.length, ← hl, hn], fun i d e => ?_⟩
  by_cases hi : i < ds.length
  · rw [List.getElem?_append_left (by simpa using hi), List.getElem?_map] at e
    cases q : ds[i]? with
    | none => rw [q] at e; cases e
    | some d' =>
      rw [q] at e
      cases e
      obtain ⟨v, ev, rv⟩ := r.get q
      refine ⟨v, ?_, rv⟩
      rw [List.getElem?_append_left (by simpa [← r.length] using hi), List.getElem?_map, ev]; rfl
  · rw [List.getElem?_append_right (by simpa using hi)] at e
    have := List.mem_of_getElem? e
    simp at this
theorem entry_ok {P : Program} {w : World} {K : PySem.W.Frag} {mg : Str → Option Value} {base : Heap} {T : List Entry} {gs ds : List String} {G : String → Option D} {gcd : Bool} (tp : Top w K mg T gs ds G gcd)
    (Γ : String → Option FDef) (fs : List String) (hfs : ∀ f ∈ fs, (∃ e ∈ T, e.f = f) ∨ (f = "gcd" ∧ gcd = true)) (hT : ∀ e ∈ T, e.Ok fs gs ds ∧ e.f ≠ "gcd" ∧ Γ e.f = some e.d) :
    ∀ (k : Nat), ∀ e ∈ T, ∃ a fd, mg (Str.ofString e.f) = some (.ref a) ∧ Fun K (Str.ofString e.f) (Str.ofString e.f) e.st a fd ∧ Binds K fd e.ps [] ∧ FnG P w K mg base k a fd e.ps (spF K e.ps.length (callF Γ G k e.f)) := by
  intro k
  induction k with
  | zero =>
    intro e he
    obtain ⟨a, fd, h1, h2, h3⟩ := tp.at_ e he
    refine ⟨a, fd, h1, h2, h3, ⟨fun vs H Q h => h.1, fun A outer s H args us vs Q hg hr e0 hb r h => ?_⟩⟩
    obtain ⟨_, ρ, S, ds, d, S', hs, rr, hf, hq⟩ := h
    rw [callF, if_neg (hT e he).2.1] at hf
    cases hf
  | succ k ih =>
    intro e he
    obtain ⟨a, fd, h1, h2, h3⟩ := tp.at_ e he
    obtain ⟨ok, ng, tb⟩ := hT e he
    refine ⟨a, fd, h1, h2, h3, ?_⟩
    have mo : Mo P w K mg base ⟨callF Γ G k, G⟩ k ⟨e.N, fs, gs, ds⟩ := by
      refine ⟨fun f hf => ?_, tp.gl, tp.bt, tp.gd⟩
      rcases hfs f hf with ⟨e', he', rfl⟩ | ⟨rfl, hg⟩
      · have tb' := (hT e' he').2.2
        obtain ⟨a', fd', q1, q2, q3, q4⟩ := ih e' he'
        refine .inl ⟨a', fd', e'.ps, _, q1, q2.kp, q3, q4, fun vs H Q h => ⟨?_, h⟩⟩
        obtain ⟨ρ, S, ds, d, S', hs, rr, hf, hq⟩ := h
        have hf : callF Γ G k e'.f ds S = some (d, S') := hf
        cases k with
        | zero => rw [callF, if_neg (hT e' he').2.1] at hf; cases hf
        | succ k =>
          rw [callF, if_neg (hT e' he').2.1, tb'] at hf
          simp only [runF] at hf
          split at hf
          · rename_i hl
            rw [← rr.length, hl, (hT e' he').1.np]
          · cases hf
      · refine .inr ⟨rfl, tp.gc hg, ?_⟩
        funext vs S
        show callF Γ G k "gcd" vs S = bGcd vs S
        cases k <;> rw [callF, if_pos rfl]
    refine fnG_of h2 ok.sc (fun vs H Q h => h.1) fun cdv A outer s H vs Q hgd hr h => ?_
    obtain ⟨hlen, ρ, S, dvs, d, S', hs, rr, hf, hq⟩ := h
    have gs' : GoodS ⟨e.N, fs, gs, ds⟩ ⟨callF Γ G k, G⟩ k (cxOf CX0 P w K mg base e.N (Str.ofString e.f) (defScope e.st) a cdv A outer s H E0).nox :=
      ⟨⟨rfl, ok.sc.nd, rfl, hr, hgd, mo⟩, fun _ => rfl, PassesOwn.never, ok.sc.kind⟩
    refine ⟨LS K (exSs ⟨callF Γ G k, G⟩ e.d.body), sSs ⟨callF Γ G k, G⟩ ⟨e.N, fs, gs, ds⟩ k _ gs' e.d.body (defBody e.st) ok.ms, ?_⟩
    rw [callF, if_neg ng, tb] at hf
    simp only [runF] at hf
    split at hf
    · rename_i hl
      obtain ⟨fl, S1, e1, hf1⟩ := bnd_inv hf
      refine ⟨ρ, start' e.d dvs, S, fl, S1, hs, start_ok rr hl ok.nl, e1, fun H' ρ' mm p s' => ?_⟩
      cases fl with
      | rt d1 =>
        intro v rv
        simp only at hf1
        split at hf1
        · cases hf1
          exact hq H' ρ' v mm p s' rv
        · obtain ⟨ρ2, p2, s2, r2⟩ := fin_ok hs p s' rv hf1
          exact hq H' ρ2 v mm p2 s2 r2
      | nx env1 =>
        intro σ' _ _
        simp only at hf1
        split at hf1
        · cases hf1
          exact hq H' ρ' .non mm p s' rfl
        · obtain ⟨ρ2, p2, s2, r2⟩ := fin_ok (v := V.non) hs p s' (show Rp K H' ρ' D.non V.non from rfl) hf1
          exact hq H' ρ2 .non mm p2 s2 r2
      | bk _ => cases hf1
      | ct _ => cases hf1
    · cases hf
/-- the law's own promise -/
theorem law_sp {K : PySem.W.Frag} {C : List D → Sto → Option (D × Sto)} {H : Hp} {a : Addr} {ns : List Int} (ho : Only H) (hS : SqL K H a (ns.map V.int)) (h : ∃ S', C [.loc 0] [.ro (ns.map D.int)] = some (.bl true, S')) :
    spF K 1 C [.ref a] H (fun v _ => v = .bl true) := by
  obtain ⟨S', h⟩ := h
  refine ⟨rfl, [a], [.ro (ns.map D.int)], [.loc 0], .bl true, S', ⟨rfl, fun n so e => ?_, fun n m so so' b e e' hm => ?_⟩, ⟨.ref a, [], rfl, ⟨a, rfl, rfl⟩, rfl⟩, h, fun H' ρ' v m p s r => r⟩
  · cases n with
    | zero =>
      cases e
      refine ⟨a, rfl, ns.map V.int, ?_, RpL.ints.mpr rfl⟩
      rcases hS with (q | q) | q
      · rcases ho a with z | ⟨o, xs, z⟩
        · rw [z] at q; cases q
        · rw [z] at q; cases q
      · exact .inl q
      · exact .inr q
    | succ n => simp at e
  · cases n with
    | zero => cases e; cases hm
    | succ n => simp at e
/-- the law's call: nothing but the script is told at its entry -/
theorem law_run {P : Program} {w : World} {K : PySem.W.Frag} {mg mb : Str → Option Value} {k : Nat} {fa a : Addr} {fd : FuncData} {x : Str} {sp : List V → Hp → VK → Prop} {s1 : Shared} {vs : List Value} {ns : List Int}
    (kin : K.In s1.heap) (gns : s1.heap.Ns mainGlobals mg) (bns : s1.heap.Ns builtinsNs mb) (bbt : ∀ x : Str, x ≠ "__name__" → mb x = bootBuiltins x) (nl : s1.heap.NoLimit) (gens : s1.gens = #[])
    (scr : s1.heap.get? a = some { cls := .type "list", data := .seq vs.toArray }) (areI : IntsAre vs ns) (short : ns.length ≤ sizeLine) (room : Room k callerA)
    (F : ∀ base : Heap, K.In base → base.Ns mainGlobals mg → FnG P w K mg base k fa fd [x] sp) (bind : ∀ (s : Shared) (u : Value), BindsTo s fd ⟨[u], []⟩ [(x, u)])
    (want : ∀ H : Hp, Only H → SqL K H a (ns.map V.int) → sp [.ref a] H (fun v _ => v = .bl true)) :
    codeAny (model P w) callerA (.call (.ref fa) ⟨[.ref a], []⟩) (fun r s' => r = .ok (.ret (.bool true)) ∧ OldK s1.heap s'.heap ∧ s'.os = s1.os ∧ AllBare s'.gens) s1 := by
  have rel : Vals (ns.map V.int) vs := vals_ints areI
  -- the abstract heap: the script alone, unless it is one of the text's own objects
  obtain ⟨H, only, sq, ok, near, away⟩ : ∃ H : Hp, Only H ∧ SqL K H a (ns.map V.int) ∧ HOk P w H s1.heap ∧ (∀ b, H b ≠ none → b = a) ∧ (H a ≠ none → K.lookup a = none) := by
    cases look : K.lookup a with
    | some o =>
      have z := kin a o look
      rw [scr] at z
      cases z
      refine ⟨fun _ => none, fun _ => .inl rfl, .inr ⟨_, vs.toArray, _, look, rfl, rfl, rfl, ?_, by simpa using rel⟩, (fun b u z => by cases z), fun b z => absurd rfl z, fun z => absurd rfl z⟩
      rw [List.size_toArray, areI.length]
      exact short
    | none =>
      refine ⟨fun b => if b = a then some (.frz { cls := .type "list", data := .seq vs.toArray } (.lst (ns.map V.int))) else none, fun b => ?_, .inl (.inr ⟨_, if_pos rfl⟩), fun b u z => ?_, fun b z => ?_, fun _ => rfl⟩
      · by_cases q : b = a
        · exact .inr ⟨_, _, if_pos q⟩
        · exact .inl (if_neg q)
      · simp only at z
        split at z
        · rename_i q
          cases z
          subst q
          exact ⟨scr, by simpa using short, vs, _, rel, scr⟩
        · cases z
      · simp only at z
        split at z
        · assumption
        · exact absurd rfl z
  have free : ∀ {b : Addr} {o : Obj}, s1.heap.get? b = some o → (∀ xs n, o.data ≠ .seq xs n) → H b = none := by
    intro b o e nd
    cases q : H b with
    | none => rfl
    | some u =>
      have eb := near b (by rw [q]; simp)
      subst eb
      rw [scr] at e
      cases e
      exact absurd rfl (nd _ _)
  have keepN : ∀ {b : Addr} {m : Str → Option Value}, s1.heap.Ns b m → (hidT s1.heap H).Ns b m := by
    rintro b m ⟨o, es, ep, e, d, r⟩
    exact ⟨o, es, ep, hidT_get e (free e fun _ _ z => by rw [d] at z; cases z), d, r⟩
  have kin' : K.In (hidT s1.heap H) := by
    intro b o e
    refine hidT_get (kin b o e) ?_
    cases q : H b with
    | none => rfl
    | some u =>
      have eb := near b (by rw [q]; simp)
      subst eb
      rw [away (by rw [q]; simp)] at e
      cases e
  have e0 : Env0 P w K mg (hidT s1.heap H) callerA [] s1 H := by
    obtain ⟨mc, h1, h2⟩ := nl
    exact { frames := rfl, mod := ⟨kin', keepN gns, ⟨mb, keepN bns, bbt⟩, ⟨mc, keepN h1, h2⟩⟩, bs := fun b o z => of_hidT z, bsz := by rw [hidT_size]; exact Nat.le_refl _, funs := trivial, frf := (fun b hb => nomatch hb), hok := ok, bare := .of_eq gens }
  refine codeAny_mono ((F _ kin' (keepN gns)).go callerA [] s1 H ⟨[.ref a], []⟩ [.ref a] [.ref a] _ rfl room e0 (bind s1 _) (.cons rfl .nil) (want H only sq)) ?_
  rintro r s' ⟨u, rfl, v, H', os, bare, un, ok', ru, ev⟩
  have ev : v = .bl true := ev
  subst ev
  have eu : u = .bool true := ru
  subst eu
  refine ⟨rfl, OldK.of_keep fun b o e => ?_, os, bare⟩
  rcases only b with z | ⟨ob, xs, z⟩
  · exact un.keep b o e z (by intro hb; cases hb) (by intro hb; cases hb)
  · obtain ⟨g1, _⟩ := ok b _ z
    obtain ⟨g2, _⟩ := ok' b _ (un.frzs b ob _ z)
    rw [e] at g1
    cases g1
    exact g2
/-- the goal that the head leaves -/
theorem walkG {l : PySem.W.OpenLaw} {n k : Nat} {q : Program} {loose : List Str} {XP : (Str → Option Value) → Heap → Prop} {YP : World → Heap → Prop} {d : DefRec} {K : Params → PySem.W.Frag} {C : List D → Sto → Option (D × Sto)} {x : Str}
    (most : l.most = some n) (short : n ≤ sizeLine) (nodef : d.params.defaults = []) (room : Room k callerA) (kin : ∀ (w : World) (h : Heap), YP w h → (K w.params).In h)
    (F : ∀ (w : World) (mg : Str → Option Value) (fa : Addr) (h : Heap), (K w.params).In h → h.Ns mainGlobals mg → mg d.name = some (.ref fa) →
      ∃ fd : FuncData, (∀ (s : Shared) (u : Value), BindsTo s fd ⟨[u], []⟩ [(x, u)]) ∧ ∀ base : Heap, (K w.params).In base → base.Ns mainGlobals mg → FnG l.prog w (K w.params) mg base k fa fd [x] (spF (K w.params) 1 C))
    (law : ∀ ns : List Int, ns.length ≤ n → ∃ S', C [.loc 0] [.ro (ns.map D.int)] = some (.bl true, S')) :
    PySem.W.WalkO q loose XP YP l.row.toRowW d [] (fun f vs => PySem.call f vs) := by
  apply Att.attach_call most nodef
  intro w s0 s1 mg mb fa o pm cd doc a vs ns G Y ho hd hcd hmg hobj hints hlen hg
  obtain ⟨fd, hb, hF⟩ := F w mg fa _ (kin w _ Y) G.T.g hmg
  exact law_run (kin w _ Y) G.T.g G.T.b G.T.builtins G.T.nolimit hg hobj hints (Nat.le_trans hlen short) room hF hb fun H only sq => law_sp only sq (law ns hlen)
end Cs

set_option Elab.async false
set_option linter.all false
set_option maxRecDepth 100000
namespace K79
open PySem PySem.Spec PyProof.Rows L2 Cs
instance : Sct := ⟨.pln⟩
/-- shown_columns(layer): slots 0 layer, 1 sources, 2 shown, 3 channel -/
def d_shown_columns : FDef where
  np := 1
  nl := 4
  keep := false
  body := [
    .set 1 (.blt "dict" [(.idx (.var 0) (.cn (.int 3)))]),
    .set 2 .dnew,
    .for_ (.v 3) .seq [(.glb "ORDER")] [.iff (.and (.cmp .isin (.var 3) (.var 1)) (.cmp .eq (.idx (.idx (.var 1) (.var 3)) (.cn (.int 0))) (.cn (.str "column")))) [.setI (.var 2) (.var 3) (.idx (.idx (.var 1) (.var 3)) (.cn (.int 1)))] []],
    .ret (.var 2)]
/-- shown_channels(layer): slots 0 layer -/
def d_shown_channels : FDef where
  np := 1
  nl := 1
  keep := false
  body := [
    .ret (.blt "tuple" [(.blt "list" [(.call "shown_columns" [(.var 0)])])])]
/-- scale_of(spec, number, channel): slots 0 spec, 1 number, 2 channel -/
def d_scale_of : FDef where
  np := 3
  nl := 3
  keep := false
  body := [
    .iff (.gin true "PLACES" (.var 2)) [.ret (.cn .non)] [],
    .ret (.idx (.idx (.idx (.var 0) (.cn (.int 2))) (.var 1)) (.gget "PLACES" (.var 2)))]
/-- is_declared(scale): slots 0 scale -/
def d_is_declared : FDef where
  np := 1
  nl := 1
  keep := false
  body := [
    .ret (.cmp .isin (.idx (.idx (.var 0) (.cn (.int 1))) (.cn (.int 0))) (.tup [(.cn (.str "from")), (.cn (.str "of"))]))]
/-- can_read(spec, number, channel): slots 0 spec, 1 number, 2 channel, 3 scale -/
def d_can_read : FDef where
  np := 3
  nl := 4
  keep := false
  body := [
    .set 3 (.call "scale_of" [(.var 0), (.var 1), (.var 2)]),
    .iff (.isN (.var 3)) [.ret (.cmp .eq (.var 2) (.cn (.str "text")))] [],
    .iff (.cmp .eq (.var 2) (.cn (.str "color"))) [.ret (.or (.call "is_declared" [(.var 3)]) (.notN (.idx (.var 3) (.cn (.int 2)))))] [],
    .iff (.call "is_declared" [(.var 3)]) [.ret (.or (.cmp .eq (.idx (.var 3) (.cn (.int 0))) (.cn (.str "band"))) (.nt (.idx (.var 3) (.cn (.int 3)))))] [],
    .ret (.notN (.idx (.var 3) (.cn (.int 5))))]
/-- unread(spec): slots 0 spec, 1 found, 2 number, 3 view, 4 k, 5 layer, 6 channel -/
def d_unread : FDef where
  np := 1
  nl := 7
  keep := false
  body := [
    .set 1 (.lst []),
    .for_ (.t [2, 3]) .enum [(.idx (.var 0) (.cn (.int 2)))] [.for_ (.t [4, 5]) .enum [(.idx (.var 3) (.cn (.int 6)))] [.for_ (.v 6) .seq [(.call "shown_channels" [(.var 5)])] [.iff (.nt (.call "can_read" [(.var 0), (.var 2), (.var 6)])) [.ex (.mth "append" (.var 1) [(.tup [(.var 2), (.var 4), (.var 6)])])] []]]],
    .ret (.blt "tuple" [(.var 1)])]
/-- _law_tape(_law_script): slots 0 _law_script, 1 _law_total, 2 _law_cell_here -/
def d_law_tape : FDef where
  np := 1
  nl := 3
  keep := true
  body := [
    .set 1 (.cn (.int 7)),
    .for_ (.v 2) .seq [(.var 0)] [.set 1 (.bin .mod (.blt "int" [(.bin .add (.bin .mul (.var 1) (.cn (.int 31))) (.blt "abs" [(.blt "int" [(.var 2)])]))]) (.cn (.int 2147483647)))],
    .ret (.lst [(.blt "list" [(.var 0)]), (.cn (.int 0)), (.cn (.int 0)), (.var 1)])]
/-- _law_draw(_law_tape_here, _law_many): slots 0 _law_tape_here, 1 _law_many, 2 _law_number_here, 3 _law_place -/
def d_law_draw : FDef where
  np := 2
  nl := 4
  keep := false
  body := [
    .iff (.cmp .eq (.idx (.var 0) (.cn (.int 2))) (.cn (.int 0))) [.set 3 (.idx (.var 0) (.cn (.int 1))), .set 2 (.cn (.int 0)), .iff (.cmp .lt (.var 3) (.blt "len" [(.idx (.var 0) (.cn (.int 0)))])) [.set 2 (.blt "abs" [(.blt "int" [(.idx (.idx (.var 0) (.cn (.int 0))) (.var 3))])])] [.setI (.var 0) (.cn (.int 3)) (.bin .mod (.blt "int" [(.bin .add (.bin .add (.bin .mul (.idx (.var 0) (.cn (.int 3))) (.cn (.int 48271))) (.var 3)) (.cn (.int 1)))]) (.cn (.int 2147483647))), .set 2 (.idx (.var 0) (.cn (.int 3)))], .setI (.var 0) (.cn (.int 1)) (.bin .add (.var 3) (.cn (.int 1))), .iff (.cmp .lt (.var 2) (.bin .pow (.cn (.int 10)) (.cn (.int 18)))) [.set 2 (.bin .mod (.blt "int" [(.bin .add (.bin .add (.bin .mul (.var 2) (.cn (.int 48271))) (.bin .mul (.var 3) (.cn (.int 69621)))) (.cn (.int 5)))]) (.cn (.int 2147483647))), .set 2 (.bin .mod (.blt "int" [(.bin .mul (.var 2) (.cn (.int 69621)))]) (.cn (.int 2147483629))), .ret (.bin .mod (.blt "int" [(.var 2)]) (.blt "max" [(.var 1), (.cn (.int 1))]))] [], .setI (.var 0) (.cn (.int 2)) (.var 2)] [],
    .set 2 (.idx (.var 0) (.cn (.int 2))),
    .setI (.var 0) (.cn (.int 2)) (.bin .fdiv (.var 2) (.blt "max" [(.var 1), (.cn (.int 2))])),
    .ret (.bin .mod (.blt "int" [(.var 2)]) (.blt "max" [(.var 1), (.cn (.int 1))]))]
/-- _law_word(_law_tape_here): slots 0 _law_tape_here, 1 _law_signs, 2 _law_word_here, 3 _law_k -/
def d_law_word : FDef where
  np := 1
  nl := 4
  keep := false
  body := [
    .set 1 (.cn (.str " !\"#$&'()*+,-./0123456789:;<=>?@ABCDEFGHIJKLMNOPQRSTUVWXYZ[\\]^_`")),
    .set 1 (.bin .add (.var 1) (.cn (.str "abcdefghijklmnopqrstuvwxyz{|}~"))),
    .set 2 (.cn (.str "")),
    .for_ (.v 3) .rng [(.idx (.lst [(.cn (.int 0)), (.cn (.int 1)), (.cn (.int 1)), (.cn (.int 2)), (.cn (.int 3)), (.cn (.int 5))]) (.call "_law_draw" [(.var 0), (.cn (.int 6))]))] [.set 2 (.bin .add (.var 2) (.idx (.var 1) (.call "_law_draw" [(.var 0), (.cn (.int 94))])))],
    .ret (.var 2)]
/-- _law_lowest(_law_n, _law_d): slots 0 _law_n, 1 _law_d, 2 _law_a, 3 _law_b, 4 _law_rest -/
def d_law_lowest : FDef where
  np := 2
  nl := 5
  keep := false
  body := [
    .set 2 (.blt "abs" [(.var 0)]),
    .set 3 (.blt "abs" [(.var 1)]),
    .whl (.cmp .gt (.var 3) (.cn (.int 0))) [.set 4 (.bin .mod (.blt "int" [(.var 2)]) (.var 3)), .set 2 (.var 3), .set 3 (.var 4)],
    .iff (.cmp .lt (.var 1) (.cn (.int 0))) [.set 2 (.bin .sub (.cn (.int 0)) (.var 2))] [],
    .ret (.tup [(.bin .fdiv (.var 0) (.var 2)), (.bin .fdiv (.var 1) (.var 2))])]
/-- _law_number(_law_tape_here): slots 0 _law_tape_here, 1 _law_n, 2 _law_form -/
def d_law_number : FDef where
  np := 1
  nl := 3
  keep := false
  body := [
    .set 1 (.bin .sub (.call "_law_draw" [(.var 0), (.cn (.int 14))]) (.cn (.int 3))),
    .set 2 (.call "_law_draw" [(.var 0), (.cn (.int 8))]),
    .iff (.cmp .eq (.var 2) (.cn (.int 0))) [.ret (.tup [(.bin .mul (.var 1) (.cn (.int 1000000007))), (.cn (.int 1))])] [],
    .iff (.cmp .eq (.var 2) (.cn (.int 1))) [.ret (.call "_law_lowest" [(.bin .add (.bin .mul (.cn (.int 2)) (.var 1)) (.cn (.int 1))), (.cn (.int 2))])] [],
    .iff (.cmp .eq (.var 2) (.cn (.int 2))) [.ret (.call "_law_lowest" [(.bin .sub (.call "_law_draw" [(.var 0), (.cn (.int 60))]) (.cn (.int 20))), (.bin .add (.cn (.int 1)) (.call "_law_draw" [(.var 0), (.cn (.int 12))]))])] [],
    .ret (.tup [(.var 1), (.cn (.int 1))])]
/-- _law_cell(_law_tape_here, _law_kind): slots 0 _law_tape_here, 1 _law_kind -/
def d_law_cell : FDef where
  np := 2
  nl := 2
  keep := false
  body := [
    .iff (.or (.cmp .eq (.var 1) (.cn (.str "number"))) (.cmp .eq (.var 1) (.cn (.str "linear")))) [.ret (.call "_law_number" [(.var 0)])] [],
    .iff (.cmp .eq (.var 1) (.cn (.str "boolean"))) [.ret (.cmp .eq (.call "_law_draw" [(.var 0), (.cn (.int 2))]) (.cn (.int 1)))] [],
    .ret (.bin .add (.idx (.lst [(.cn (.str "")), (.cn (.str "north")), (.cn (.str "a"))]) (.call "_law_draw" [(.var 0), (.cn (.int 3))])) (.call "_law_word" [(.var 0)]))]
/-- _law_cells(_law_tape_here, _law_kind, _law_many): slots 0 _law_tape_here, 1 _law_kind, 2 _law_many, 3 _law_found, 4 _law_k, 5 _law_one -/
def d_law_cells : FDef where
  np := 3
  nl := 6
  keep := false
  body := [
    .set 3 (.lst []),
    .for_ (.v 4) .rng [(.var 2)] [.set 5 (.call "_law_cell" [(.var 0), (.var 1)]), .iff (.cmp .notin (.var 5) (.var 3)) [.ex (.mth "append" (.var 3) [(.var 5)])] []],
    .ret (.var 3)]
/-- _law_columns(_law_tape_here): slots 0 _law_tape_here, 1 _law_names, 2 _law_kinds, 3 _law_turn, 4 _law_columns_here, 5 _law_k -/
def d_law_columns : FDef where
  np := 1
  nl := 6
  keep := false
  body := [
    .set 1 (.lst [(.cn (.str "a")), (.cn (.str "total")), (.cn (.str "Region_2")), (.cn (.str "b")), (.cn (.str "a1"))]),
    .set 2 (.lst [(.cn (.str "number")), (.cn (.str "text")), (.cn (.str "number")), (.cn (.str "boolean")), (.cn (.str "text"))]),
    .set 3 (.call "_law_draw" [(.var 0), (.cn (.int 5))]),
    .set 4 (.lst [(.tup [(.idx (.var 1) (.var 3)), (.cn (.str "number"))])]),
    .for_ (.v 5) .rng [(.cn (.int 1)), (.bin .add (.cn (.int 2)) (.call "_law_draw" [(.var 0), (.cn (.int 3))]))] [.ex (.mth "append" (.var 4) [(.tup [(.idx (.var 1) (.bin .mod (.blt "int" [(.bin .add (.var 3) (.var 5))]) (.cn (.int 5)))), (.idx (.var 2) (.call "_law_draw" [(.var 0), (.cn (.int 5))]))])])],
    .ret (.blt "tuple" [(.var 4)])]
/-- _law_axis(_law_tape_here): slots 0 _law_tape_here, 1 _law_style -/
def d_law_axis : FDef where
  np := 1
  nl := 2
  keep := false
  body := [
    .iff (.cmp .eq (.call "_law_draw" [(.var 0), (.cn (.int 3))]) (.cn (.int 0))) [.ret (.cn .non)] [],
    .set 1 (.tup [(.idx (.lst [(.cn (.str "")), (.cn (.str "")), (.cn (.str "$"))]) (.call "_law_draw" [(.var 0), (.cn (.int 3))])), (.idx (.lst [(.cn (.str "")), (.cn (.str " cm"))]) (.call "_law_draw" [(.var 0), (.cn (.int 2))])), (.cmp .eq (.call "_law_draw" [(.var 0), (.cn (.int 2))]) (.cn (.int 1)))]),
    .ret (.tup [(.idx (.lst [(.cn (.str "")), (.cn (.str "")), (.cn (.str "total"))]) (.call "_law_draw" [(.var 0), (.cn (.int 3))])), (.cmp .eq (.call "_law_draw" [(.var 0), (.cn (.int 2))]) (.cn (.int 1))), (.var 1)])]
/-- _law_ends(_law_tape_here): slots 0 _law_tape_here, 1 _law_low, 2 _law_size -/
def d_law_ends : FDef where
  np := 1
  nl := 3
  keep := false
  body := [
    .set 1 (.idx (.lst [(.tup [(.cn (.int 0)), (.cn (.int 1))]), (.tup [(.cn (.int 0)), (.cn (.int 1))]), (.tup [(.neg (.cn (.int 3))), (.cn (.int 2))]), (.tup [(.bin .sub (.call "_law_draw" [(.var 0), (.cn (.int 20))]) (.cn (.int 10))), (.cn (.int 1))])]) (.call "_law_draw" [(.var 0), (.cn (.int 4))])),
    .set 2 (.idx (.lst [(.tup [(.cn (.int 10)), (.cn (.int 1))]), (.tup [(.cn (.int 1)), (.cn (.int 1))]), (.tup [(.cn (.int 7)), (.cn (.int 3))]), (.tup [(.bin .add (.cn (.int 1)) (.call "_law_draw" [(.var 0), (.cn (.int 40))])), (.cn (.int 1))])]) (.call "_law_draw" [(.var 0), (.cn (.int 4))])),
    .ret (.tup [(.var 1), (.call "_law_lowest" [(.bin .add (.bin .mul (.idx (.var 1) (.cn (.int 0))) (.idx (.var 2) (.cn (.int 1)))) (.bin .mul (.idx (.var 2) (.cn (.int 0))) (.idx (.var 1) (.cn (.int 1))))), (.bin .mul (.idx (.var 1) (.cn (.int 1))) (.idx (.var 2) (.cn (.int 1))))])])]
/-- _law_domain(_law_tape_here, _law_kind): slots 0 _law_tape_here, 1 _law_kind, 2 _law_form -/
def d_law_domain : FDef where
  np := 2
  nl := 3
  keep := false
  body := [
    .set 2 (.call "_law_draw" [(.var 0), (.cn (.int 4))]),
    .iff (.cmp .eq (.var 1) (.cn (.str "linear"))) [.ret (.idx (.lst [(.tup [(.cn (.str "fit"))]), (.tup [(.cn (.str "zero"))]), (.bin .add (.tup [(.cn (.str "from"))]) (.call "_law_ends" [(.var 0)]))]) (.blt "min" [(.var 2), (.cn (.int 2))]))] [],
    .ret (.idx (.lst [(.tup [(.cn (.str "fit"))]), (.tup [(.cn (.str "of")), (.blt "tuple" [(.call "_law_cells" [(.var 0), (.var 1), (.bin .add (.cn (.int 1)) (.call "_law_draw" [(.var 0), (.cn (.int 4))]))])])])]) (.bin .mod (.blt "int" [(.var 2)]) (.cn (.int 2))))]
/-- _law_scale(_law_tape_here, _law_kind): slots 0 _law_tape_here, 1 _law_kind, 2 _law_domain_here, 3 _law_turned, 4 _law_clamped -/
def d_law_scale : FDef where
  np := 2
  nl := 5
  keep := false
  body := [
    .set 2 (.call "_law_domain" [(.var 0), (.var 1)]),
    .set 3 (.cmp .eq (.call "_law_draw" [(.var 0), (.cn (.int 3))]) (.cn (.int 0))),
    .set 4 (.cmp .eq (.call "_law_draw" [(.var 0), (.cn (.int 4))]) (.cn (.int 0))),
    .ret (.tup [(.idx (.lst [(.cn (.str "band")), (.cn (.str "linear"))]) (.blt "int" [(.cmp .eq (.var 1) (.cn (.str "linear")))])), (.var 2), (.var 3), (.var 4), (.bin .add (.cn (.int 1)) (.call "_law_draw" [(.var 0), (.cn (.int 12))])), (.call "_law_axis" [(.var 0)])])]
/-- _law_source(_law_tape_here, _law_columns_here, _law_kind): slots 0 _law_tape_here, 1 _law_columns_here, 2 _law_kind, 3 _law_found, 4 _law_column -/
def d_law_source : FDef where
  np := 3
  nl := 5
  keep := false
  body := [
    .iff (.cmp .eq (.var 2) (.cn (.str "linear"))) [.set 2 (.cn (.str "number"))] [],
    .set 3 (.lc (.v 4) .seq [(.var 1)] (.cmp .eq (.idx (.var 4) (.cn (.int 1))) (.var 2)) (.idx (.var 4) (.cn (.int 0)))),
    .iff (.and (.var 3) (.cmp .gt (.call "_law_draw" [(.var 0), (.cn (.int 5))]) (.cn (.int 0)))) [.ret (.tup [(.cn (.str "column")), (.idx (.var 3) (.call "_law_draw" [(.var 0), (.blt "len" [(.var 3)])]))])] [],
    .ret (.tup [(.cn (.str "constant")), (.call "_law_cell" [(.var 0), (.var 2)])])]
/-- _law_words(_law_tape_here, _law_mark, _law_kinds): slots 0 _law_tape_here, 1 _law_mark, 2 _law_kinds, 3 _law_words_here, 4 _law_more -/
def d_law_words : FDef where
  np := 3
  nl := 5
  keep := false
  body := [
    .set 3 (.lst [(.cn (.str "x")), (.cn (.str "y"))]),
    .iff (.cmp .eq (.var 1) (.cn (.str "rule"))) [.set 4 (.lst [(.lst [(.cn (.str "x"))]), (.lst [(.cn (.str "y"))]), (.lst [(.cn (.str "x")), (.cn (.str "y"))]), (.lst [(.cn (.str "x")), (.cn (.str "y")), (.cn (.str "x2"))]), (.lst [(.cn (.str "x")), (.cn (.str "y")), (.cn (.str "y2"))]), (.lst [(.cn (.str "x")), (.cn (.str "y")), (.cn (.str "x2")), (.cn (.str "y2"))])]), .set 3 (.idx (.var 4) (.call "_law_draw" [(.var 0), (.cn (.int 6))]))] [],
    .iff (.and (.cmp .eq (.var 1) (.cn (.str "bar"))) (.and (.cmp .eq (.idx (.var 2) (.cn (.int 0))) (.cn (.str "linear"))) (.or (.cmp .eq (.idx (.var 2) (.cn (.int 1))) (.cn (.str "linear"))) (.cmp .eq (.call "_law_draw" [(.var 0), (.cn (.int 2))]) (.cn (.int 0)))))) [.ex (.mth "append" (.var 3) [(.cn (.str "x2"))])] [],
    .iff (.and (.cmp .eq (.var 1) (.cn (.str "bar"))) (.and (.cmp .eq (.idx (.var 2) (.cn (.int 1))) (.cn (.str "linear"))) (.cmp .eq (.call "_law_draw" [(.var 0), (.cn (.int 2))]) (.cn (.int 0))))) [.ex (.mth "append" (.var 3) [(.cn (.str "y2"))])] [],
    .iff (.cmp .eq (.var 1) (.cn (.str "text"))) [.ex (.mth "append" (.var 3) [(.cn (.str "text"))])] [],
    .iff (.and (.cmp .eq (.var 1) (.cn (.str "line"))) (.cmp .eq (.call "_law_draw" [(.var 0), (.cn (.int 2))]) (.cn (.int 0)))) [.ex (.mth "append" (.var 3) [(.cn (.str "detail"))])] [],
    .iff (.cmp .eq (.call "_law_draw" [(.var 0), (.cn (.int 2))]) (.cn (.int 0))) [.ex (.mth "append" (.var 3) [(.cn (.str "color"))])] [],
    .iff (.cmp .eq (.call "_law_draw" [(.var 0), (.cn (.int 3))]) (.cn (.int 0))) [.ex (.mth0 "reverse" (.var 3))] [],
    .ret (.var 3)]
/-- _law_channels(_law_tape_here, _law_mark, _law_kinds, _law_columns_here): slots 0 _law_tape_here, 1 _law_mark, 2 _law_kinds, 3 _law_columns_here, 4 _law_channels_here, 5 _law_word_here, 6 _law_kind -/
def d_law_channels : FDef where
  np := 4
  nl := 7
  keep := false
  body := [
    .set 4 (.tup []),
    .for_ (.v 5) .seq [(.call "_law_words" [(.var 0), (.var 1), (.var 2)])] [.set 6 (.idx (.idx (.var 3) (.call "_law_draw" [(.var 0), (.blt "len" [(.var 3)])])) (.cn (.int 1))), .iff (.or (.cmp .eq (.idx (.var 5) (.cn (.int 0))) (.cn (.str "x"))) (.cmp .eq (.idx (.var 5) (.cn (.int 0))) (.cn (.str "y")))) [.set 6 (.idx (.var 2) (.mth "sindex" (.cn (.str "xy")) [(.idx (.var 5) (.cn (.int 0)))]))] [], .iff (.cmp .eq (.var 5) (.cn (.str "color"))) [.set 6 (.idx (.var 2) (.cn (.int 2)))] [], .set 4 (.bin .add (.var 4) (.tup [(.tup [(.var 5), (.call "_law_source" [(.var 0), (.var 3), (.var 6)])])]))],
    .ret (.var 4)]
/-- _law_keys(_law_tape_here, _law_columns_here): slots 0 _law_tape_here, 1 _law_columns_here, 2 _law_keys_here, 3 _law_k -/
def d_law_keys : FDef where
  np := 2
  nl := 4
  keep := false
  body := [
    .set 2 (.tup []),
    .for_ (.v 3) .rng [(.call "_law_draw" [(.var 0), (.cn (.int 3))])] [.set 2 (.bin .add (.var 2) (.tup [(.tup [(.idx (.idx (.var 1) (.call "_law_draw" [(.var 0), (.blt "len" [(.var 1)])])) (.cn (.int 0))), (.cmp .eq (.call "_law_draw" [(.var 0), (.cn (.int 2))]) (.cn (.int 1)))])]))],
    .ret (.var 2)]
/-- _law_transforms(_law_tape_here, _law_columns_here): slots 0 _law_tape_here, 1 _law_columns_here, 2 _law_made, 3 _law_k, 4 _law_number_here, 5 _law_more, 6 _law_column -/
def d_law_transforms : FDef where
  np := 2
  nl := 7
  keep := false
  body := [
    .set 2 (.call "_law_first_transform" [(.var 0), (.var 1)]),
    .for_ (.v 3) .rng [(.idx (.lst [(.cn (.int 0)), (.cn (.int 0)), (.cn (.int 0)), (.cn (.int 0)), (.cn (.int 1)), (.cn (.int 3))]) (.call "_law_draw" [(.var 0), (.cn (.int 6))]))] [.set 4 (.idx (.lc (.v 6) .seq [(.idx (.var 2) (.cn (.int 1)))] (.cmp .eq (.idx (.var 6) (.cn (.int 1))) (.cn (.str "number"))) (.idx (.var 6) (.cn (.int 0)))) (.cn (.int 0))), .set 5 (.lst [(.tup [(.cn (.str "sort")), (.call "_law_keys" [(.var 0), (.idx (.var 2) (.cn (.int 1)))])]), (.tup [(.cn (.str "take")), (.bin .add (.cn (.int 2)) (.call "_law_draw" [(.var 0), (.cn (.int 6))]))])]), .ex (.mth "append" (.var 5) [(.tup [(.cn (.str "filter")), (.tup [(.cn (.str "<>")), (.tup [(.cn (.str "column")), (.var 4)]), (.tup [(.cn (.str "cell")), (.call "_law_number" [(.var 0)])])])])]), .set 2 (.lst [(.bin .add (.idx (.var 2) (.cn (.int 0))) (.tup [(.idx (.var 5) (.call "_law_draw" [(.var 0), (.cn (.int 3))]))])), (.idx (.var 2) (.cn (.int 1)))])],
    .ret (.var 2)]
/-- _law_first_transform(_law_tape_here, _law_columns_here): slots 0 _law_tape_here, 1 _law_columns_here, 2 _law_number_here, 3 _law_form, 4 _law_sign, 5 _law_twice, 6 _law_turn, 7 _law_by, 8 _law_sums, 9 _law_group, 10 _law_over, 11 _law_ways, 12 _law_column -/
def d_law_first_transform : FDef where
  np := 2
  nl := 13
  keep := false
  body := [
    .set 2 (.idx (.lc (.v 12) .seq [(.var 1)] (.cmp .eq (.idx (.var 12) (.cn (.int 1))) (.cn (.str "number"))) (.idx (.var 12) (.cn (.int 0)))) (.cn (.int 0))),
    .set 3 (.call "_law_draw" [(.var 0), (.cn (.int 9))]),
    .iff (.cmp .eq (.var 3) (.cn (.int 0))) [.set 4 (.idx (.lst [(.cn (.str "<")), (.cn (.str ">=")), (.cn (.str "<>"))]) (.call "_law_draw" [(.var 0), (.cn (.int 3))])), .ret (.lst [(.tup [(.tup [(.cn (.str "filter")), (.tup [(.var 4), (.tup [(.cn (.str "column")), (.var 2)]), (.tup [(.cn (.str "cell")), (.call "_law_number" [(.var 0)])])])])]), (.var 1)])] [],
    .iff (.cmp .eq (.var 3) (.cn (.int 1))) [.ret (.lst [(.tup [(.tup [(.cn (.str "sort")), (.call "_law_keys" [(.var 0), (.var 1)])])]), (.var 1)])] [],
    .iff (.cmp .eq (.var 3) (.cn (.int 2))) [.set 5 (.tup [(.cn (.str "derive")), (.cn (.str "twice")), (.tup [(.cn (.str "*")), (.tup [(.cn (.str "cell")), (.tup [(.cn (.int 2)), (.cn (.int 1))])]), (.tup [(.cn (.str "column")), (.var 2)])])]), .ret (.lst [(.tup [(.var 5)]), (.bin .add (.var 1) (.tup [(.tup [(.cn (.str "twice")), (.cn (.str "number"))])]))])] [],
    .iff (.cmp .eq (.var 3) (.cn (.int 3))) [.ret (.lst [(.tup [(.tup [(.cn (.str "take")), (.call "_law_draw" [(.var 0), (.cn (.int 6))])])]), (.var 1)])] [],
    .iff (.cmp .eq (.var 3) (.cn (.int 4))) [.set 6 (.call "_law_draw" [(.var 0), (.blt "len" [(.var 1)])]), .set 7 (.slc (.bin .add (.slc (.var 1) (.var 6) (.cn .non)) (.slc (.var 1) (.cn .non) (.var 6))) (.cn .non) (.idx (.lst [(.cn (.int 1)), (.cn (.int 1)), (.cn (.int 2)), (.cn (.int 0))]) (.call "_law_draw" [(.var 0), (.cn (.int 4))]))), .set 8 (.tup [(.tup [(.cn (.str "sum_up")), (.cn (.str "sum")), (.var 2)]), (.tup [(.cn (.str "many")), (.cn (.str "count")), (.cn .non)])]), .set 9 (.tup [(.cn (.str "group")), (.blt "tuple" [(.lc (.v 12) .seq [(.var 7)] (.cn (.bl true)) (.idx (.var 12) (.cn (.int 0))))]), (.var 8)]), .ret (.lst [(.tup [(.var 9)]), (.bin .add (.var 7) (.tup [(.tup [(.cn (.str "sum_up")), (.cn (.str "number"))]), (.tup [(.cn (.str "many")), (.cn (.str "number"))])]))])] [],
    .iff (.cmp .eq (.var 3) (.cn (.int 5))) [.set 10 (.slc (.tup [(.idx (.idx (.var 1) (.call "_law_draw" [(.var 0), (.blt "len" [(.var 1)])])) (.cn (.int 0)))]) (.cn .non) (.call "_law_draw" [(.var 0), (.cn (.int 2))])), .set 11 (.lst [(.tup [(.cn (.str "stack")), (.var 2), (.var 10), (.call "_law_keys" [(.var 0), (.var 1)]), (.cn (.str "low")), (.cn (.str "high"))]), (.tup [(.cn (.str "bin")), (.var 2), (.tup [(.cn (.int 5)), (.cn (.int 2))]), (.cn (.str "low")), (.cn (.str "high"))])]), .ret (.lst [(.tup [(.idx (.var 11) (.bin .fdiv (.call "_law_draw" [(.var 0), (.cn (.int 3))]) (.cn (.int 2))))]), (.bin .add (.var 1) (.tup [(.tup [(.cn (.str "low")), (.cn (.str "number"))]), (.tup [(.cn (.str "high")), (.cn (.str "number"))])]))])] [],
    .ret (.lst [(.tup []), (.var 1)])]
/-- _law_stacked(_law_channels_here, _law_kinds): slots 0 _law_channels_here, 1 _law_kinds, 2 _law_words_here, 3 _law_made, 4 _law_pair, 5 _law_source_here -/
def d_law_stacked : FDef where
  np := 2
  nl := 6
  keep := false
  body := [
    .set 2 (.idx (.lst [(.lst [(.cn (.str "x")), (.cn (.str "x2"))]), (.lst [(.cn (.str "y")), (.cn (.str "y2"))])]) (.blt "int" [(.cmp .eq (.idx (.var 1) (.cn (.int 1))) (.cn (.str "linear")))])),
    .iff (.tr (.cmp .notin (.idx (.var 2) (.cn (.int 1))) (.lc (.v 4) .seq [(.var 0)] (.cn (.bl true)) (.idx (.var 4) (.cn (.int 0)))))) [.ret (.var 0)] [],
    .set 3 (.tup []),
    .for_ (.v 4) .seq [(.var 0)] [.set 5 (.idx (.var 4) (.cn (.int 1))), .iff (.cmp .isin (.idx (.var 4) (.cn (.int 0))) (.var 2)) [.set 5 (.tup [(.cn (.str "column")), (.idx (.lst [(.cn (.str "high")), (.cn (.str "low"))]) (.mth "index" (.var 2) [(.idx (.var 4) (.cn (.int 0)))]))])] [], .set 3 (.bin .add (.var 3) (.tup [(.tup [(.idx (.var 4) (.cn (.int 0))), (.var 5)])]))],
    .ret (.var 3)]
/-- _law_tag(_law_tape_here, _law_mark, _law_columns_here, _law_layers): slots 0 _law_tape_here, 1 _law_mark, 2 _law_columns_here, 3 _law_layers, 4 _law_sides, 5 _law_first, 6 _law_avoid, 7 _law_column, 8 _law_k -/
def d_law_tag : FDef where
  np := 4
  nl := 9
  keep := false
  body := [
    .iff (.or (.cmp .eq (.var 1) (.cn (.str "line"))) (.cmp .eq (.call "_law_draw" [(.var 0), (.cn (.int 2))]) (.cn (.int 0)))) [.ret (.cn .non)] [],
    .set 4 (.lst [(.cn (.str "above")), (.cn (.str "below")), (.cn (.str "left")), (.cn (.str "right")), (.cn (.str "center"))]),
    .set 5 (.idx (.var 4) (.call "_law_draw" [(.var 0), (.cn (.int 5))])),
    .set 6 (.lc (.v 8) .rng [(.var 3)] (.cmp .eq (.call "_law_draw" [(.var 0), (.cn (.int 2))]) (.cn (.int 0))) (.var 8)),
    .iff (.cmp .eq (.call "_law_draw" [(.var 0), (.cn (.int 2))]) (.cn (.int 0))) [.ex (.mth0 "reverse" (.var 6))] [],
    .set 7 (.idx (.idx (.var 2) (.call "_law_draw" [(.var 0), (.blt "len" [(.var 2)])])) (.cn (.int 0))),
    .ret (.tup [(.var 7), (.call "_law_keys" [(.var 0), (.var 2)]), (.var 5), (.idx (.var 4) (.call "_law_draw" [(.var 0), (.cn (.int 5))])), (.blt "tuple" [(.var 6)])])]
/-- _law_layer(_law_tape_here, _law_tables, _law_kinds, _law_layers): slots 0 _law_tape_here, 1 _law_tables, 2 _law_kinds, 3 _law_layers, 4 _law_table, 5 _law_after, 6 _law_mark, 7 _law_stacked_here, 8 _law_channels_here, 9 _law_paint -/
def d_law_layer : FDef where
  np := 4
  nl := 10
  keep := false
  body := [
    .set 4 (.idx (.var 1) (.call "_law_draw" [(.var 0), (.blt "len" [(.var 1)])])),
    .set 5 (.call "_law_transforms" [(.var 0), (.idx (.var 4) (.cn (.int 1)))]),
    .set 6 (.idx (.lst [(.cn (.str "point")), (.cn (.str "bar")), (.cn (.str "line")), (.cn (.str "rule")), (.cn (.str "text")), (.cn (.str "point"))]) (.call "_law_draw" [(.var 0), (.cn (.int 6))])),
    .set 7 (.and (.cmp .isin (.tup [(.cn (.str "low")), (.cn (.str "number"))]) (.idx (.var 5) (.cn (.int 1)))) (.cmp .eq (.call "_law_draw" [(.var 0), (.cn (.int 2))]) (.cn (.int 0)))),
    .iff (.var 7) [.set 6 (.cn (.str "bar"))] [],
    .iff (.and (.cmp .eq (.var 6) (.cn (.str "bar"))) (.and (.cmp .ne (.idx (.var 2) (.cn (.int 0))) (.cn (.str "linear"))) (.cmp .ne (.idx (.var 2) (.cn (.int 1))) (.cn (.str "linear"))))) [.set 6 (.cn (.str "point"))] [],
    .set 8 (.call "_law_channels" [(.var 0), (.var 6), (.var 2), (.idx (.var 5) (.cn (.int 1)))]),
    .iff (.and (.var 7) (.cmp .eq (.var 6) (.cn (.str "bar")))) [.set 8 (.call "_law_stacked" [(.var 8), (.var 2)])] [],
    .set 9 (.idx (.lst [(.cn (.str "#3a6ea8")), (.cn (.str "#000000")), (.cn (.str "#ffe4b5"))]) (.call "_law_draw" [(.var 0), (.cn (.int 3))])),
    .ret (.tup [(.idx (.var 4) (.cn (.int 0))), (.idx (.var 5) (.cn (.int 0))), (.var 6), (.var 8), (.var 9), (.call "_law_tag" [(.var 0), (.var 6), (.idx (.var 5) (.cn (.int 1))), (.var 3)])])]
/-- _law_view(_law_tape_here, _law_name, _law_tables, _law_layers): slots 0 _law_tape_here, 1 _law_name, 2 _law_tables, 3 _law_layers, 4 _law_kinds, 5 _law_k, 6 _law_size, 7 _law_x, 8 _law_y, 9 _law_hue, 10 _law_made -/
def d_law_view : FDef where
  np := 4
  nl := 11
  keep := false
  body := [
    .set 4 (.lst []),
    .for_ (.v 5) .rng [(.cn (.int 2))] [.ex (.mth "append" (.var 4) [(.idx (.lst [(.cn (.str "linear")), (.cn (.str "linear")), (.cn (.str "linear")), (.cn (.str "text")), (.cn (.str "number")), (.cn (.str "boolean"))]) (.call "_law_draw" [(.var 0), (.cn (.int 6))]))])],
    .ex (.mth "append" (.var 4) [(.idx (.lst [(.cn (.str "text")), (.cn (.str "text")), (.cn (.str "number")), (.cn (.str "boolean"))]) (.call "_law_draw" [(.var 0), (.cn (.int 4))]))]),
    .set 6 (.tup [(.bin .add (.cn (.int 30)) (.call "_law_draw" [(.var 0), (.cn (.int 60))])), (.bin .add (.cn (.int 30)) (.call "_law_draw" [(.var 0), (.cn (.int 40))]))]),
    .set 7 (.call "_law_scale" [(.var 0), (.idx (.var 4) (.cn (.int 0)))]),
    .set 8 (.call "_law_scale" [(.var 0), (.idx (.var 4) (.cn (.int 1)))]),
    .set 9 (.tup [(.idx (.lst [(.cn (.str "plain")), (.cn (.str "safe")), (.cn (.str "dark"))]) (.call "_law_draw" [(.var 0), (.cn (.int 3))])), (.call "_law_domain" [(.var 0), (.idx (.var 4) (.cn (.int 2)))]), (.idx (.lst [(.cn .non), (.cn (.str "")), (.cn (.str "kind"))]) (.call "_law_draw" [(.var 0), (.cn (.int 3))]))]),
    .set 10 (.tup []),
    .for_ (.v 5) .rng [(.var 3)] [.set 10 (.bin .add (.var 10) (.tup [(.call "_law_layer" [(.var 0), (.var 2), (.var 4), (.var 3)])]))],
    .ret (.tup [(.var 1), (.idx (.lst [(.cn (.str "")), (.cn (.str "Panel"))]) (.call "_law_draw" [(.var 0), (.cn (.int 2))])), (.var 6), (.var 7), (.var 8), (.var 9), (.var 10)])]
/-- _law_spec(_law_tape_here, _law_views, _law_layers): slots 0 _law_tape_here, 1 _law_views, 2 _law_layers, 3 _law_tables, 4 _law_made, 5 _law_k, 6 _law_rows, 7 _law_many -/
def d_law_spec : FDef where
  np := 3
  nl := 8
  keep := false
  body := [
    .set 3 (.tup [(.tup [(.cn (.str "t")), (.call "_law_columns" [(.var 0)])])]),
    .iff (.cmp .eq (.call "_law_draw" [(.var 0), (.cn (.int 3))]) (.cn (.int 0))) [.set 3 (.bin .add (.var 3) (.tup [(.tup [(.cn (.str "u_2")), (.call "_law_columns" [(.var 0)])])]))] [],
    .set 4 (.tup []),
    .for_ (.v 5) .rng [(.var 1)] [.set 7 (.var 2), .iff (.and (.cmp .eq (.var 1) (.cn (.int 3))) (.and (.cmp .eq (.var 5) (.cn (.int 1))) (.cmp .eq (.call "_law_draw" [(.var 0), (.cn (.int 2))]) (.cn (.int 0))))) [.set 7 (.cn (.int 0))] [], .set 4 (.bin .add (.var 4) (.tup [(.call "_law_view" [(.var 0), (.idx (.lst [(.cn (.str "v")), (.cn (.str "w")), (.cn (.str "v_3"))]) (.var 5)), (.var 3), (.var 7)])]))],
    .set 6 (.tup [(.tup [(.cn (.int 0))])]),
    .iff (.cmp .eq (.var 1) (.cn (.int 2))) [.set 6 (.idx (.lst [(.tup [(.tup [(.cn (.int 0)), (.cn (.int 1))])]), (.tup [(.tup [(.cn (.int 1)), (.cn (.int 0))])]), (.tup [(.tup [(.cn (.int 0))]), (.tup [(.cn (.int 1))])]), (.tup [(.tup [(.cn (.int 1))]), (.tup [(.cn (.int 0))])])]) (.call "_law_draw" [(.var 0), (.cn (.int 4))]))] [],
    .iff (.cmp .eq (.var 1) (.cn (.int 3))) [.set 6 (.idx (.lst [(.tup [(.tup [(.cn (.int 0)), (.cn (.int 1)), (.cn (.int 2))])]), (.tup [(.tup [(.cn (.int 2))]), (.tup [(.cn (.int 1)), (.cn (.int 0))])]), (.tup [(.tup [(.cn (.int 1))]), (.tup [(.cn (.int 2))]), (.tup [(.cn (.int 0))])])]) (.call "_law_draw" [(.var 0), (.cn (.int 3))]))] [],
    .ret (.tup [(.idx (.lst [(.cn (.str "")), (.cn (.str "Sales"))]) (.call "_law_draw" [(.var 0), (.cn (.int 2))])), (.var 3), (.var 4), (.var 6)])]
/-- _law_can_read(_law_view_here, _law_channel): slots 0 _law_view_here, 1 _law_channel, 2 _law_scale_here, 3 _law_fits -/
def d_law_can_read : FDef where
  np := 2
  nl := 4
  keep := false
  body := [
    .iff (.or (.cmp .eq (.var 1) (.cn (.str "text"))) (.cmp .eq (.var 1) (.cn (.str "detail")))) [.ret (.cmp .eq (.var 1) (.cn (.str "text")))] [],
    .iff (.cmp .eq (.var 1) (.cn (.str "color"))) [.ret (.or (.notN (.idx (.idx (.var 0) (.cn (.int 5))) (.cn (.int 2)))) (.cmp .ne (.idx (.idx (.idx (.var 0) (.cn (.int 5))) (.cn (.int 1))) (.cn (.int 0))) (.cn (.str "fit"))))] [],
    .set 2 (.idx (.var 0) (.bin .add (.cn (.int 3)) (.blt "int" [(.cmp .eq (.idx (.var 1) (.cn (.int 0))) (.cn (.str "y")))]))),
    .set 3 (.or (.cmp .eq (.idx (.idx (.var 2) (.cn (.int 1))) (.cn (.int 0))) (.cn (.str "fit"))) (.cmp .eq (.idx (.idx (.var 2) (.cn (.int 1))) (.cn (.int 0))) (.cn (.str "zero")))),
    .iff (.and (.isN (.idx (.var 2) (.cn (.int 5)))) (.var 3)) [.ret (.cn (.bl false))] [],
    .ret (.or (.var 3) (.or (.cmp .eq (.idx (.var 2) (.cn (.int 0))) (.cn (.str "band"))) (.nt (.idx (.var 2) (.cn (.int 3))))))]
/-- _law_shown(_law_layer_here): slots 0 _law_layer_here, 1 _law_found, 2 _law_pair, 3 _law_word_here -/
def d_law_shown : FDef where
  np := 1
  nl := 4
  keep := false
  body := [
    .set 1 (.lc (.v 2) .seq [(.idx (.var 0) (.cn (.int 3)))] (.cmp .eq (.idx (.idx (.var 2) (.cn (.int 1))) (.cn (.int 0))) (.cn (.str "column"))) (.idx (.var 2) (.cn (.int 0)))),
    .ret (.lc (.v 3) .seq [(.lst [(.cn (.str "x")), (.cn (.str "x2")), (.cn (.str "y")), (.cn (.str "y2")), (.cn (.str "color")), (.cn (.str "text")), (.cn (.str "detail"))])] (.cmp .isin (.var 3) (.var 1)) (.var 3))]
/-- law(_law_script): slots 0 _law_script, 1 _law_tape_here, 2 _law_spec_here, 3 _law_due, 4 _law_number_here, 5 _law_view_here, 6 _law_word_here, 7 _law_k, 8 _law_told, 9 _law_words_here -/
def d_law : FDef where
  np := 1
  nl := 10
  keep := false
  body := [
    .set 1 (.call "_law_tape" [(.var 0)]),
    .set 2 (.call "_law_spec" [(.var 1), (.bin .add (.cn (.int 1)) (.call "_law_draw" [(.var 1), (.cn (.int 3))])), (.bin .add (.cn (.int 1)) (.call "_law_draw" [(.var 1), (.cn (.int 4))]))]),
    .set 3 (.lst []),
    .for_ (.v 4) .rng [(.blt "len" [(.idx (.var 2) (.cn (.int 2)))])] [.set 5 (.idx (.idx (.var 2) (.cn (.int 2))) (.var 4)), .for_ (.v 6) .seq [(.lst [(.cn (.str "x")), (.cn (.str "x2")), (.cn (.str "y")), (.cn (.str "y2")), (.cn (.str "color")), (.cn (.str "text")), (.cn (.str "detail"))])] [.set 8 (.call "can_read" [(.var 2), (.var 4), (.var 6)]), .iff (.or (.nt (.isi (.var 8) "bool")) (.cmp .ne (.var 8) (.call "_law_can_read" [(.var 5), (.var 6)]))) [.ret (.cn (.bl false))] []], .for_ (.v 7) .rng [(.blt "len" [(.idx (.var 5) (.cn (.int 6)))])] [.set 9 (.call "_law_shown" [(.idx (.idx (.var 5) (.cn (.int 6))) (.var 7))]), .iff (.cmp .ne (.blt "repr" [(.call "shown_channels" [(.idx (.idx (.var 5) (.cn (.int 6))) (.var 7))])]) (.blt "repr" [(.blt "tuple" [(.var 9)])])) [.ret (.cn (.bl false))] [], .set 3 (.bin .add (.var 3) (.lc (.v 6) .seq [(.var 9)] (.nt (.call "_law_can_read" [(.var 5), (.var 6)])) (.tup [(.var 4), (.var 7), (.var 6)])))]],
    .ret (.cmp .eq (.blt "repr" [(.call "unread" [(.var 2)])]) (.blt "repr" [(.blt "tuple" [(.var 3)])]))]
def tab : String → Option FDef
  | "shown_columns" => some d_shown_columns
  | "shown_channels" => some d_shown_channels
  | "scale_of" => some d_scale_of
  | "is_declared" => some d_is_declared
  | "can_read" => some d_can_read
  | "unread" => some d_unread
  | "_law_tape" => some d_law_tape
  | "_law_draw" => some d_law_draw
  | "_law_word" => some d_law_word
  | "_law_lowest" => some d_law_lowest
  | "_law_number" => some d_law_number
  | "_law_cell" => some d_law_cell
  | "_law_cells" => some d_law_cells
  | "_law_columns" => some d_law_columns
  | "_law_axis" => some d_law_axis
  | "_law_ends" => some d_law_ends
  | "_law_domain" => some d_law_domain
  | "_law_scale" => some d_law_scale
  | "_law_source" => some d_law_source
  | "_law_words" => some d_law_words
  | "_law_channels" => some d_law_channels
  | "_law_keys" => some d_law_keys
  | "_law_transforms" => some d_law_transforms
  | "_law_first_transform" => some d_law_first_transform
  | "_law_stacked" => some d_law_stacked
  | "_law_tag" => some d_law_tag
  | "_law_layer" => some d_law_layer
  | "_law_view" => some d_law_view
  | "_law_spec" => some d_law_spec
  | "_law_can_read" => some d_law_can_read
  | "_law_shown" => some d_law_shown
  | "law" => some d_law
  | _ => none
def topS (i : Nat) : Stmt := PySem.Challenge.pw_chartspec_k79_channels_that_can_be_read.main.body.getD i (.Pass ⟨0, 0, 0, 0⟩)
abbrev fs : List String := ["_law_axis", "_law_can_read", "_law_cell", "_law_cells", "_law_channels", "_law_columns", "_law_domain", "_law_draw", "_law_ends", "_law_first_transform", "_law_keys", "_law_layer", "_law_lowest", "_law_number", "_law_scale", "_law_shown", "_law_source", "_law_spec", "_law_stacked", "_law_tag", "_law_tape", "_law_transforms", "_law_view", "_law_word", "_law_words", "can_read", "is_declared", "scale_of", "shown_channels", "shown_columns", "unread"]
abbrev gs : List String := ["ORDER"]
abbrev ds : List String := ["PLACES"]
abbrev ed_shown_columns : Cs.Entry := ⟨"shown_columns", topS 3, ["layer", "sources", "shown", "channel"], ["layer"], d_shown_columns⟩
abbrev ed_shown_channels : Cs.Entry := ⟨"shown_channels", topS 4, ["layer"], ["layer"], d_shown_channels⟩
abbrev ed_scale_of : Cs.Entry := ⟨"scale_of", topS 5, ["spec", "number", "channel"], ["spec", "number", "channel"], d_scale_of⟩
abbrev ed_is_declared : Cs.Entry := ⟨"is_declared", topS 6, ["scale"], ["scale"], d_is_declared⟩
abbrev ed_can_read : Cs.Entry := ⟨"can_read", topS 7, ["spec", "number", "channel", "scale"], ["spec", "number", "channel"], d_can_read⟩
abbrev ed_unread : Cs.Entry := ⟨"unread", topS 8, ["spec", "found", "number", "view", "k", "layer", "channel"], ["spec"], d_unread⟩
abbrev ed_law_tape : Cs.Entry := ⟨"_law_tape", topS 10, ["_law_script", "_law_total", "_law_cell_here"], ["_law_script"], d_law_tape⟩
abbrev ed_law_draw : Cs.Entry := ⟨"_law_draw", topS 11, ["_law_tape_here", "_law_many", "_law_number_here", "_law_place"], ["_law_tape_here", "_law_many"], d_law_draw⟩
abbrev ed_law_word : Cs.Entry := ⟨"_law_word", topS 12, ["_law_tape_here", "_law_signs", "_law_word_here", "_law_k"], ["_law_tape_here"], d_law_word⟩
abbrev ed_law_lowest : Cs.Entry := ⟨"_law_lowest", topS 13, ["_law_n", "_law_d", "_law_a", "_law_b", "_law_rest"], ["_law_n", "_law_d"], d_law_lowest⟩
abbrev ed_law_number : Cs.Entry := ⟨"_law_number", topS 14, ["_law_tape_here", "_law_n", "_law_form"], ["_law_tape_here"], d_law_number⟩
abbrev ed_law_cell : Cs.Entry := ⟨"_law_cell", topS 15, ["_law_tape_here", "_law_kind"], ["_law_tape_here", "_law_kind"], d_law_cell⟩
abbrev ed_law_cells : Cs.Entry := ⟨"_law_cells", topS 16, ["_law_tape_here", "_law_kind", "_law_many", "_law_found", "_law_k", "_law_one"], ["_law_tape_here", "_law_kind", "_law_many"], d_law_cells⟩
abbrev ed_law_columns : Cs.Entry := ⟨"_law_columns", topS 17, ["_law_tape_here", "_law_names", "_law_kinds", "_law_turn", "_law_columns_here", "_law_k"], ["_law_tape_here"], d_law_columns⟩
abbrev ed_law_axis : Cs.Entry := ⟨"_law_axis", topS 18, ["_law_tape_here", "_law_style"], ["_law_tape_here"], d_law_axis⟩
abbrev ed_law_ends : Cs.Entry := ⟨"_law_ends", topS 19, ["_law_tape_here", "_law_low", "_law_size"], ["_law_tape_here"], d_law_ends⟩
abbrev ed_law_domain : Cs.Entry := ⟨"_law_domain", topS 20, ["_law_tape_here", "_law_kind", "_law_form"], ["_law_tape_here", "_law_kind"], d_law_domain⟩
abbrev ed_law_scale : Cs.Entry := ⟨"_law_scale", topS 21, ["_law_tape_here", "_law_kind", "_law_domain_here", "_law_turned", "_law_clamped"], ["_law_tape_here", "_law_kind"], d_law_scale⟩
abbrev ed_law_source : Cs.Entry := ⟨"_law_source", topS 22, ["_law_tape_here", "_law_columns_here", "_law_kind", "_law_found", "_law_column"], ["_law_tape_here", "_law_columns_here", "_law_kind"], d_law_source⟩
abbrev ed_law_words : Cs.Entry := ⟨"_law_words", topS 23, ["_law_tape_here", "_law_mark", "_law_kinds", "_law_words_here", "_law_more"], ["_law_tape_here", "_law_mark", "_law_kinds"], d_law_words⟩
abbrev ed_law_channels : Cs.Entry := ⟨"_law_channels", topS 24, ["_law_tape_here", "_law_mark", "_law_kinds", "_law_columns_here", "_law_channels_here", "_law_word_here", "_law_kind"], ["_law_tape_here", "_law_mark", "_law_kinds", "_law_columns_here"], d_law_channels⟩
abbrev ed_law_keys : Cs.Entry := ⟨"_law_keys", topS 25, ["_law_tape_here", "_law_columns_here", "_law_keys_here", "_law_k"], ["_law_tape_here", "_law_columns_here"], d_law_keys⟩
abbrev ed_law_transforms : Cs.Entry := ⟨"_law_transforms", topS 26, ["_law_tape_here", "_law_columns_here", "_law_made", "_law_k", "_law_number_here", "_law_more", "_law_column"], ["_law_tape_here", "_law_columns_here"], d_law_transforms⟩
abbrev ed_law_first_transform : Cs.Entry := ⟨"_law_first_transform", topS 27, ["_law_tape_here", "_law_columns_here", "_law_number_here", "_law_form", "_law_sign", "_law_twice", "_law_turn", "_law_by", "_law_sums", "_law_group", "_law_over", "_law_ways", "_law_column"], ["_law_tape_here", "_law_columns_here"], d_law_first_transform⟩
abbrev ed_law_stacked : Cs.Entry := ⟨"_law_stacked", topS 28, ["_law_channels_here", "_law_kinds", "_law_words_here", "_law_made", "_law_pair", "_law_source_here"], ["_law_channels_here", "_law_kinds"], d_law_stacked⟩
abbrev ed_law_tag : Cs.Entry := ⟨"_law_tag", topS 29, ["_law_tape_here", "_law_mark", "_law_columns_here", "_law_layers", "_law_sides", "_law_first", "_law_avoid", "_law_column", "_law_k"], ["_law_tape_here", "_law_mark", "_law_columns_here", "_law_layers"], d_law_tag⟩
abbrev ed_law_layer : Cs.Entry := ⟨"_law_layer", topS 30, ["_law_tape_here", "_law_tables", "_law_kinds", "_law_layers", "_law_table", "_law_after", "_law_mark", "_law_stacked_here", "_law_channels_here", "_law_paint"], ["_law_tape_here", "_law_tables", "_law_kinds", "_law_layers"], d_law_layer⟩
abbrev ed_law_view : Cs.Entry := ⟨"_law_view", topS 31, ["_law_tape_here", "_law_name", "_law_tables", "_law_layers", "_law_kinds", "_law_k", "_law_size", "_law_x", "_law_y", "_law_hue", "_law_made"], ["_law_tape_here", "_law_name", "_law_tables", "_law_layers"], d_law_view⟩
abbrev ed_law_spec : Cs.Entry := ⟨"_law_spec", topS 32, ["_law_tape_here", "_law_views", "_law_layers", "_law_tables", "_law_made", "_law_k", "_law_rows", "_law_many"], ["_law_tape_here", "_law_views", "_law_layers"], d_law_spec⟩
abbrev ed_law_can_read : Cs.Entry := ⟨"_law_can_read", topS 33, ["_law_view_here", "_law_channel", "_law_scale_here", "_law_fits"], ["_law_view_here", "_law_channel"], d_law_can_read⟩
abbrev ed_law_shown : Cs.Entry := ⟨"_law_shown", topS 34, ["_law_layer_here", "_law_found", "_law_pair", "_law_word_here"], ["_law_layer_here"], d_law_shown⟩
abbrev ed_law : Cs.Entry := ⟨"law", topS 35, ["_law_script", "_law_tape_here", "_law_spec_here", "_law_due", "_law_number_here", "_law_view_here", "_law_word_here", "_law_k", "_law_told", "_law_words_here"], ["_law_script"], d_law⟩
theorem okd_shown_columns : ed_shown_columns.Ok fs gs ds := ⟨⟨rfl, rfl, rfl, by decide +kernel, rfl, by decide +kernel, by decide +kernel⟩, by decide +kernel, rfl, rfl⟩
theorem okd_shown_channels : ed_shown_channels.Ok fs gs ds := ⟨⟨rfl, rfl, rfl, by decide +kernel, rfl, by decide +kernel, by decide +kernel⟩, by decide +kernel, rfl, rfl⟩
theorem okd_scale_of : ed_scale_of.Ok fs gs ds := ⟨⟨rfl, rfl, rfl, by decide +kernel, rfl, by decide +kernel, by decide +kernel⟩, by decide +kernel, rfl, rfl⟩
theorem okd_is_declared : ed_is_declared.Ok fs gs ds := ⟨⟨rfl, rfl, rfl, by decide +kernel, rfl, by decide +kernel, by decide +kernel⟩, by decide +kernel, rfl, rfl⟩
theorem okd_can_read : ed_can_read.Ok fs gs ds := ⟨⟨rfl, rfl, rfl, by decide +kernel, rfl, by decide +kernel, by decide +kernel⟩, by decide +kernel, rfl, rfl⟩
theorem okd_unread : ed_unread.Ok fs gs ds := ⟨⟨rfl, rfl, rfl, by decide +kernel, rfl, by decide +kernel, by decide +kernel⟩, by decide +kernel, rfl, rfl⟩
theorem okd_law_tape : ed_law_tape.Ok fs gs ds := ⟨⟨rfl, rfl, rfl, by decide +kernel, rfl, by decide +kernel, by decide +kernel⟩, by decide +kernel, rfl, rfl⟩
theorem okd_law_draw : ed_law_draw.Ok fs gs ds := ⟨⟨rfl, rfl, rfl, by decide +kernel, rfl, by decide +kernel, by decide +kernel⟩, by decide +kernel, rfl, rfl⟩
theorem okd_law_word : ed_law_word.Ok fs gs ds := ⟨⟨rfl, rfl, rfl, by decide +kernel, rfl, by decide +kernel, by decide +kernel⟩, by decide +kernel, rfl, rfl⟩
theorem okd_law_lowest : ed_law_lowest.Ok fs gs ds := ⟨⟨rfl, rfl, rfl, by decide +kernel, rfl, by decide +kernel, by decide +kernel⟩, by decide +kernel, rfl, rfl⟩
theorem okd_law_number : ed_law_number.Ok fs gs ds := ⟨⟨rfl, rfl, rfl, by decide +kernel, rfl, by decide +kernel, by decide +kernel⟩, by decide +kernel, rfl, rfl⟩
theorem okd_law_cell : ed_law_cell.Ok fs gs ds := ⟨⟨rfl, rfl, rfl, by decide +kernel, rfl, by decide +kernel, by decide +kernel⟩, by decide +kernel, rfl, rfl⟩
theorem okd_law_cells : ed_law_cells.Ok fs gs ds := ⟨⟨rfl, rfl, rfl, by decide +kernel, rfl, by decide +kernel, by decide +kernel⟩, by decide +kernel, rfl, rfl⟩
theorem okd_law_columns : ed_law_columns.Ok fs gs ds := ⟨⟨rfl, rfl, rfl, by decide +kernel, rfl, by decide +kernel, by decide +kernel⟩, by decide +kernel, rfl, rfl⟩
theorem okd_law_axis : ed_law_axis.Ok fs gs ds := ⟨⟨rfl, rfl, rfl, by decide +kernel, rfl, by decide +kernel, by decide +kernel⟩, by decide +kernel, rfl, rfl⟩
theorem okd_law_ends : ed_law_ends.Ok fs gs ds := ⟨⟨rfl, rfl, rfl, by decide +kernel, rfl, by decide +kernel, by decide +kernel⟩, by decide +kernel, rfl, rfl⟩
theorem okd_law_domain : ed_law_domain.Ok fs gs ds := ⟨⟨rfl, rfl, rfl, by decide +kernel, rfl, by decide +kernel, by decide +kernel⟩, by decide +kernel, rfl, rfl⟩
theorem okd_law_scale : ed_law_scale.Ok fs gs ds := ⟨⟨rfl, rfl, rfl, by decide +kernel, rfl, by decide +kernel, by decide +kernel⟩, by decide +kernel, rfl, rfl⟩
theorem okd_law_source : ed_law_source.Ok fs gs ds := ⟨⟨rfl, rfl, rfl, by decide +kernel, rfl, by decide +kernel, by decide +kernel⟩, by decide +kernel, rfl, rfl⟩
theorem okd_law_words : ed_law_words.Ok fs gs ds := ⟨⟨rfl, rfl, rfl, by decide +kernel, rfl, by decide +kernel, by decide +kernel⟩, by decide +kernel, rfl, rfl⟩
theorem okd_law_channels : ed_law_channels.Ok fs gs ds := ⟨⟨rfl, rfl, rfl, by decide +kernel, rfl, by decide +kernel, by decide +kernel⟩, by decide +kernel, rfl, rfl⟩
theorem okd_law_keys : ed_law_keys.Ok fs gs ds := ⟨⟨rfl, rfl, rfl, by decide +kernel, rfl, by decide +kernel, by decide +kernel⟩, by decide +kernel, rfl, rfl⟩
theorem okd_law_transforms : ed_law_transforms.Ok fs gs ds := ⟨⟨rfl, rfl, rfl, by decide +kernel, rfl, by decide +kernel, by decide +kernel⟩, by decide +kernel, rfl, rfl⟩
theorem okd_law_first_transform : ed_law_first_transform.Ok fs gs ds := ⟨⟨rfl, rfl, rfl, by decide +kernel, rfl, by decide +kernel, by decide +kernel⟩, by decide +kernel, rfl, rfl⟩
theorem okd_law_stacked : ed_law_stacked.Ok fs gs ds := ⟨⟨rfl, rfl, rfl, by decide +kernel, rfl, by decide +kernel, by decide +kernel⟩, by decide +kernel, rfl, rfl⟩
theorem okd_law_tag : ed_law_tag.Ok fs gs ds := ⟨⟨rfl, rfl, rfl, by decide +kernel, rfl, by decide +kernel, by decide +kernel⟩, by decide +kernel, rfl, rfl⟩
theorem okd_law_layer : ed_law_layer.Ok fs gs ds := ⟨⟨rfl, rfl, rfl, by decide +kernel, rfl, by decide +kernel, by decide +kernel⟩, by decide +kernel, rfl, rfl⟩
theorem okd_law_view : ed_law_view.Ok fs gs ds := ⟨⟨rfl, rfl, rfl, by decide +kernel, rfl, by decide +kernel, by decide +kernel⟩, by decide +kernel, rfl, rfl⟩
theorem okd_law_spec : ed_law_spec.Ok fs gs ds := ⟨⟨rfl, rfl, rfl, by decide +kernel, rfl, by decide +kernel, by decide +kernel⟩, by decide +kernel, rfl, rfl⟩
theorem okd_law_can_read : ed_law_can_read.Ok fs gs ds := ⟨⟨rfl, rfl, rfl, by decide +kernel, rfl, by decide +kernel, by decide +kernel⟩, by decide +kernel, rfl, rfl⟩
theorem okd_law_shown : ed_law_shown.Ok fs gs ds := ⟨⟨rfl, rfl, rfl, by decide +kernel, rfl, by decide +kernel, by decide +kernel⟩, by decide +kernel, rfl, rfl⟩
theorem okd_law : ed_law.Ok fs gs ds := ⟨⟨rfl, rfl, rfl, by decide +kernel, rfl, by decide +kernel, by decide +kernel⟩, by decide +kernel, rfl, rfl⟩
abbrev ents : List Cs.Entry := [ed_shown_columns, ed_shown_channels, ed_scale_of, ed_is_declared, ed_can_read, ed_unread, ed_law_tape, ed_law_draw, ed_law_word, ed_law_lowest, ed_law_number, ed_law_cell, ed_law_cells, ed_law_columns, ed_law_axis, ed_law_ends, ed_law_domain, ed_law_scale, ed_law_source, ed_law_words, ed_law_channels, ed_law_keys, ed_law_transforms, ed_law_first_transform, ed_law_stacked, ed_law_tag, ed_law_layer, ed_law_view, ed_law_spec, ed_law_can_read, ed_law_shown, ed_law]
theorem entsOk : ∀ e ∈ ents, e.Ok fs gs ds ∧ e.f ≠ "gcd" ∧ tab e.f = some e.d := by
  intro e h
  simp only [List.mem_cons, List.not_mem_nil, or_false] at h
  rcases h with rfl | rfl | rfl | rfl | rfl | rfl | rfl | rfl | rfl | rfl | rfl | rfl | rfl | rfl | rfl | rfl | rfl | rfl | rfl | rfl | rfl | rfl | rfl | rfl | rfl | rfl | rfl | rfl | rfl | rfl | rfl | rfl
  · exact ⟨okd_shown_columns, by decide, rfl⟩
  · exact ⟨okd_shown_channels, by decide, rfl⟩
  · exact ⟨okd_scale_of, by decide, rfl⟩
  · exact ⟨okd_is_declared, by decide, rfl⟩
  · exact ⟨okd_can_read, by decide, rfl⟩
  · exact ⟨okd_unread, by decide, rfl⟩
  · exact ⟨okd_law_tape, by decide, rfl⟩
  · exact ⟨okd_law_draw, by decide, rfl⟩
  · exact ⟨okd_law_word, by decide, rfl⟩
  · exact ⟨okd_law_lowest, by decide, rfl⟩
  · exact ⟨okd_law_number, by decide, rfl⟩
  · exact ⟨okd_law_cell, by decide, rfl⟩
  · exact ⟨okd_law_cells, by decide, rfl⟩
  · exact ⟨okd_law_columns, by decide, rfl⟩
  · exact ⟨okd_law_axis, by decide, rfl⟩
  · exact ⟨okd_law_ends, by decide, rfl⟩
  · exact ⟨okd_law_domain, by decide, rfl⟩
  · exact ⟨okd_law_scale, by decide, rfl⟩
  · exact ⟨okd_law_source, by decide, rfl⟩
  · exact ⟨okd_law_words, by decide, rfl⟩
  · exact ⟨okd_law_channels, by decide, rfl⟩
  · exact ⟨okd_law_keys, by decide, rfl⟩
  · exact ⟨okd_law_transforms, by decide, rfl⟩
  · exact ⟨okd_law_first_transform, by decide, rfl⟩
  · exact ⟨okd_law_stacked, by decide, rfl⟩
  · exact ⟨okd_law_tag, by decide, rfl⟩
  · exact ⟨okd_law_layer, by decide, rfl⟩
  · exact ⟨okd_law_view, by decide, rfl⟩
  · exact ⟨okd_law_spec, by decide, rfl⟩
  · exact ⟨okd_law_can_read, by decide, rfl⟩
  · exact ⟨okd_law_shown, by decide, rfl⟩
  · exact ⟨okd_law, by decide, rfl⟩
theorem fsOk : ∀ f ∈ fs, (∃ e ∈ ents, e.f = f) ∨ (f = "gcd" ∧ false = true) := by
  intro f h
  simp only [List.mem_cons, List.not_mem_nil, or_false] at h
  rcases h with rfl | rfl | rfl | rfl | rfl | rfl | rfl | rfl | rfl | rfl | rfl | rfl | rfl | rfl | rfl | rfl | rfl | rfl | rfl | rfl | rfl | rfl | rfl | rfl | rfl | rfl | rfl | rfl | rfl | rfl | rfl
  · exact .inl ⟨ed_law_axis, by simp, rfl⟩
  · exact .inl ⟨ed_law_can_read, by simp, rfl⟩
  · exact .inl ⟨ed_law_cell, by simp, rfl⟩
  · exact .inl ⟨ed_law_cells, by simp, rfl⟩
  · exact .inl ⟨ed_law_channels, by simp, rfl⟩
  · exact .inl ⟨ed_law_columns, by simp, rfl⟩
  · exact .inl ⟨ed_law_domain, by simp, rfl⟩
  · exact .inl ⟨ed_law_draw, by simp, rfl⟩
  · exact .inl ⟨ed_law_ends, by simp, rfl⟩
  · exact .inl ⟨ed_law_first_transform, by simp, rfl⟩
  · exact .inl ⟨ed_law_keys, by simp, rfl⟩
  · exact .inl ⟨ed_law_layer, by simp, rfl⟩
  · exact .inl ⟨ed_law_lowest, by simp, rfl⟩
  · exact .inl ⟨ed_law_number, by simp, rfl⟩
  · exact .inl ⟨ed_law_scale, by simp, rfl⟩
  · exact .inl ⟨ed_law_shown, by simp, rfl⟩
  · exact .inl ⟨ed_law_source, by simp, rfl⟩
  · exact .inl ⟨ed_law_spec, by simp, rfl⟩
  · exact .inl ⟨ed_law_stacked, by simp, rfl⟩
  · exact .inl ⟨ed_law_tag, by simp, rfl⟩
  · exact .inl ⟨ed_law_tape, by simp, rfl⟩
  · exact .inl ⟨ed_law_transforms, by simp, rfl⟩
  · exact .inl ⟨ed_law_view, by simp, rfl⟩
  · exact .inl ⟨ed_law_word, by simp, rfl⟩
  · exact .inl ⟨ed_law_words, by simp, rfl⟩
  · exact .inl ⟨ed_can_read, by simp, rfl⟩
  · exact .inl ⟨ed_is_declared, by simp, rfl⟩
  · exact .inl ⟨ed_scale_of, by simp, rfl⟩
  · exact .inl ⟨ed_shown_channels, by simp, rfl⟩
  · exact .inl ⟨ed_shown_columns, by simp, rfl⟩
  · exact .inl ⟨ed_unread, by simp, rfl⟩
end K79

set_option Elab.async false
set_option linter.all false
set_option maxRecDepth 100000
namespace Cs
open PySem PySem.Spec PyProof.Rows L2

/-! ### what a run gives -/
def wp {α : Type} (m : Option (α × Sto)) (Q : α → Sto → Prop) : Prop := ∃ a S, m = some (a, S) ∧ Q a S
@[simp] theorem wp_some {α : Type} (a : α) (S : Sto) (Q : α → Sto → Prop) : wp (some (a, S)) Q ↔ Q a S :=
  ⟨fun ⟨_, _, e, q⟩ => by cases e; exact q, fun q => ⟨a, S, rfl, q⟩⟩
@[simp] theorem wp_none {α : Type} (Q : α → Sto → Prop) : wp none Q ↔ False := ⟨fun ⟨_, _, e, _⟩ => (by cases e), False.elim⟩
@[simp] theorem wp_bnd {α β : Type} (m : Option (α × Sto)) (f : α → Sto → Option (β × Sto)) (Q : β → Sto → Prop) : wp (bnd m f) Q ↔ wp m fun a S => wp (f a S) Q :=
  ⟨fun ⟨r, S', e, q⟩ => by
    obtain ⟨a, S, e1, e2⟩ := bnd_inv e
    exact ⟨a, S, e1, r, S', e2, q⟩,
  fun ⟨a, S, e1, r, S', e2, q⟩ => ⟨r, S', by rw [e1]; exact e2, q⟩⟩
theorem wp.mono {α : Type} {m : Option (α × Sto)} {Q R : α → Sto → Prop} (h : wp m Q) (w : ∀ a S, Q a S → R a S) : wp m R := by
  obtain ⟨a, S, e, q⟩ := h
  exact ⟨a, S, e, w a S q⟩
theorem wp_eq {α : Type} {m : Option (α × Sto)} {a : α} {S : Sto} (h : m = some (a, S)) {Q : α → Sto → Prop} (q : Q a S) : wp m Q := ⟨a, S, h, q⟩
@[simp] theorem lift_some {α : Type} (a : α) (S : Sto) : lift (some a) S = some (a, S) := rfl
theorem wp_ite {α : Type} {p : Prop} [Decidable p] {a b : Option (α × Sto)} {Q : α → Sto → Prop} (h1 : p → wp a Q) (h2 : ¬p → wp b Q) : wp (if p then a else b) Q := by
  split
  · exact h1 (by assumption)
  · exact h2 (by assumption)

/-! ### loops -/
theorem wp_forL {w : Watch} {t : Tg} {body : X1} {Q : Fl → Sto → Prop} (I : List D → Ev → Sto → Prop) (hs : ∀ xs env S, I xs env S → still w S)
    (step : ∀ x xs env S, I (x :: xs) env S → ∃ env1, asg t x env = some env1 ∧ wp (body env1 S) fun f S1 => match f with
      | .nx e => I xs e S1
      | .ct e => I xs e S1
      | .bk e => Q (.nx e) S1
      | .rt d => Q (.rt d) S1)
    (done : ∀ env S, I [] env S → Q (.nx env) S) : ∀ xs env S, I xs env S → wp (forL w t body xs env S) Q
  | [], env, S, h => by
    rw [forL, if_pos (hs _ _ _ h)]
    exact wp_some _ _ _ |>.mpr (done _ _ h)
  | x :: xs, env, S, h => by
    obtain ⟨env1, e1, f, S1, e2, q⟩ := step x xs env S h
    rw [forL, if_pos (hs _ _ _ h), e1]
    simp only [wp_bnd]
    refine ⟨f, S1, e2, ?_⟩
    cases f with
    | nx e => exact wp_forL I hs step done xs e S1 q
    | ct e => exact wp_forL I hs step done xs e S1 q
    | bk e => exact wp_some _ _ _ |>.mpr q
    | rt d => exact wp_some _ _ _ |>.mpr q
theorem wp_lcL {cond : Ev → Sto → Option (Bool × Sto)} {elt : Ev → Sto → Option (D × Sto)} {w : Watch} {t : Tg} {n0 : Nat} {env : Ev} {Q : Sto → Prop} (I : List D → Sto → Prop) (hs : ∀ xs S, I xs S → still w S)
    (step : ∀ x xs S, I (x :: xs) S → ∃ env1, asg t x env = some env1 ∧ wp (cond env1 S) fun k S1 => if k = true then wp (elt env1 S1) fun y S2 => ∃ acc, getM S2 n0 = some acc ∧ acc.length < sizeLine ∧ I xs (S2.set n0 (.lst (acc ++ [y]))) else I xs S1)
    (done : ∀ S, I [] S → Q S) : ∀ xs S, I xs S → wp (lcL cond elt w t n0 env xs S) fun _ S => Q S
  | [], S, h => by
    rw [lcL, if_pos (hs _ _ h)]
    exact wp_some _ _ _ |>.mpr (done _ h)
  | x :: xs, S, h => by
    obtain ⟨env1, e1, k, S1, e2, q⟩ := step x xs S h
    rw [lcL, if_pos (hs _ _ h), e1]
    simp only [wp_bnd]
    refine ⟨k, S1, e2, ?_⟩
    cases k with
    | true =>
      rw [if_pos rfl] at q ⊢
      obtain ⟨y, S2, e3, acc, e4, l, q⟩ := q
      simp only [wp_bnd]
      refine ⟨y, S2, e3, ?_⟩
      simp only [e4]
      rw [if_pos l]
      exact wp_lcL I hs step done xs _ q
    | false =>
      rw [if_neg (by simp)] at q ⊢
      exact wp_lcL I hs step done xs _ q
theorem wp_lc2L {cond : Ev → Sto → Option (Bool × Sto)} {inner : Ev → Sto → Option (Unit × Sto)} {w : Watch} {t : Tg} {env : Ev} {Q : Sto → Prop} (I : List D → Sto → Prop) (hs : ∀ xs S, I xs S → still w S)
    (step : ∀ x xs S, I (x :: xs) S → ∃ env1, asg t x env = some env1 ∧ wp (cond env1 S) fun k S1 => if k = true then wp (inner env1 S1) fun _ S2 => I xs S2 else I xs S1)
    (done : ∀ S, I [] S → Q S) : ∀ xs S, I xs S → wp (lc2L cond inner w t env xs S) fun _ S => Q S
  | [], S, h => by
    rw [lc2L, if_pos (hs _ _ h)]
    exact wp_some _ _ _ |>.mpr (done _ h)
  | x :: xs, S, h => by
    obtain ⟨env1, e1, k, S1, e2, q⟩ := step x xs S h
    rw [lc2L, if_pos (hs _ _ h), e1]
    simp only [wp_bnd]
    refine ⟨k, S1, e2, ?_⟩
    cases k with
    | true =>
      rw [if_pos rfl] at q ⊢
      obtain ⟨y, S2, e3, q⟩ := q
      simp only [wp_bnd]
      exact ⟨y, S2, e3, wp_lc2L I hs step done xs _ q⟩
    | false =>
      rw [if_neg (by simp)] at q ⊢
      exact wp_lc2L I hs step done xs _ q
theorem whN_succ {c : Ev → Sto → Option (Bool × Sto)} {body : X1} : ∀ (n : Nat) (env : Ev) (S : Sto) (r : Fl × Sto), whN c body n env S = some r → whN c body (n + 1) env S = some r
  | 0, env, S, r, h => by cases h
  | n + 1, env, S, r, h => by
    rw [whN] at h
    obtain ⟨k, S1, e1, h⟩ := bnd_inv h
    rw [whN, e1, bnd_some]
    by_cases hk : k = true
    · rw [if_pos hk] at h ⊢
      obtain ⟨f, S2, e2, h⟩ := bnd_inv h
      rw [e2, bnd_some]
      cases f with
      | nx e => exact whN_succ n _ _ _ h
      | ct e => exact whN_succ n _ _ _ h
      | bk e => exact h
      | rt d => exact h
    · rw [if_neg hk] at h ⊢
      exact h
theorem whN_mono {c : Ev → Sto → Option (Bool × Sto)} {body : X1} {n m : Nat} (h : n ≤ m) {env : Ev} {S : Sto} {r : Fl × Sto} (e : whN c body n env S = some r) : whN c body m env S = some r := by
  induction h with
  | refl => exact e
  | step _ ih => exact whN_succ _ _ _ _ ih
theorem whE_of {c : Ev → Sto → Option (Bool × Sto)} {body : X1} {n : Nat} {env : Ev} {S : Sto} {r : Fl × Sto} (e : whN c body n env S = some r) : whE c body env S = some r := by
  have ex : ∃ n, (whN c body n env S).isSome = true := ⟨n, by rw [e]; rfl⟩
  unfold whE
  rw [dif_pos ex]
  obtain ⟨r', e'⟩ := Option.isSome_iff_exists.mp ex.choose_spec
  rw [e']
  rcases Nat.le_total n ex.choose with h | h
  · rw [whN_mono h e] at e'; cases e'; rfl
  · rw [whN_mono h e'] at e; cases e; rfl
theorem wp_whN {c : Ev → Sto → Option (Bool × Sto)} {body : X1} {Q : Fl → Sto → Prop} (I : Nat → Ev → Sto → Prop)
    (step : ∀ n env S, I n env S → wp (c env S) fun k S1 => if k = true then wp (body env S1) fun f S2 => match f with
      | .nx e => ∃ m, m < n ∧ I m e S2
      | .ct e => ∃ m, m < n ∧ I m e S2
      | .bk e => Q (.nx e) S2
      | .rt d => Q (.rt d) S2
      else Q (.nx env) S1) : ∀ N n env S, n < N → I n env S → wp (whN c body N env S) Q
  | 0, n, env, S, h, _ => absurd h (Nat.not_lt_zero _)
  | N + 1, n, env, S, h, i => by
    obtain ⟨k, S1, e1, q⟩ := step n env S i
    rw [whN, e1, bnd_some]
    by_cases hk : k = true
    · rw [if_pos hk] at q ⊢
      obtain ⟨f, S2, e2, q⟩ := q
      rw [e2, bnd_some]
      cases f with
      | nx e => obtain ⟨m, l, q⟩ := q; exact wp_whN I step N m e S2 (by omega) q
      | ct e => obtain ⟨m, l, q⟩ := q; exact wp_whN I step N m e S2 (by omega) q
      | bk e => exact wp_some _ _ _ |>.mpr q
      | rt d => exact wp_some _ _ _ |>.mpr q
    · rw [if_neg hk] at q ⊢
      exact wp_some _ _ _ |>.mpr q
theorem wp_whE {c : Ev → Sto → Option (Bool × Sto)} {body : X1} {Q : Fl → Sto → Prop} (I : Nat → Ev → Sto → Prop)
    (step : ∀ n env S, I n env S → wp (c env S) fun k S1 => if k = true then wp (body env S1) fun f S2 => match f with
      | .nx e => ∃ m, m < n ∧ I m e S2
      | .ct e => ∃ m, m < n ∧ I m e S2
      | .bk e => Q (.nx e) S2
      | .rt d => Q (.rt d) S2
      else Q (.nx env) S1) {n : Nat} {env : Ev} {S : Sto} (i : I n env S) : wp (whE c body env S) Q := by
  obtain ⟨f, S', e, q⟩ := wp_whN I step (n + 1) n env S (Nat.lt_succ_self n) i
  exact ⟨f, S', whE_of e, q⟩

/-! ### data without places -/
mutual
theorem und_pure (n : Nat) : ∀ d : D, d.pure = true → d.und n
  | .non, _ => trivial
  | .bl _, _ => trivial
  | .int _, _ => trivial
  | .str _, _ => trivial
  | .tup xs, h => by
    have h : D.pureL xs = true := by simpa [D.pure] using h
    simpa [D.und] using und_pureL n xs h
  | .loc _, h => by simp [D.pure] at h
theorem und_pureL (n : Nat) : ∀ ds : List D, D.pureL ds = true → D.undL n ds
  | [], _ => trivial
  | d :: ds, h => by
    have h : d.pure = true ∧ D.pureL ds = true := by simpa [D.pureL] using h
    exact ⟨und_pure n d h.1, und_pureL n ds h.2⟩
end
theorem pureL_iff {ds : List D} : D.pureL ds = true ↔ ∀ d ∈ ds, d.pure = true := by
  induction ds with
  | nil => simp [D.pureL]
  | cons d ds ih => simp [D.pureL, ih]
/-! ### a call's end -/
theorem Pre.app (S J : Sto) : Pre S (S ++ J) := ⟨by simp, fun i so h e => .inl (by rwa [List.getElem?_append_left h] at e)⟩
theorem wp_fin_p {S S1 : Sto} {d : D} {Q : D → Sto → Prop} (hp : d.pure = true) (pre : Pre S S1) (q : Q d (S1.take S.length)) : wp (fin S (d, S1)) Q := by
  unfold fin
  rw [if_pos pre, if_pos (und_pure _ _ hp)]
  exact wp_some _ _ _ |>.mpr q
theorem wp_fin_g {S S1 : Sto} {m : Nat} {so : SO} {Q : D → Sto → Prop} (pre : Pre S S1) (hm : S.length ≤ m) (e : S1[m]? = some so) (hx : so.mut = true ∧ so.und S.length) (q : Q (.loc S.length) (S1.take S.length ++ [so])) : wp (fin S (.loc m, S1)) Q := by
  unfold fin
  have h : ¬ (D.loc m).und S.length := by show ¬ m < S.length; omega
  rw [if_pos pre, if_neg h]
  simp only [e]
  rw [if_pos hx]
  exact wp_some _ _ _ |>.mpr q
theorem wp_fin_l {S S1 : Sto} {m : Nat} {xs : List D} {Q : D → Sto → Prop} (pre : Pre S S1) (hm : S.length ≤ m) (e : S1[m]? = some (.lst xs)) (hx : D.pureL xs = true) (q : Q (.loc S.length) (S1.take S.length ++ [.lst xs])) : wp (fin S (.loc m, S1)) Q :=
  wp_fin_g pre hm e ⟨rfl, und_pureL _ _ hx⟩ q
theorem wp_fin_app {S J : Sto} {d : D} {Q : D → Sto → Prop} (hp : d.pure = true) (q : Q d S) : wp (fin S (d, S ++ J)) Q :=
  wp_fin_p hp (.app S J) (by simpa using q)
theorem wp_fin_same {S : Sto} {d : D} {Q : D → Sto → Prop} (hp : d.pure = true) (q : Q d S) : wp (fin S (d, S)) Q := by
  have := wp_fin_app (J := []) hp q
  rwa [List.append_nil] at this
theorem wp_fin_appL {S J : Sto} {i : Nat} {xs : List D} {Q : D → Sto → Prop} (e : J[i]? = some (.lst xs)) (hx : D.pureL xs = true) (q : Q (.loc S.length) (S ++ [.lst xs])) : wp (fin S (.loc (S.length + i), S ++ J)) Q :=
  wp_fin_l (.app S J) (by omega) (by rw [List.getElem?_append_right (by omega)]; simpa using e) hx (by simpa using q)

/-! ### the tape -/
structure Tp where
  p : Int
  r : Int
  s : Int
def tp (sc : List D) (t : Tp) : Sto := [.ro sc, .lst sc, .lst [.loc 1, .int t.p, .int t.r, .int t.s]]
/-- n draws are still allowed for -/
structure Tp.ok (n : Nat) (t : Tp) : Prop where
  p0 : 0 ≤ t.p
  pn : t.p + n ≤ 1000000
  r0 : 0 ≤ t.r
  s0 : 0 ≤ t.s
  sn : t.s < 2147483647
theorem Tp.ok.mono {n m : Nat} {t : Tp} (h : t.ok n) (l : m ≤ n) : t.ok m := ⟨h.p0, by have := h.pn; omega, h.r0, h.s0, h.sn⟩
def ad (W : Sto) (i : Nat) : Nat := W.length + i + 3
@[simp] theorem ad_app (W J : Sto) (i : Nat) : ad (W ++ J) i = ad W (J.length + i) := by simp only [ad, List.length_append]; omega
@[simp high] theorem tp_len (sc : List D) (t : Tp) (W : Sto) : (tp sc t ++ W).length = ad W 0 := by simp [tp, ad]
@[simp] theorem tp_app (sc : List D) (t : Tp) (W J : Sto) : tp sc t ++ W ++ J = tp sc t ++ (W ++ J) := List.append_assoc ..
@[simp] theorem tp_get1 (sc : List D) (t : Tp) (W : Sto) : getL (tp sc t ++ W) 1 = some sc := rfl
@[simp] theorem tp_get2 (sc : List D) (t : Tp) (W : Sto) : getL (tp sc t ++ W) 2 = some [.loc 1, .int t.p, .int t.r, .int t.s] := rfl
@[simp] theorem tp_getM2 (sc : List D) (t : Tp) (W : Sto) : getM (tp sc t ++ W) 2 = some [.loc 1, .int t.p, .int t.r, .int t.s] := rfl
@[simp] theorem tp_set2 (sc : List D) (t : Tp) (W : Sto) (p r s : Int) : (tp sc t ++ W).set 2 (.lst [.loc 1, .int p, .int r, .int s]) = tp sc ⟨p, r, s⟩ ++ W := rfl
@[simp] theorem tp_get (sc : List D) (t : Tp) (W J : Sto) (i : Nat) : (tp sc t ++ (W ++ J))[ad W i]? = J[i]? := by
  rw [List.getElem?_append_right (by simp only [tp, ad, List.length_cons, List.length_nil]; omega), List.getElem?_append_right (by simp only [tp, ad, List.length_cons, List.length_nil]; omega)]
  congr 1
  simp only [tp, ad, List.length_cons, List.length_nil]; omega
@[simp] theorem tp_getL (sc : List D) (t : Tp) (W J : Sto) (i : Nat) : getL (tp sc t ++ (W ++ J)) (ad W i) = getL J i := by
  unfold getL; rw [tp_get]
@[simp] theorem tp_getK (sc : List D) (t : Tp) (W J : Sto) (i : Nat) : getK (tp sc t ++ (W ++ J)) (ad W i) = getK J i := by
  unfold getK; rw [tp_get]
@[simp] theorem tp_getT (sc : List D) (t : Tp) (W J : Sto) (i : Nat) : getT (tp sc t ++ (W ++ J)) (ad W i) = getT J i := by
  unfold getT; rw [tp_get]
@[simp] theorem tp_getM (sc : List D) (t : Tp) (W J : Sto) (i : Nat) : getM (tp sc t ++ (W ++ J)) (ad W i) = getM J i := by
  unfold getM; rw [tp_get]
@[simp] theorem tp_set (sc : List D) (t : Tp) (W J : Sto) (i : Nat) (x : SO) : (tp sc t ++ (W ++ J)).set (ad W i) x = tp sc t ++ (W ++ J.set i x) := by
  rw [List.set_append_right _ _ (by simp only [tp, ad, List.length_cons, List.length_nil]; omega), List.set_append_right _ _ (by simp only [tp, ad, List.length_cons, List.length_nil]; omega)]
  congr 3
  simp only [tp, ad, List.length_cons, List.length_nil]; omega
theorem Pre.tp (sc : List D) (t t' : Tp) (W J : Sto) : Pre (tp sc t ++ W) (tp sc t' ++ (W ++ J)) := by
  refine ⟨by simp [Cs.tp], fun i so h e => ?_⟩
  match i with
  | 0 => exact .inl e
  | 1 => exact .inl e
  | 2 =>
    cases e
    refine .inr ⟨?_, trivial, trivial, trivial, trivial⟩
    show 1 < _
    simp [Cs.tp]
  | i + 3 =>
    left
    have e : (W ++ J)[i]? = some so := e
    have h : i < W.length := by simp [Cs.tp] at h; omega
    show W[i]? = some so
    rwa [List.getElem?_append_left h] at e
theorem tp_take (sc : List D) (t t' : Tp) (W J : Sto) : (tp sc t' ++ (W ++ J)).take (tp sc t ++ W).length = tp sc t' ++ W := by
  have : (tp sc t ++ W).length = (tp sc t' ++ W).length := by simp [tp]
  rw [this, ← List.append_assoc, List.take_left' rfl]
theorem wp_fin_tp {sc : List D} {t t' : Tp} {W J : Sto} {d : D} {Q : D → Sto → Prop} (hp : d.pure = true) (q : Q d (tp sc t' ++ W)) : wp (fin (tp sc t ++ W) (d, tp sc t' ++ (W ++ J))) Q :=
  wp_fin_p hp (.tp ..) (by rw [tp_take]; exact q)
theorem wp_fin_tp0 {sc : List D} {t t' : Tp} {W : Sto} {d : D} {Q : D → Sto → Prop} (hp : d.pure = true) (q : Q d (tp sc t' ++ W)) : wp (fin (tp sc t ++ W) (d, tp sc t' ++ W)) Q := by
  have := wp_fin_tp (J := []) (t := t) hp q
  rwa [List.append_nil] at this
theorem wp_fin_tpL {sc : List D} {t t' : Tp} {W J : Sto} {i : Nat} {xs : List D} {Q : D → Sto → Prop} (e : J[i]? = some (.lst xs)) (hx : D.pureL xs = true) (q : Q (.loc (ad W 0)) (tp sc t' ++ (W ++ [.lst xs]))) :
    wp (fin (tp sc t ++ W) (.loc (ad W i), tp sc t' ++ (W ++ J))) Q :=
  wp_fin_l (.tp ..) (by simp only [tp, ad, List.length_append, List.length_cons, List.length_nil]; omega) (by rw [tp_get]; exact e) hx (by rw [tp_take, tp_app, tp_len]; exact q)

/-! ### a def's run -/
theorem wp_runF {c : Cfg} {fd : FDef} {vs : List D} {S : Sto} {Q : D → Sto → Prop} (hl : vs.length = fd.np) (hk : fd.keep = false)
    (h : wp (exSs c fd.body (start' fd vs) S) fun f S1 => match f with
      | .rt d => wp (fin S (d, S1)) Q
      | .nx _ => wp (fin S (.non, S1)) Q
      | _ => False) : wp (runF c fd vs S) Q := by
  obtain ⟨f, S1, e, q⟩ := h
  rw [runF, if_pos hl, e, bnd_some]
  cases f with
  | rt d => simp only [hk]; exact q
  | nx env => simp only [hk]; exact q
  | bk e => cases q
  | ct e => cases q
theorem callF_succ {Γ : String → Option FDef} {G : String → Option D} {k : Nat} {f : String} {fd : FDef} (hf : f ≠ "gcd") (h : Γ f = some fd) (vs : List D) (S : Sto) : callF Γ G (k + 1) f vs S = runF ⟨callF Γ G k, G⟩ fd vs S := by
  rw [callF, if_neg hf, h]
end Cs

set_option Elab.async false
set_option linter.all false
set_option maxRecDepth 100000
namespace Cs
open PySem PySem.Spec PyProof.Rows L2
section
variable (c : Cfg)
@[simp] theorem evE_var {i} (env : Ev) (S : Sto) : evE c (.var i : E) env S = (evVar i env S) := by
  first | (rw [evE]; done) | (rw [evE]; rfl)
@[simp] theorem evE_cn {k} (env : Ev) (S : Sto) : evE c (.cn k : E) env S = (some (k.d, S)) := by
  first | (rw [evE]; done) | (rw [evE]; rfl)
@[simp] theorem evE_glb {x} (env : Ev) (S : Sto) : evE c (.glb x : E) env S = (lift (c.G x) S) := by
  first | (rw [evE]; done) | (rw [evE]; rfl)
@[simp] theorem evE_bin {op a b} (env : Ev) (S : Sto) : evE c (.bin op a b : E) env S = (bnd (evE c a env S) fun x S1 => bnd (evE c b env S1) fun y S2 => bop op x y S2) := by
  first | (rw [evE]; done) | (rw [evE]; rfl)
@[simp] theorem evE_neg {a} (env : Ev) (S : Sto) : evE c (.neg a : E) env S = (bnd (evE c a env S) fun x S1 => match x with | .int i => some (.int (-i), S1) | _ => none) := by
  first | (rw [evE]; done) | (rw [evE]; rfl)
@[simp] theorem evE_cmp {op a b} (env : Ev) (S : Sto) : evE c (.cmp op a b : E) env S = (bnd (evE c a env S) fun x S1 => bnd (evE c b env S1) fun y S2 => cop op x y S2) := by
  first | (rw [evE]; done) | (rw [evE]; rfl)
@[simp] theorem evE_isN {a} (env : Ev) (S : Sto) : evE c (.isN a : E) env S = (bnd (evE c a env S) fun x S1 => some (.bl (isN x), S1)) := by
  first | (rw [evE]; done) | (rw [evE]; rfl)
@[simp] theorem evE_notN {a} (env : Ev) (S : Sto) : evE c (.notN a : E) env S = (bnd (evE c a env S) fun x S1 => some (.bl (!isN x), S1)) := by
  first | (rw [evE]; done) | (rw [evE]; rfl)
@[simp] theorem evE_isB {a b} (env : Ev) (S : Sto) : evE c (.isB a b : E) env S = (bnd (evE c a env S) fun x S1 => match x with | .bl k => some (.bl (decide (k = b)), S1) | _ => none) := by
  first | (rw [evE]; done) | (rw [evE]; rfl)
@[simp] theorem evE_isi {a T} (env : Ev) (S : Sto) : evE c (.isi a T : E) env S = (bnd (evE c a env S) fun x S1 => if noDk S1 x = true then some (.bl (isiB T x), S1) else none) := by
  first | (rw [evE]; done) | (rw [evE]; rfl)
@[simp] theorem evE_nt {a} (env : Ev) (S : Sto) : evE c (.nt a : E) env S = (bnd (evE c a env S) fun x S1 => (truth S1 x).map fun k => (.bl (!k), S1)) := by
  first | (rw [evE]; done) | (rw [evE]; rfl)
@[simp] theorem evE_and {a b} (env : Ev) (S : Sto) : evE c (.and a b : E) env S = (bnd (evE c a env S) fun x S1 => bnd (lift (truth S1 x) S1) fun k S1 => if k = true then evE c b env S1 else some (x, S1)) := by
  first | (rw [evE]; done) | (rw [evE]; rfl)
@[simp] theorem evE_or {a b} (env : Ev) (S : Sto) : evE c (.or a b : E) env S = (bnd (evE c a env S) fun x S1 => bnd (lift (truth S1 x) S1) fun k S1 => if k = true then some (x, S1) else evE c b env S1) := by
  first | (rw [evE]; done) | (rw [evE]; rfl)
@[simp] theorem evE_ife {t a b} (env : Ev) (S : Sto) : evE c (.ife t a b : E) env S = (ifT (tst (evE c t env S)) (evE c a env) (evE c b env)) := by
  first | (rw [evE]; done) | (rw [evE]; rfl)
@[simp] theorem evE_tup {es} (env : Ev) (S : Sto) : evE c (.tup es : E) env S = (bnd (evEs c es env S) fun xs S1 => some (.tup xs, S1)) := by
  first | (rw [evE]; done) | (rw [evE]; rfl)
@[simp] theorem evE_lst {es} (env : Ev) (S : Sto) : evE c (.lst es : E) env S = (bnd (evEs c es env S) fun xs S1 => some (.loc S1.length, S1 ++ [.lst xs])) := by
  first | (rw [evE]; done) | (rw [evE]; rfl)
@[simp] theorem evE_idx {a i} (env : Ev) (S : Sto) : evE c (.idx a i : E) env S = (bnd (evE c a env S) fun x S1 => bnd (evE c i env S1) fun y S2 => iop x y S2) := by
  first | (rw [evE]; done) | (rw [evE]; rfl)
@[simp] theorem evE_slc {a lo hi} (env : Ev) (S : Sto) : evE c (.slc a lo hi : E) env S = (bnd (evE c a env S) fun x S1 => bnd (evE c lo env S1) fun l S2 => bnd (evE c hi env S2) fun h S3 => match bndE lo l, bndE hi h with | some l, some h => slop x l h S3 | _, _ => none) := by
  first | (rw [evE]; done) | (rw [evE]; rfl)
@[simp] theorem evE_call {f es} (env : Ev) (S : Sto) : evE c (.call f es : E) env S = (bnd (evEs c es env S) fun xs S1 => c.C f xs S1) := by
  first | (rw [evE]; done) | (rw [evE]; rfl)
@[simp] theorem evE_blt {f es} (env : Ev) (S : Sto) : evE c (.blt f es : E) env S = (bnd (evEs c es env S) fun xs S1 => blt f xs S1) := by
  first | (rw [evE]; done) | (rw [evE]; rfl)
@[simp] theorem evE_mth {m o es} (env : Ev) (S : Sto) : evE c (.mth m o es : E) env S = (bnd (evE c o env S) fun x S1 => if mTy m x S1 = true then bnd (evEs c es env S1) fun xs S2 => mth m x xs S2 else none) := by
  first | (rw [evE]; done) | (rw [evE]; rfl)
@[simp] theorem evE_lc {t k es cnd e} (env : Ev) (S : Sto) : evE c (.lc t k es cnd e : E) env S = (bnd (evEs c es env S) fun xs S1 => bnd (lift (items k xs S1) S1) fun iw S1 =>
      bnd (lcL (fun env S => tst (evE c cnd env S)) (evE c e) iw.2 t S1.length (wipeE env t.slots) iw.1 (S1 ++ [.lst []])) fun _ S2 => some (.loc S1.length, S2)) := by
  first | (rw [evE]; done) | (rw [evE]; rfl)
@[simp] theorem evE_lc2 {t k es cnd t1 k1 es1 cnd1 e} (env : Ev) (S : Sto) : evE c (.lc2 t k es cnd t1 k1 es1 cnd1 e : E) env S = (bnd (evEs c es env S) fun xs S1 => bnd (lift (items k xs S1) S1) fun iw S1 =>
      bnd (lc2L (fun env S => tst (evE c cnd env S)) (fun env1 S2 => bnd (evEs c es1 env1 S2) fun ys S3 => bnd (lift (items k1 ys S3) S3) fun iw1 S3 =>
          lcL (fun env S => tst (evE c cnd1 env S)) (evE c e) iw1.2 t1 S1.length (wipeE env1 t1.slots) iw1.1 S3) iw.2 t (wipeE env (t.slots ++ t1.slots)) iw.1 (S1 ++ [.lst []])) fun _ S2 => some (.loc S1.length, S2)) := by
  first | (rw [evE]; done) | (rw [evE]; rfl)
@[simp] theorem evE_tr {e} (env : Ev) (S : Sto) : evE c (.tr e : E) env S = (bnd (evE c e env S) fun x S1 => fin S (x, S1)) := by
  first | (rw [evE]; done) | (rw [evE]; rfl)
@[simp] theorem evE_dnew (env : Ev) (S : Sto) : evE c (.dnew : E) env S = (some (.loc S.length, S ++ [.dk []])) := by
  first | (rw [evE]; done) | (rw [evE]; rfl)
@[simp] theorem evE_mth0 {m o} (env : Ev) (S : Sto) : evE c (.mth0 m o : E) env S = (bnd (evE c o env S) fun x S1 => mth0 m x S1) := by
  first | (rw [evE]; done) | (rw [evE]; rfl)
@[simp] theorem evE_dict1 {k v} (env : Ev) (S : Sto) : evE c (.dict1 k v : E) env S = (bnd (evE c k env (S ++ [.dt []])) fun x S1 => bnd (evE c v env S1) fun y S2 =>
      match getT S2 S.length, keyT x with
      | some [], some kt => some (.loc S.length, S2.set S.length (.dt [(kt, y)]))
      | _, _ => none) := by
  first | (rw [evE]; done) | (rw [evE]; rfl)
@[simp] theorem evE_dc {t k es cnd ke ve} (env : Ev) (S : Sto) : evE c (.dc t k es cnd ke ve : E) env S = (bnd (evEs c es env S) fun xs S1 => bnd (lift (items k xs S1) S1) fun iw S1 =>
      bnd (dcL (fun env S => tst (evE c cnd env S)) (evE c ke) (evE c ve) iw.2 t S1.length (wipeE env t.slots) iw.1 (S1 ++ [.dt []])) fun _ S2 => some (.loc S1.length, S2)) := by
  first | (rw [evE]; done) | (rw [evE]; rfl)
@[simp] theorem evE_gget {g i} (env : Ev) (S : Sto) : evE c (.gget g i : E) env S = (bnd (evE c i env S) fun y S1 => match c.G g, y with
      | some tb, .str z => lift (tabAt tb z) S1
      | _, _ => none) := by
  first | (rw [evE]; done) | (rw [evE]; rfl)
@[simp] theorem evE_gin {neg g a} (env : Ev) (S : Sto) : evE c (.gin neg g a : E) env S = (bnd (evE c a env S) fun x S1 => match c.G g, x with
      | some tb, .str z => some (.bl (neg != (tabAt tb z).isSome), S1)
      | _, _ => none) := by
  first | (rw [evE]; done) | (rw [evE]; rfl)
@[simp] theorem evE_dzip {a b} (env : Ev) (S : Sto) : evE c (.dzip a b : E) env S = (bnd (evE c a env S) fun x S1 => bnd (evE c b env S1) fun y S2 => dzOp x y S2) := by
  first | (rw [evE]; done) | (rw [evE]; rfl)
@[simp] theorem evE_trev {a} (env : Ev) (S : Sto) : evE c (.trev a : E) env S = (bnd (evE c a env S) fun x S1 => trOp x S1) := by
  first | (rw [evE]; done) | (rw [evE]; rfl)
@[simp] theorem evE_lrng {a} (env : Ev) (S : Sto) : evE c (.lrng a : E) env S = (bnd (evE c a env S) fun x S1 => lrOp x S1) := by
  first | (rw [evE]; done) | (rw [evE]; rfl)
@[simp] theorem exS_set {i e} (env : Ev) (S : Sto) : exS c (.set i e : Cs.S) env S = (bnd (evE c e env S) fun x S1 => some (.nx (env.set i (some x)), S1)) := by
  first | (rw [exS]; done) | (rw [exS]; rfl)
@[simp] theorem exS_setT {is e} (env : Ev) (S : Sto) : exS c (.setT is e : Cs.S) env S = (bnd (evE c e env S) fun x S1 => bnd (lift (asg (.t is) x env) S1) fun env1 S1 => some (.nx env1, S1)) := by
  first | (rw [exS]; done) | (rw [exS]; rfl)
@[simp] theorem exS_par {i j a b} (env : Ev) (S : Sto) : exS c (.par i j a b : Cs.S) env S = (bnd (evE c a env S) fun x S1 => bnd (evE c b env S1) fun y S2 => some (.nx ((env.set i (some x)).set j (some y)), S2)) := by
  first | (rw [exS]; done) | (rw [exS]; rfl)
@[simp] theorem exS_setI {o k v} (env : Ev) (S : Sto) : exS c (.setI o k v : Cs.S) env S = (bnd (evE c v env S) fun z S1 => bnd (evE c o env S1) fun x S2 => bnd (evE c k env S2) fun y S3 => bnd (setOp z x y S3) fun _ S4 => some (.nx env, S4)) := by
  first | (rw [exS]; done) | (rw [exS]; rfl)
@[simp] theorem exS_ex {e} (env : Ev) (S : Sto) : exS c (.ex e : Cs.S) env S = (bnd (evE c e env S) fun _ S1 => some (.nx env, S1)) := by
  first | (rw [exS]; done) | (rw [exS]; rfl)
@[simp] theorem exS_ret {e} (env : Ev) (S : Sto) : exS c (.ret e : Cs.S) env S = (bnd (evE c e env S) fun x S1 => some (.rt x, S1)) := by
  first | (rw [exS]; done) | (rw [exS]; rfl)
@[simp] theorem exS_iff {t a b} (env : Ev) (S : Sto) : exS c (.iff t a b : Cs.S) env S = (ifT (tst (evE c t env S)) (exSs c a env) (exSs c b env)) := by
  first | (rw [exS]; done) | (rw [exS]; rfl)
@[simp] theorem exS_whl {t b} (env : Ev) (S : Sto) : exS c (.whl t b : Cs.S) env S = (whE (fun env S => tst (evE c t env S)) (exSs c b) env S) := by
  first | (rw [exS]; done) | (rw [exS]; rfl)
@[simp] theorem exS_for {t k es b} (env : Ev) (S : Sto) : exS c (.for_ t k es b : Cs.S) env S = (bnd (evEs c es env S) fun xs S1 => bnd (lift (items k xs S1) S1) fun iw S1 => forL iw.2 t (exSs c b) iw.1 env S1) := by
  first | (rw [exS]; done) | (rw [exS]; rfl)
@[simp] theorem exS_brk (env : Ev) (S : Sto) : exS c (.brk : Cs.S) env S = (some (.bk env, S)) := by
  first | (rw [exS]; done) | (rw [exS]; rfl)
@[simp] theorem exS_cont (env : Ev) (S : Sto) : exS c (.cont : Cs.S) env S = (some (.ct env, S)) := by
  first | (rw [exS]; done) | (rw [exS]; rfl)
@[simp] theorem exS_pass (env : Ev) (S : Sto) : exS c (.pass : Cs.S) env S = (some (.nx env, S)) := by
  first | (rw [exS]; done) | (rw [exS]; rfl)
@[simp] theorem evEs_nil (env : Ev) (S : Sto) : evEs c [] env S = some ([], S) := by rw [evEs]
@[simp] theorem evEs_cons {e es} (env : Ev) (S : Sto) : evEs c (e :: es) env S = bnd (evE c e env S) fun x S1 => bnd (evEs c es env S1) fun xs S2 => some (x :: xs, S2) := by rw [evEs]
@[simp] theorem exSs_nil (env : Ev) (S : Sto) : exSs c [] env S = some (.nx env, S) := by rw [exSs]
@[simp] theorem exSs_cons {s ss} (env : Ev) (S : Sto) : exSs c (s :: ss) env S = sqn (exS c s env S) (exSs c ss) := by rw [exSs]
end

@[simp] theorem tst_def (m : Option (D × Sto)) : tst m = bnd m fun x S => lift (truth S x) S := rfl
@[simp] theorem ifT_def {α : Type} (m : Option (Bool × Sto)) (f g : Sto → Option (α × Sto)) : ifT m f g = bnd m fun k S => if k = true then f S else g S := rfl
/-- what comes after a statement -/
def seqQ (k : X1) (Q : Fl → Sto → Prop) : Fl → Sto → Prop
  | .nx env, S => wp (k env S) Q
  | f, S => Q f S
@[simp] theorem seqQ_nx (k : X1) (Q : Fl → Sto → Prop) (env : Ev) (S : Sto) : seqQ k Q (.nx env) S = wp (k env S) Q := rfl
@[simp] theorem seqQ_rt (k : X1) (Q : Fl → Sto → Prop) (d : D) (S : Sto) : seqQ k Q (.rt d) S = Q (.rt d) S := rfl
@[simp] theorem seqQ_bk (k : X1) (Q : Fl → Sto → Prop) (d : Ev) (S : Sto) : seqQ k Q (.bk d) S = Q (.bk d) S := rfl
@[simp] theorem seqQ_ct (k : X1) (Q : Fl → Sto → Prop) (d : Ev) (S : Sto) : seqQ k Q (.ct d) S = Q (.ct d) S := rfl
@[simp] theorem wp_sqn (m : Option (Fl × Sto)) (k : X1) (Q : Fl → Sto → Prop) : wp (sqn m k) Q ↔ wp m (seqQ k Q) := by
  unfold sqn
  rw [wp_bnd]
  constructor <;> intro h <;> refine h.mono fun f S q => ?_ <;> cases f <;> simpa [seqQ] using q
/-- what a loop's body must give -/
def loopQ (P : Ev → Sto → Prop) (Q : Fl → Sto → Prop) : Fl → Sto → Prop
  | .nx e, S => P e S
  | .ct e, S => P e S
  | .bk e, S => Q (.nx e) S
  | .rt d, S => Q (.rt d) S
@[simp] theorem loopQ_nx (P : Ev → Sto → Prop) (Q : Fl → Sto → Prop) (e : Ev) (S : Sto) : loopQ P Q (.nx e) S = P e S := rfl
@[simp] theorem loopQ_ct (P : Ev → Sto → Prop) (Q : Fl → Sto → Prop) (e : Ev) (S : Sto) : loopQ P Q (.ct e) S = P e S := rfl
@[simp] theorem loopQ_bk (P : Ev → Sto → Prop) (Q : Fl → Sto → Prop) (e : Ev) (S : Sto) : loopQ P Q (.bk e) S = Q (.nx e) S := rfl
@[simp] theorem loopQ_rt (P : Ev → Sto → Prop) (Q : Fl → Sto → Prop) (d : D) (S : Sto) : loopQ P Q (.rt d) S = Q (.rt d) S := rfl
theorem wp_forQ {w : Watch} {t : Tg} {body : X1} {Q : Fl → Sto → Prop} (I : List D → Ev → Sto → Prop) (hs : ∀ xs env S, I xs env S → still w S)
    (step : ∀ x xs env S, I (x :: xs) env S → ∃ env1, asg t x env = some env1 ∧ wp (body env1 S) (loopQ (I xs) Q))
    (done : ∀ env S, I [] env S → Q (.nx env) S) (xs : List D) (env : Ev) (S : Sto) (h : I xs env S) : wp (forL w t body xs env S) Q :=
  wp_forL I hs (fun x xs env S h => by
    obtain ⟨env1, e, q⟩ := step x xs env S h
    exact ⟨env1, e, q.mono fun f S1 h => by cases f <;> exact h⟩) done xs env S h
/-- what a call makes of its end -/
def retQ (S0 : Sto) (Q : D → Sto → Prop) : Fl → Sto → Prop
  | .rt d, S => wp (fin S0 (d, S)) Q
  | .nx _, S => wp (fin S0 (.non, S)) Q
  | _, _ => False
@[simp] theorem retQ_rt (S0 : Sto) (Q : D → Sto → Prop) (d : D) (S : Sto) : retQ S0 Q (.rt d) S = wp (fin S0 (d, S)) Q := rfl
@[simp] theorem retQ_nx (S0 : Sto) (Q : D → Sto → Prop) (d : Ev) (S : Sto) : retQ S0 Q (.nx d) S = wp (fin S0 (.non, S)) Q := rfl
theorem wp_run {c : Cfg} {fd : FDef} {vs : List D} {S : Sto} {Q : D → Sto → Prop} (hl : vs.length = fd.np) (hk : fd.keep = false)
    (h : wp (exSs c fd.body (start' fd vs) S) (retQ S Q)) : wp (runF c fd vs S) Q :=
  wp_runF hl hk (h.mono fun f S1 q => by cases f <;> exact q)
@[simp] theorem setOp_1 (a : Int) (sc : List D) (t : Tp) (W : Sto) : setOp (.int a) (.loc 2) (.int 1) (tp sc t ++ W) = some ((), tp sc ⟨a, t.r, t.s⟩ ++ W) := rfl
@[simp] theorem setOp_2 (a : Int) (sc : List D) (t : Tp) (W : Sto) : setOp (.int a) (.loc 2) (.int 2) (tp sc t ++ W) = some ((), tp sc ⟨t.p, a, t.s⟩ ++ W) := rfl
@[simp] theorem setOp_3 (a : Int) (sc : List D) (t : Tp) (W : Sto) : setOp (.int a) (.loc 2) (.int 3) (tp sc t ++ W) = some ((), tp sc ⟨t.p, t.r, a⟩ ++ W) := rfl
@[simp] theorem tp_i0 (sc : List D) (t : Tp) (W : Sto) : iop (.loc 2) (.int 0) (tp sc t ++ W) = some (.loc 1, tp sc t ++ W) := rfl
@[simp] theorem tp_i1 (sc : List D) (t : Tp) (W : Sto) : iop (.loc 2) (.int 1) (tp sc t ++ W) = some (.int t.p, tp sc t ++ W) := rfl
@[simp] theorem tp_i2 (sc : List D) (t : Tp) (W : Sto) : iop (.loc 2) (.int 2) (tp sc t ++ W) = some (.int t.r, tp sc t ++ W) := rfl
@[simp] theorem tp_i3 (sc : List D) (t : Tp) (W : Sto) : iop (.loc 2) (.int 3) (tp sc t ++ W) = some (.int t.s, tp sc t ++ W) := rfl
@[simp] theorem tp_n1 (sc : List D) (t : Tp) (W : Sto) : bLen [.loc 1] (tp sc t ++ W) = some (.int sc.length, tp sc t ++ W) := rfl
@[simp] theorem tp_j1 (sc : List D) (t : Tp) (W : Sto) (k : Int) : iop (.loc 1) (.int k) (tp sc t ++ W) = lift (atI sc k) (tp sc t ++ W) := rfl
@[simp] theorem map_lift (o : Option Bool) (S : Sto) : (o.map fun k => (k, S)) = lift o S := rfl
@[simp] theorem Cn_non : Cn.non.d = .non := rfl
@[simp] theorem Cn_bl (b : Bool) : (Cn.bl b).d = .bl b := rfl
@[simp] theorem Cn_int (i : Int) : (Cn.int i).d = .int i := rfl
@[simp] theorem Cn_str (s : String) : (Cn.str s).d = .str (Str.ofString s) := rfl
@[simp] theorem evVar_0 (d : D) (l : Ev) (S : Sto) : evVar 0 (some d :: l) S = some (d, S) := rfl
@[simp] theorem evVar_s (i : Nat) (o : Option D) (l : Ev) (S : Sto) : evVar (i + 1) (o :: l) S = evVar i l S := by
  unfold evVar; simp
@[simp] theorem truth_non (S : Sto) : truth S .non = some false := rfl
@[simp] theorem truth_bl (S : Sto) (b : Bool) : truth S (.bl b) = some b := rfl
@[simp] theorem truth_int (S : Sto) (i : Int) : truth S (.int i) = some (i != 0) := rfl
@[simp] theorem truth_tup (S : Sto) (xs : List D) : truth S (.tup xs) = some (!xs.isEmpty) := rfl
@[simp] theorem bop_add (i j : Int) (S : Sto) : bop .add (.int i) (.int j) S = some (.int (i + j), S) := rfl
@[simp] theorem bop_sub (i j : Int) (S : Sto) : bop .sub (.int i) (.int j) S = some (.int (i - j), S) := rfl
theorem bop_mul {i j : Int} (h : mulOk i j) (S : Sto) : bop .mul (.int i) (.int j) S = some (.int (i * j), S) := if_pos h
theorem bop_fdiv {i j : Int} (h : divOk j) (S : Sto) : bop .fdiv (.int i) (.int j) S = some (.int (i / j), S) := if_pos h
theorem bop_mod {i j : Int} (h : 0 < j) (S : Sto) : bop .mod (.int i) (.int j) S = some (.int (i % j), S) := if_pos h
theorem bop_str {a b : Str} (h : a.length + b.length ≤ sizeLine) (S : Sto) : bop .add (.str a) (.str b) S = some (.str (a ++ b), S) := if_pos h
theorem bop_tup {a b : List D} (h : a.length + b.length ≤ sizeLine) (S : Sto) : bop .add (.tup a) (.tup b) S = some (.tup (a ++ b), S) := if_pos h
theorem bop_loc {n m : Nat} {a b : List D} {S : Sto} (h1 : getM S n = some a) (h2 : getM S m = some b) (h : a.length + b.length ≤ sizeLine) : bop .add (.loc n) (.loc m) S = some (.loc S.length, S ++ [.lst (a ++ b)]) := by
  simp only [bop, h1, h2]; exact if_pos h
@[simp] theorem iop_tup (xs : List D) (k : Int) (S : Sto) : iop (.tup xs) (.int k) S = lift (atI xs k) S := rfl
theorem getK_none {n : Nat} {S : Sto} {xs : List D} (h : getL S n = some xs) : getK S n = none := by
  unfold getL at h
  unfold getK
  cases e : S[n]? with
  | none => rfl
  | some so => cases so with
    | lst _ => rfl
    | ro _ => rfl
    | dk _ => first | rfl | (rw [e] at h; cases h)
    | dt _ => first | rfl | (rw [e] at h; cases h)
theorem getK_noneM {n : Nat} {S : Sto} {xs : List D} (h : getM S n = some xs) : getK S n = none := by
  unfold getM at h
  unfold getK
  cases e : S[n]? with
  | none => rfl
  | some so => cases so with
    | lst _ => rfl
    | ro _ => rfl
    | dk _ => first | rfl | (rw [e] at h; cases h)
    | dt _ => first | rfl | (rw [e] at h; cases h)
theorem getT_none {n : Nat} {S : Sto} {xs : List D} (h : getL S n = some xs) : getT S n = none := by
  unfold getL at h
  unfold getT
  cases e : S[n]? with
  | none => rfl
  | some so => cases so with
    | lst _ => rfl
    | ro _ => rfl
    | dk _ => first | rfl | (rw [e] at h; cases h)
    | dt _ => first | rfl | (rw [e] at h; cases h)
theorem getT_noneM {n : Nat} {S : Sto} {xs : List D} (h : getM S n = some xs) : getT S n = none := by
  unfold getM at h
  unfold getT
  cases e : S[n]? with
  | none => rfl
  | some so => cases so with
    | lst _ => rfl
    | ro _ => rfl
    | dk _ => first | rfl | (rw [e] at h; cases h)
    | dt _ => first | rfl | (rw [e] at h; cases h)
theorem dkAt_loc (n : Nat) (y : D) (S : Sto) : dkAt (.loc n) y S = match getK S n with
    | some kvs => (keyD y).map (valD kvs)
    | none => match getT S n with
      | some kvs => (keyT y).map (valD kvs)
      | none => none := by
  unfold dkAt getK getT
  simp only
  cases S[n]? with
  | none => rfl
  | some so => cases so <;> rfl
theorem bList_at (n : Nat) (S : Sto) : bList [.loc n] S = match getK S n with
    | some kvs => some (.loc S.length, S ++ [.lst (kvs.map fun kv => kD kv.1)])
    | none => match getT S n with
      | some kvs => some (.loc S.length, S ++ [.lst (kvs.map fun kv => .tup (kv.1.map kD))])
      | none => (getL S n).map fun xs => (.loc S.length, S ++ [.lst xs]) := by
  unfold bList getK getT getL
  simp only
  cases S[n]? with
  | none => rfl
  | some so => cases so <;> rfl
theorem dkAt_list {n : Nat} {S : Sto} {xs : List D} (h : getL S n = some xs) (y : D) : dkAt (.loc n) y S = none := by
  simp only [dkAt_loc, getK_none h, getT_none h]
theorem dkAt_dict {n : Nat} {S : Sto} {kvs : List (Key × D)} (h : getK S n = some kvs) (y : D) : dkAt (.loc n) y S = (keyD y).map (valD kvs) := by
  simp only [dkAt_loc, h]
theorem iop_loc {n : Nat} {S : Sto} {xs : List D} (h : getL S n = some xs) (k : Int) : iop (.loc n) (.int k) S = lift (atI xs k) S := by
  simp only [iop, dkAt_list h, iopL, h]; rfl
@[simp] theorem cop_eq_int (i j : Int) (S : Sto) : cop .eq (.int i) (.int j) S = some (.bl (decide (i = j)), S) := rfl
@[simp] theorem cop_ne_int (i j : Int) (S : Sto) : cop .ne (.int i) (.int j) S = some (.bl (!decide (i = j)), S) := rfl
@[simp] theorem cop_eq_str (i j : Str) (S : Sto) : cop .eq (.str i) (.str j) S = some (.bl (decide (i = j)), S) := rfl
@[simp] theorem cop_ne_str (i j : Str) (S : Sto) : cop .ne (.str i) (.str j) S = some (.bl (!decide (i = j)), S) := rfl
@[simp] theorem cop_lt (i j : Int) (S : Sto) : cop .lt (.int i) (.int j) S = some (.bl (decide (i < j)), S) := rfl
@[simp] theorem cop_le (i j : Int) (S : Sto) : cop .le (.int i) (.int j) S = some (.bl (decide (i ≤ j)), S) := rfl
@[simp] theorem cop_gt (i j : Int) (S : Sto) : cop .gt (.int i) (.int j) S = some (.bl (decide (j < i)), S) := rfl
@[simp] theorem cop_ge (i j : Int) (S : Sto) : cop .ge (.int i) (.int j) S = some (.bl (decide (j ≤ i)), S) := rfl
@[simp] theorem blt_len : blt "len" = bLen := rfl
@[simp] theorem blt_abs : blt "abs" = bAbs := rfl
@[simp] theorem blt_int : blt "int" = bInt := rfl
@[simp] theorem blt_max : blt "max" = bMax := rfl
@[simp] theorem blt_min : blt "min" = bMin := rfl
@[simp] theorem blt_list : blt "list" = bList := rfl
@[simp] theorem blt_tuple : blt "tuple" = bTuple := rfl
@[simp] theorem blt_all : blt "all" = bAll := rfl
@[simp] theorem blt_any : blt "any" = bAny := rfl
@[simp] theorem blt_sorted : blt "sorted" = bSorted := rfl
@[simp] theorem blt_repr : blt "repr" = bRepr := rfl
@[simp] theorem mth_append : mth "append" = mAppend := rfl
@[simp] theorem mth_index : mth "index" = mIndex := rfl
@[simp] theorem bInt_int (i : Int) (S : Sto) : bInt [.int i] S = some (.int i, S) := rfl
@[simp] theorem bInt_bl (b : Bool) (S : Sto) : bInt [.bl b] S = some (.int (if b then 1 else 0), S) := rfl
@[simp] theorem bAbs_int (i : Int) (S : Sto) : bAbs [.int i] S = some (.int (if i < 0 then -i else i), S) := rfl
@[simp] theorem bMax_int (i j : Int) (S : Sto) : bMax [.int i, .int j] S = some (.int (if j > i then j else i), S) := rfl
@[simp] theorem bMin_int (i j : Int) (S : Sto) : bMin [.int i, .int j] S = some (.int (if j < i then j else i), S) := rfl
@[simp] theorem bLen_tup (xs : List D) (S : Sto) : bLen [.tup xs] S = some (.int xs.length, S) := rfl
theorem bLen_loc {n : Nat} {S : Sto} {xs : List D} (h : getL S n = some xs) : bLen [.loc n] S = some (.int xs.length, S) := by
  simp only [bLen, h]; rfl
theorem bList_loc {n : Nat} {S : Sto} {xs : List D} (h : getL S n = some xs) : bList [.loc n] S = some (.loc S.length, S ++ [.lst xs]) := by
  simp only [bList_at, getK_none h, getT_none h, h]; rfl
@[simp] theorem bList_tup (xs : List D) (S : Sto) : bList [.tup xs] S = some (.loc S.length, S ++ [.lst xs]) := rfl
theorem bTuple_loc {n : Nat} {S : Sto} {xs : List D} (h : getL S n = some xs) : bTuple [.loc n] S = some (.tup xs, S) := by
  simp only [bTuple, h]; rfl
@[simp] theorem bTuple_tup (xs : List D) (S : Sto) : bTuple [.tup xs] S = some (.tup xs, S) := rfl
@[simp] theorem mTy_append {n : Nat} {S : Sto} : mTy "append" (.loc n) S = (getL S n).isSome := rfl
theorem mAppend_loc {n : Nat} {S : Sto} {xs : List D} (h : getM S n = some xs) (hl : xs.length < sizeLine) (y : D) : mAppend (.loc n) [y] S = some (.non, S.set n (.lst (xs ++ [y]))) := by
  simp only [mAppend, h]; exact if_pos hl
@[simp] theorem getL_0 (xs : List D) (J : Sto) : getL (.lst xs :: J) 0 = some xs := rfl
@[simp] theorem getL_0r (xs : List D) (J : Sto) : getL (.ro xs :: J) 0 = some xs := rfl
@[simp] theorem getL_s (x : SO) (J : Sto) (i : Nat) : getL (x :: J) (i + 1) = getL J i := by unfold getL; simp
@[simp] theorem getK_0 (xs : List D) (J : Sto) : getK (.lst xs :: J) 0 = none := rfl
@[simp] theorem getK_0r (xs : List D) (J : Sto) : getK (.ro xs :: J) 0 = none := rfl
@[simp] theorem getK_0k (kvs : List (Key × D)) (J : Sto) : getK (.dk kvs :: J) 0 = some kvs := rfl
@[simp] theorem getL_0k (kvs : List (Key × D)) (J : Sto) : getL (.dk kvs :: J) 0 = none := rfl
@[simp] theorem getK_s (x : SO) (J : Sto) (i : Nat) : getK (x :: J) (i + 1) = getK J i := by unfold getK; simp
@[simp] theorem getM_0 (xs : List D) (J : Sto) : getM (.lst xs :: J) 0 = some xs := rfl
@[simp] theorem getM_s (x : SO) (J : Sto) (i : Nat) : getM (x :: J) (i + 1) = getM J i := by unfold getM; simp
@[simp] theorem getK_0t (kvs : List (List Key × D)) (J : Sto) : getK (.dt kvs :: J) 0 = none := rfl
@[simp] theorem getL_0t (kvs : List (List Key × D)) (J : Sto) : getL (.dt kvs :: J) 0 = none := rfl
@[simp] theorem getT_0t (kvs : List (List Key × D)) (J : Sto) : getT (.dt kvs :: J) 0 = some kvs := rfl
@[simp] theorem getT_0 (xs : List D) (J : Sto) : getT (.lst xs :: J) 0 = none := rfl
@[simp] theorem getT_0r (xs : List D) (J : Sto) : getT (.ro xs :: J) 0 = none := rfl
@[simp] theorem getT_0k (kvs : List (Key × D)) (J : Sto) : getT (.dk kvs :: J) 0 = none := rfl
@[simp] theorem getT_s (x : SO) (J : Sto) (i : Nat) : getT (x :: J) (i + 1) = getT J i := by unfold getT; simp
@[simp] theorem getM_0k (kvs : List (Key × D)) (J : Sto) : getM (.dk kvs :: J) 0 = none := rfl
@[simp] theorem getM_0t (kvs : List (List Key × D)) (J : Sto) : getM (.dt kvs :: J) 0 = none := rfl
@[simp] theorem blt_dict : blt "dict" = bDict := rfl
@[simp] theorem mth_insert : mth "insert" = mInsert := rfl
@[simp] theorem mth_sindex : mth "sindex" = mSindex := rfl
@[simp] theorem mth0_pop : mth0 "pop" = mPop := rfl
@[simp] theorem mth0_reverse : mth0 "reverse" = mReverse := rfl
@[simp] theorem mTy_sindex (z : Str) (S : Sto) : mTy "sindex" (.str z) S = true := rfl
@[simp] theorem mTy_insert {n : Nat} {S : Sto} : mTy "insert" (.loc n) S = (getL S n).isSome := rfl
@[simp] theorem mTy_index {n : Nat} {S : Sto} : mTy "index" (.loc n) S = (getL S n).isSome := rfl
@[simp] theorem items_enum (ds : List D) (S : Sto) : items .enum [.tup ds] S = some (enumD 0 ds, []) := rfl
end Cs

set_option Elab.async false
set_option linter.all false
set_option maxRecDepth 100000
namespace Cs
open PySem PySem.Spec PyProof.Rows L2

/-! ### texts -/
theorem ofString_inj {a b : String} : Str.ofString a = Str.ofString b ↔ a = b := by
  constructor
  · intro h
    rw [Str.ofString_eq_toList, Str.ofString_eq_toList] at h
    have h1 : (a.toList.map Char.toNat) = (b.toList.map Char.toNat) := by simpa using h
    have h2 : a.toList = b.toList := (List.map_inj_right (fun x y e => Char.ext (UInt32.toNat_inj.mp e))).mp h1
    exact String.toList_inj.mp h2
  · rintro rfl; rfl
theorem strOk_ofString (s : String) : PyData.strOk (Str.ofString s) = true := by
  rw [Str.ofString_eq_toList]
  simp only [PyData.strOk, List.all_toArray', List.all_map, List.all_eq_true]
  intro c _
  have := c.valid
  simp only [Function.comp, decide_eq_true_eq]
  show c.val.toNat < 0x110000
  rcases this with h | ⟨_, h⟩
  · have : c.val.toNat < 0xd800 := h
    omega
  · exact h
/-! ### items -/
theorem atI_0 {α : Type} (a : α) (l : List α) : atI (a :: l) 0 = some a := atI_nat (j := 0) rfl
theorem atI_1 {α : Type} (a b : α) (l : List α) : atI (a :: b :: l) 1 = some b := atI_nat (j := 1) rfl
theorem atI_2 {α : Type} (a b c : α) (l : List α) : atI (a :: b :: c :: l) 2 = some c := atI_nat (j := 2) rfl
theorem atI_3 {α : Type} (a b c d : α) (l : List α) : atI (a :: b :: c :: d :: l) 3 = some d := atI_nat (j := 3) rfl
theorem atI_in {α : Type} {xs : List α} {i : Int} (h0 : 0 ≤ i) (h1 : i < xs.length) : ∃ x ∈ xs, atI xs i = some x := by
  obtain ⟨n, rfl⟩ := Int.eq_ofNat_of_zero_le h0
  have h : n < xs.length := by omega
  exact ⟨xs[n], List.getElem_mem h, atI_nat (List.getElem?_eq_getElem h)⟩
theorem mulOk_small {i j : Int} (hi : i.natAbs < 2 ^ 64) (hj : j.natAbs < 2 ^ 64) : mulOk i j := by
  have f : ∀ n : Nat, n < 2 ^ 64 → n.log2 < 64 := fun n h => by
    by_cases z : n = 0
    · subst z; decide
    · exact (Nat.log2_lt z).mpr h
  have := f _ hi
  have := f _ hj
  unfold mulOk; omega
theorem divOk_small {j : Int} (h0 : 0 < j) (hj : j.natAbs < 2 ^ 64) : divOk j := by
  refine ⟨h0, ?_⟩
  have : j.natAbs.log2 < 64 := (Nat.log2_lt (by omega)).mpr hj
  omega

/-! ### drawing -/
def dDraw : FDef where
  np := 2
  nl := 4
  keep := false
  body := [
    .iff (.cmp .eq (.idx (.var 0) (.cn (.int 2))) (.cn (.int 0))) [.set 3 (.idx (.var 0) (.cn (.int 1))), .set 2 (.cn (.int 0)), .iff (.cmp .lt (.var 3) (.blt "len" [(.idx (.var 0) (.cn (.int 0)))])) [.set 2 (.blt "abs" [(.blt "int" [(.idx (.idx (.var 0) (.cn (.int 0))) (.var 3))])])] [.setI (.var 0) (.cn (.int 3)) (.bin .mod (.blt "int" [(.bin .add (.bin .add (.bin .mul (.idx (.var 0) (.cn (.int 3))) (.cn (.int 48271))) (.var 3)) (.cn (.int 1)))]) (.cn (.int 2147483647))), .set 2 (.idx (.var 0) (.cn (.int 3)))], .setI (.var 0) (.cn (.int 1)) (.bin .add (.var 3) (.cn (.int 1))), .iff (.cmp .lt (.var 2) (.bin .pow (.cn (.int 10)) (.cn (.int 18)))) [.set 2 (.bin .mod (.blt "int" [(.bin .add (.bin .add (.bin .mul (.var 2) (.cn (.int 48271))) (.bin .mul (.var 3) (.cn (.int 69621)))) (.cn (.int 5)))]) (.cn (.int 2147483647))), .set 2 (.bin .mod (.blt "int" [(.bin .mul (.var 2) (.cn (.int 69621)))]) (.cn (.int 2147483629))), .ret (.bin .mod (.blt "int" [(.var 2)]) (.blt "max" [(.var 1), (.cn (.int 1))]))] [], .setI (.var 0) (.cn (.int 2)) (.var 2)] [],
    .set 2 (.idx (.var 0) (.cn (.int 2))),
    .setI (.var 0) (.cn (.int 2)) (.bin .fdiv (.var 2) (.blt "max" [(.var 1), (.cn (.int 2))])),
    .ret (.bin .mod (.blt "int" [(.var 2)]) (.blt "max" [(.var 1), (.cn (.int 1))]))]
theorem draw_ok (c : Cfg) {ns : List Int} {t : Tp} {n : Nat} {m : Int} {W : Sto} {Q : D → Sto → Prop} (ht : t.ok (n + 1)) (hm : 1 ≤ m) (hm2 : m < 2 ^ 60)
    (h : ∀ r t', 0 ≤ r → r < m → t'.ok n → Q (.int r) (tp (ns.map .int) t' ++ W)) : wp (runF c dDraw [.loc 2, .int m] (tp (ns.map .int) t ++ W)) Q := by
  have hmax : (if m < 1 then 1 else m) = m := if_neg (by omega)
  have hmod : ∀ z : Int, 0 ≤ z % m ∧ z % m < m := fun z => ⟨Int.emod_nonneg _ (by omega), Int.emod_lt_of_pos _ (by omega)⟩
  have bm := fun i : Int => bop_mod (i := i) (j := m) (by omega)
  have bm1 := fun i : Int => bop_mod (i := i) (j := 2147483647) (by omega)
  have bm2 := fun i : Int => bop_mod (i := i) (j := 2147483629) (by omega)
  have hp : ∀ S, bop .pow (.int 10) (.int 18) S = some (.int 1000000000000000000, S) := fun S => by
    show (if powOk 10 18 then some (D.int (10 ^ (18 : Int).toNat), S) else none) = _
    rw [if_pos (by decide)]; rfl
  obtain ⟨p0, pn, r0, s0, sn⟩ := ht
  refine wp_run rfl rfl ?_
  have m1 := bop_mul (mulOk_small (i := t.s) (j := 48271) (by omega) (by omega))
  have m2 := bop_mul (mulOk_small (i := t.p) (j := 69621) (by omega) (by omega))
  have bf := fun i : Int => bop_fdiv (i := i) (j := if m < 2 then 2 else m) (divOk_small (by split <;> omega) (by split <;> omega))
  have tail : ∀ (t1 : Tp) (num : Int) (o : Option D), t1.ok n → 0 ≤ num → t1.r = num → wp (exSs c (dDraw.body.drop 1) [some (.loc 2), some (.int m), some (.int num), o] (tp (ns.map .int) t1 ++ W)) (retQ (tp (ns.map .int) t ++ W) Q) := by
    intro t1 num o ok h0 e
    subst e
    simp [dDraw, bf, hmax, bm]
    refine wp_fin_tp0 rfl (h _ _ (hmod _).1 (hmod _).2 ⟨ok.p0, ok.pn, ?_, ok.s0, ok.sn⟩)
    exact Int.ediv_nonneg h0 (by split <;> omega)
  have rest : ∀ (t1 : Tp) (num : Int), t1.p = t.p → t1.r = 0 → 0 ≤ t1.s ∧ t1.s < 2147483647 → 0 ≤ num → wp (exSs c [.setI (.var 0) (.cn (.int 1)) (.bin .add (.var 3) (.cn (.int 1))), .iff (.cmp .lt (.var 2) (.bin .pow (.cn (.int 10)) (.cn (.int 18)))) [.set 2 (.bin .mod (.blt "int" [(.bin .add (.bin .add (.bin .mul (.var 2) (.cn (.int 48271))) (.bin .mul (.var 3) (.cn (.int 69621)))) (.cn (.int 5)))]) (.cn (.int 2147483647))), .set 2 (.bin .mod (.blt "int" [(.bin .mul (.var 2) (.cn (.int 69621)))]) (.cn (.int 2147483629))), .ret (.bin .mod (.blt "int" [(.var 2)]) (.blt "max" [(.var 1), (.cn (.int 1))]))] [], .setI (.var 0) (.cn (.int 2)) (.var 2)]
      [some (.loc 2), some (.int m), some (.int num), some (.int t.p)] (tp (ns.map .int) t1 ++ W)) (seqQ (exSs c (dDraw.body.drop 1)) (retQ (tp (ns.map .int) t ++ W) Q)) := by
    intro t1 num e1 e2 e3 h0
    by_cases hl : num < 1000000000000000000
    · have m3 := bop_mul (mulOk_small (i := num) (j := 48271) (by omega) (by omega))
      have m4 : ∀ z : Int, ∀ S, bop .mul (.int (z % 2147483647)) (.int 69621) S = _ := fun z => bop_mul (mulOk_small (by omega) (by omega))
      simp [hp, hl, m3, m2, m4, bm1, bm2, bm, hmax]
      refine wp_fin_tp0 rfl (h _ _ (hmod _).1 (hmod _).2 ⟨?_, ?_, ?_, e3.1, e3.2⟩)
      · show 0 ≤ t.p + 1; omega
      · show t.p + 1 + n ≤ _; omega
      · show 0 ≤ t1.r; omega
    · simp [hp, hl]
      refine tail _ _ _ ⟨?_, ?_, h0, e3.1, e3.2⟩ h0 rfl
      · show 0 ≤ t.p + 1; omega
      · show t.p + 1 + n ≤ _; omega
  by_cases hr : t.r = 0
  · by_cases hl : t.p < ns.length
    · obtain ⟨x, hx, ex⟩ := atI_in (xs := ns.map D.int) p0 (by simpa using hl)
      obtain ⟨i, _, rfl⟩ := List.mem_map.mp hx
      have := rest t (if i < 0 then -i else i) rfl hr ⟨s0, sn⟩ (by split <;> omega)
      simp [dDraw, start', hr, hl, ex]
      simpa [dDraw, hr] using this
    · have hl' : ¬ t.p < (ns.map D.int).length := by simpa using hl
      have := rest ⟨t.p, t.r, (t.s * 48271 + t.p + 1) % 2147483647⟩ ((t.s * 48271 + t.p + 1) % 2147483647) rfl hr ⟨Int.emod_nonneg _ (by omega), Int.emod_lt_of_pos _ (by omega)⟩ (Int.emod_nonneg _ (by omega))
      simp [dDraw, start', hr, hl, m1, bm1]
      simpa [dDraw, hr] using this
  · have := tail t t.r none ⟨p0, by omega, r0, s0, sn⟩ r0 rfl
    simp [dDraw, start', hr]
    simpa [dDraw] using this
end Cs

set_option Elab.async false
set_option linter.all false
set_option maxRecDepth 100000
namespace Cs
open PySem PySem.Spec PyProof.Rows L2

def dTape : FDef where
  np := 1
  nl := 3
  keep := true
  body := [
    .set 1 (.cn (.int 7)),
    .for_ (.v 2) .seq [(.var 0)] [.set 1 (.bin .mod (.blt "int" [(.bin .add (.bin .mul (.var 1) (.cn (.int 31))) (.blt "abs" [(.blt "int" [(.var 2)])]))]) (.cn (.int 2147483647)))],
    .ret (.lst [(.blt "list" [(.var 0)]), (.cn (.int 0)), (.cn (.int 0)), (.var 1)])]
@[simp] theorem items_loc {n : Nat} {S : Sto} {xs : List D} (h : getL S n = some xs) : items .seq [.loc n] S = some (xs, [(n, xs)]) := by simp only [items, h]; rfl
@[simp] theorem items_tup (xs : List D) (S : Sto) : items .seq [.tup xs] S = some (xs, []) := rfl
theorem items_rng {j : Int} (h : smallI j) (S : Sto) : items .rng [.int j] S = some (rngD 0 j.toNat, []) := if_pos h
theorem items_rng2 {i j : Int} (h : smallI i) (h2 : smallI j) (S : Sto) : items .rng [.int i, .int j] S = some (rngD i (j - i).toNat, []) := if_pos ⟨h, h2⟩
theorem still_nil (S : Sto) : still [] S := fun _ h => nomatch h
theorem still_one {n : Nat} {xs : List D} {S : Sto} (h : getL S n = some xs) : still [(n, xs)] S := fun p hp => by
  rcases List.mem_singleton.mp hp with rfl
  exact h
@[simp] theorem asg_v (i : Nat) (d : D) (env : Ev) : asg (.v i) d env = some (env.set i (some d)) := rfl
inductive TapeI (sc : List D) : List D → Ev → Sto → Prop where
  | mk {xs : List D} {v : Int} {o : Option D} (hx : ∀ x ∈ xs, ∃ i, x = D.int i) (h0 : 0 ≤ v) (h1 : v < 2147483647) : TapeI sc xs [some (.loc 0), some (.int v), o] [.ro sc]
theorem tape_ok (c : Cfg) (ns : List Int) {Q : D → Sto → Prop} (h : ∀ t, t.ok 900000 → Q (.loc 2) (tp (ns.map .int) t ++ [])) : wp (runF c dTape [.loc 0] [.ro (ns.map .int)]) Q := by
  have core : wp (exSs c dTape.body (start' dTape [.loc 0]) [.ro (ns.map .int)]) fun f S => ∃ t, t.ok 900000 ∧ f = .rt (.loc 2) ∧ S = tp (ns.map .int) t ++ [] := by
    have bm1 := fun i : Int => bop_mod (i := i) (j := 2147483647) (by omega)
    simp [dTape, start', items_loc (n := 0) (S := [.ro (ns.map D.int)]) rfl]
    refine wp_forL (I := TapeI (ns.map .int)) ?_ ?_ ?_ _ _ _ (.mk (by simp) (by omega) (by omega))
    · rintro xs env S ⟨⟩
      exact still_one rfl
    · rintro x xs env S ⟨hx, h0, h1⟩
      refine ⟨_, rfl, ?_⟩
      obtain ⟨i, rfl⟩ := hx _ (List.mem_cons_self ..)
      rename_i v o
      have m1 := bop_mul (mulOk_small (i := v) (j := 31) (by omega) (by omega))
      simp [m1, bm1]
      exact .mk (fun x hm => hx x (List.mem_cons_of_mem _ hm)) (Int.emod_nonneg _ (by omega)) (Int.emod_lt_of_pos _ (by omega))
    · rintro env S ⟨hx, h0, h1⟩
      rename_i v o
      simp [bList_loc (n := 0) (S := [.ro (ns.map D.int)]) rfl]
      exact ⟨⟨0, 0, v⟩, ⟨by simp, by simp, by simp, h0, h1⟩, rfl⟩
  obtain ⟨f, S, e, t, ok, rfl, rfl⟩ := core
  exact ⟨.loc 2, _, by rw [runF, if_pos (show [D.loc 0].length = dTape.np from rfl), e]; rfl, h t ok⟩

def dLowest : FDef where
  np := 2
  nl := 5
  keep := false
  body := [
    .set 2 (.blt "abs" [(.var 0)]),
    .set 3 (.blt "abs" [(.var 1)]),
    .whl (.cmp .gt (.var 3) (.cn (.int 0))) [.set 4 (.bin .mod (.blt "int" [(.var 2)]) (.var 3)), .set 2 (.var 3), .set 3 (.var 4)],
    .iff (.cmp .lt (.var 1) (.cn (.int 0))) [.set 2 (.bin .sub (.cn (.int 0)) (.var 2))] [],
    .ret (.tup [(.bin .fdiv (.var 0) (.var 2)), (.bin .fdiv (.var 1) (.var 2))])]
theorem abs_nat (i : Int) : (if i < 0 then -i else i) = (i.natAbs : Int) := by split <;> omega
inductive LowI (n d : Int) (S : Sto) (g : Nat) : Nat → Ev → Sto → Prop where
  | mk {a b : Nat} {o : Option D} (hg : Nat.gcd a b = g) : LowI n d S g b [some (.int n), some (.int d), some (.int (a : Nat)), some (.int (b : Nat)), o] S
theorem lowest_ok (c : Cfg) {n d : Int} {S : Sto} {Q : D → Sto → Prop} (hd : 0 < d) (hd2 : d < 2 ^ 64)
    (h : Q (.tup [.int (n / (Nat.gcd n.natAbs d.natAbs : Nat)), .int (d / (Nat.gcd n.natAbs d.natAbs : Nat))]) S) : wp (runF c dLowest [.int n, .int d] S) Q := by
  refine wp_run rfl rfl ?_
  simp [dLowest, start', abs_nat]
  refine wp_whE (I := LowI n d S (Nat.gcd n.natAbs d.natAbs)) ?_ (.mk rfl)
  rintro k env S' ⟨hg⟩
  rename_i a o
  by_cases hb : 0 < k
  · have bm := bop_mod (i := (a : Int)) (j := (k : Int)) (by omega)
    simp [hb, bm]
    refine ⟨a % k, Nat.mod_lt a hb, ?_⟩
    have := LowI.mk (n := n) (d := d) (S := S) (g := Nat.gcd n.natAbs d.natAbs) (a := k) (b := a % k) (o := some (.int (a % k : Nat))) (by rw [← hg, Nat.gcd_comm a k, Nat.gcd_rec k a, Nat.gcd_comm])
    simpa using this
  · have : k = 0 := by omega
    subst this
    rw [Nat.gcd_zero_right] at hg
    subst hg
    have g0 : 0 < Nat.gcd n.natAbs d.natAbs := Nat.gcd_pos_of_pos_right _ (by omega)
    have gd : Nat.gcd n.natAbs d.natAbs ≤ d.natAbs := Nat.le_of_dvd (by omega) (Nat.gcd_dvd_right _ _)
    have bf := fun i : Int => bop_fdiv (i := i) (j := ((Nat.gcd n.natAbs d.natAbs : Nat) : Int)) (divOk_small (by omega) (by omega))
    have hd' : ¬ d < 0 := by omega
    simp [hd', bf]
    exact wp_fin_same rfl h
end Cs

set_option Elab.async false
set_option linter.all false
set_option maxRecDepth 100000
namespace Cs
open PySem PySem.Spec PyProof.Rows L2

/-! ### data that may be compared and shown -/
structure Nc (n w : Nat) (d : D) : Prop where
  pure : d.pure = true
  lay : d.py.canLay0 = true
  sho : d.py.showable = true
  itn : d.py.intsShort 13 = true
  dep : d.py.depth ≤ n
  wt : d.py.weight ≤ w
theorem Nc.mono {n w n' w' : Nat} {d : D} (h : Nc n w d) (l1 : n ≤ n') (l2 : w ≤ w') : Nc n' w' d := ⟨h.pure, h.lay, h.sho, h.itn, Nat.le_trans h.dep l1, Nat.le_trans h.wt l2⟩
theorem Nc.bl (b : Bool) (n w : Nat) : Nc n w (.bl b) := ⟨rfl, by simp [D.py, PyData.canLay0], by simp [D.py, PyData.showable], by simp [D.py, PyData.intsShort], by simp [D.py, PyData.depth], by simp [D.py, PyData.weight]⟩
theorem Nc.int {i : Int} (h : i.natAbs < 10 ^ 12) (n : Nat) : Nc n 40 (.int i) := by
  have l : i.natAbs = 0 ∨ i.natAbs.log2 < 40 := by
    by_cases z : i.natAbs = 0
    · exact .inl z
    · exact .inr ((Nat.log2_lt z).mpr (by omega))
  refine ⟨rfl, by simp [D.py, PyData.canLay0], ?_, ?_, by simp [D.py, PyData.depth], ?_⟩
  · simp only [D.py, PyData.showable, decide_eq_true_eq]
    rcases l with z | z
    · rw [z]; decide
    · omega
  · simp only [D.py, PyData.intsShort, decide_eq_true_eq]
    exact PyData.shown_int_le h
  · simp only [D.py, PyData.weight]
    split
    · omega
    · rename_i z
      have : i ≠ 0 := by simpa using z
      rcases l with z | z
      · omega
      · omega
theorem Nc.str {z : Str} (h : PyData.strOk z = true) {w : Nat} (hw : z.length ≤ w) (n : Nat) : Nc n w (.str z) :=
  ⟨rfl, by simpa [D.py, PyData.canLay0] using h, by simp [D.py, PyData.showable], by simp [D.py, PyData.intsShort], by simp [D.py, PyData.depth], by simp only [D.py, PyData.weight]; exact hw⟩
theorem Nc.lit (s : String) {w : Nat} (hw : s.length ≤ w) (n : Nat) : Nc n w (.str (Str.ofString s)) := .str (strOk_ofString s) (by rw [PySem.ofString_length]; exact hw) n
theorem NcL_facts {n w : Nat} : ∀ {ds : List D}, (∀ d ∈ ds, Nc n w d) → D.pureL ds = true ∧ PyData.canLayAll0 (D.pyL ds) = true ∧ PyData.showableAll (D.pyL ds) = true ∧ PyData.intsShortAll 13 (D.pyL ds) = true ∧ PyData.depthAll (D.pyL ds) ≤ n ∧ PyData.weightAll (D.pyL ds) ≤ ds.length * (w + 1)
  | [], _ => by simp [D.pureL, D.pyL, PyData.canLayAll0, PyData.showableAll, PyData.intsShortAll, PyData.depthAll, PyData.weightAll]
  | d :: ds, h => by
    obtain ⟨h1, h2, h3, h4, h5, h6⟩ := NcL_facts (ds := ds) fun x hx => h x (List.mem_cons_of_mem _ hx)
    have hd := h d (List.mem_cons_self ..)
    have := hd.wt
    have e : (ds.length + 1) * (w + 1) = ds.length * (w + 1) + (w + 1) := by rw [Nat.add_mul]; omega
    refine ⟨by simp [D.pureL, hd.pure, h1], by simp [D.pyL, PyData.canLayAll0, hd.lay, h2], by simp [D.pyL, PyData.showableAll, hd.sho, h3], by simp [D.pyL, PyData.intsShortAll, hd.itn, h4], ?_, ?_⟩
    · simp only [D.pyL, PyData.depthAll]; have := hd.dep; omega
    · simp only [D.pyL, PyData.weightAll, List.length_cons]; omega
theorem Nc.tup {n w : Nat} {ds : List D} (h : ∀ d ∈ ds, Nc n w d) : Nc (n + 1) (ds.length * (w + 1)) (.tup ds) := by
  obtain ⟨h1, h2, h3, h4, h5, h6⟩ := NcL_facts h
  exact ⟨by simpa [D.pure] using h1, by simpa [D.py, PyData.canLay0] using h2, by simpa [D.py, PyData.showable] using h3, by simpa [D.py, PyData.intsShort] using h4, by simp only [D.py, PyData.depth]; omega, by simpa [D.py, PyData.weight] using h6⟩
theorem Nc.okD {n w : Nat} {d : D} (h : Nc n w d) (hn : n ≤ 64) : d.ok := ⟨h.pure, by simp only [SeqAt.shaped, h.lay, Bool.true_and, decide_eq_true_eq]; have := h.dep; omega⟩
theorem Nc.okL {n w : Nat} {ds : List D} (h : ∀ d ∈ ds, Nc n w d) (hn : n < 64) : okL ds := by
  obtain ⟨h1, h2, h3, h4, h5, h6⟩ := NcL_facts h
  refine ⟨h1, ?_⟩
  have e : PyData.depth (.list (D.pyL ds)) = PyData.depthAll (D.pyL ds) + 1 := by simp [PyData.depth]
  simp only [SeqAt.shaped, PyData.canLay0, h2, Bool.true_and, decide_eq_true_eq, e]
  omega
theorem Nc.sh {n w : Nat} {d : D} (h : Nc n w d) (hn : n ≤ 64) (hw : w ≤ 1000000) : shOk d.py := by
  refine ⟨h.sho, PyData.hasDict_of_canLay _ h.lay, by have := h.dep; omega, ?_⟩
  have := PyData.shown_le 13 (by decide) d.py (PyData.leavesShort_of_canLay0 13 _ h.lay h.itn)
  have := h.wt
  rw [sizeLine_eq]; omega
theorem cmpd_nc {n w : Nat} {d : D} (h : Nc n w d) (hn : n ≤ 64) (S : Sto) : cmpd S d = some d.py := by
  have o := h.okD hn
  cases d with
  | loc m => have := h.pure; simp [D.pure] at this
  | _ => simp only [cmpd]; exact if_pos o
theorem repr_nc {n w : Nat} {xs : List D} (h : Nc n w (.tup xs)) (hn : n ≤ 64) (hw : w ≤ 1000000) (S : Sto) : bRepr [.tup xs] S = some (.str (D.py (.tup xs)).shown, S) :=
  if_pos ⟨by simpa [D.pure] using h.pure, h.sh hn hw⟩
@[simp] theorem repr_bl (b : Bool) (S : Sto) : bRepr [.bl b] S = some (.str (if b then ("True" : String) else "False"), S) := rfl
theorem in_tup {n w : Nat} {x : D} {ys : List D} (hx : Nc n w x) (hy : ∀ d ∈ ys, Nc n w d) (hn : n < 64) (S : Sto) : cop .isin x (.tup ys) S = some (.bl ((D.pyL ys).any fun z => PyData.eqv z x.py), S) := by
  show copL .isin x (.tup ys) S = _
  simp only [copL, cmpd_nc hx (Nat.le_of_lt hn)]
  exact if_pos (Nc.okL hy hn)
theorem in_loc {n w m : Nat} {x : D} {ys : List D} {S : Sto} (hx : Nc n w x) (e : getL S m = some ys) (hy : ∀ d ∈ ys, Nc n w d) (hn : n < 64) : cop .isin x (.loc m) S = some (.bl ((D.pyL ys).any fun z => PyData.eqv z x.py), S) := by
  simp only [cop, dkAt_list e, copL, cmpd_nc hx (Nat.le_of_lt hn), e]
  exact if_pos (Nc.okL hy hn)
theorem notin_loc {n w m : Nat} {x : D} {ys : List D} {S : Sto} (hx : Nc n w x) (e : getL S m = some ys) (hy : ∀ d ∈ ys, Nc n w d) (hn : n < 64) : cop .notin x (.loc m) S = some (.bl (!(D.pyL ys).any fun z => PyData.eqv z x.py), S) := by
  simp only [cop, dkAt_list e, copL, cmpd_nc hx (Nat.le_of_lt hn), e]
  exact if_pos (Nc.okL hy hn)
theorem eq_loc {n w m m' : Nat} {xs ys : List D} {S : Sto} (e1 : getL S m = some xs) (e2 : getL S m' = some ys) (hx : ∀ d ∈ xs, Nc n w d) (hy : ∀ d ∈ ys, Nc n w d) (hn : n < 64) : cop .eq (.loc m) (.loc m') S = some (.bl (PyData.eqvAll (D.pyL xs) (D.pyL ys)), S) := by
  have h1 : cmpd S (.loc m) = some (.list (D.pyL xs)) := by simp only [cmpd, e1]; exact if_pos (Nc.okL hx hn)
  have h2 : cmpd S (.loc m') = some (.list (D.pyL ys)) := by simp only [cmpd, e2]; exact if_pos (Nc.okL hy hn)
  simp only [cop, copL, copEq, scD, h1, h2, PyData.eqv]; rfl
@[simp] theorem str_beq (a b : String) : (Str.ofString a == Str.ofString b) = (a == b) := by
  rw [Bool.eq_iff_iff]
  simp [ofString_inj]
/-! ### words -/
theorem strOk_app {a b : Str} (ha : PyData.strOk a = true) (hb : PyData.strOk b = true) : PyData.strOk (a ++ b) = true := by
  show ((a.cps ++ b.cps).all _) = true
  rw [Array.all_append]
  exact Bool.and_eq_true_iff.mpr ⟨ha, hb⟩
theorem strOk_one {z : Str} (h : PyData.strOk z = true) {c : Nat} (hc : c ∈ z.cps.toList) : PyData.strOk ⟨#[c]⟩ = true := by
  have := Array.all_eq_true_iff_forall_mem.mp h c (Array.mem_toList_iff.mp hc)
  simpa [PyData.strOk] using this
theorem iop_str {z : Str} (hz : z.length ≤ sizeLine) {k : Int} (h0 : 0 ≤ k) (h1 : k < z.length) (hs : PyData.strOk z = true) (S : Sto) : ∃ y : Str, iop (.str z) (.int k) S = some (.str y, S) ∧ y.length = 1 ∧ PyData.strOk y = true := by
  obtain ⟨c, hc, e⟩ := atI_in (xs := z.cps.toList) h0 (by simpa [Str.length] using h1)
  refine ⟨⟨#[c]⟩, ?_, rfl, strOk_one hs hc⟩
  show iopL (.str z) (.int k) S = _
  simp only [iopL, if_pos hz, e]
  rfl
end Cs
namespace Cs
open PySem PySem.Spec PyProof.Rows L2
/-! ### lists made in a call -/
section
variable (sc : List D) (t : Tp) (W J : Sto) (i : Nat)
@[simp] theorem iop_ad (k : Int) : iop (.loc (ad W i)) (.int k) (tp sc t ++ (W ++ J)) = match getK J i with
    | some kvs => lift (valD kvs (.inl k)) (tp sc t ++ (W ++ J))
    | none => match getL J i with | some xs => lift (atI xs k) (tp sc t ++ (W ++ J)) | none => none := by
  simp only [iop, dkAt_loc, tp_getK, tp_getT, iopL, tp_getL, keyT]
  cases getK J i <;> cases getT J i <;> cases getL J i <;> rfl
@[simp] theorem iop_adS (s : Str) : iop (.loc (ad W i)) (.str s) (tp sc t ++ (W ++ J)) = match getK J i with
    | some kvs => lift (valD kvs (.inr s)) (tp sc t ++ (W ++ J))
    | none => none := by
  simp only [iop, dkAt_loc, tp_getK, tp_getT, iopL, keyT]
  cases getK J i <;> cases getT J i <;> rfl
@[simp] theorem bTuple_ad : bTuple [.loc (ad W i)] (tp sc t ++ (W ++ J)) = match getL J i with | some xs => some (.tup xs, tp sc t ++ (W ++ J)) | none => none := by
  simp only [bTuple, tp_getL]; cases getL J i <;> rfl
@[simp] theorem bLen_ad : bLen [.loc (ad W i)] (tp sc t ++ (W ++ J)) = match getL J i with | some xs => some (.int xs.length, tp sc t ++ (W ++ J)) | none => none := by
  simp only [bLen, tp_getL]; cases getL J i <;> rfl
@[simp] theorem mTy_ad : mTy "append" (.loc (ad W i)) (tp sc t ++ (W ++ J)) = (getL J i).isSome := by
  simp only [mTy_append, tp_getL]
@[simp] theorem mAppend_ad (y : D) : mAppend (.loc (ad W i)) [y] (tp sc t ++ (W ++ J)) = match getM J i with | some xs => if xs.length < sizeLine then some (.non, tp sc t ++ (W ++ J.set i (.lst (xs ++ [y])))) else none | none => none := by
  simp only [mAppend, tp_getM, tp_set] <;> rfl
@[simp] theorem items_ad : items .seq [.loc (ad W i)] (tp sc t ++ (W ++ J)) = match getL J i with | some xs => some (xs, [(ad W i, xs)]) | none => none := by
  simp only [items, tp_getL]; cases getL J i <;> rfl
@[simp] theorem bop_ad (j : Nat) : bop .add (.loc (ad W i)) (.loc (ad W j)) (tp sc t ++ (W ++ J)) = match getM J i, getM J j with
    | some xs, some ys => if xs.length + ys.length ≤ sizeLine then some (.loc (ad W J.length), tp sc t ++ (W ++ (J ++ [.lst (xs ++ ys)]))) else none
    | _, _ => none := by
  simp only [bop, tp_getM, tp_len, ad_app, tp_app, List.append_assoc, Nat.add_zero] <;> rfl
end
theorem wp_atI {xs : List D} {r : Int} {S : Sto} {Q : D → Sto → Prop} (h0 : 0 ≤ r) (h1 : r < xs.length) (h : ∀ x ∈ xs, Q x S) : wp (lift (atI xs r) S) Q := by
  obtain ⟨x, hx, e⟩ := atI_in h0 h1
  rw [e]
  exact wp_some _ _ _ |>.mpr (h x hx)
theorem rngD_mem {i : Int} {n : Nat} {x : D} (h : x ∈ rngD i n) : ∃ j : Int, x = .int j ∧ i ≤ j ∧ j < i + n := by
  obtain ⟨m, hm, rfl⟩ := List.mem_map.mp h
  have := List.mem_range.mp hm
  exact ⟨_, rfl, by omega, by omega⟩
end Cs

set_option Elab.async false
set_option linter.all false
set_option maxRecDepth 100000
namespace Cs
open PySem PySem.Spec PyProof.Rows L2
/-! ### slices -/
@[simp] theorem slop_tup (xs : List D) (lo hi : Option Int) (S : Sto) : slop (.tup xs) lo hi S = some (.tup (cutD xs lo hi), S) := rfl
theorem cutD_take {xs : List D} {i : Int} (h : 0 ≤ i) : cutD xs none (some i) = xs.take i.toNat := by
  obtain ⟨n, rfl⟩ := Int.eq_ofNat_of_zero_le h
  unfold cutD
  rw [HT.sIx_none, HT.sIx_nat, List.drop_zero, Nat.sub_zero, Int.toNat_natCast]
  rcases Nat.le_total n xs.length with h | h
  · rw [Nat.min_eq_left h]
  · rw [Nat.min_eq_right h, List.take_of_length_le (Nat.le_refl _), List.take_of_length_le h]
theorem cutD_drop {xs : List D} {i : Int} (h : 0 ≤ i) : cutD xs (some i) none = xs.drop i.toNat := by
  obtain ⟨n, rfl⟩ := Int.eq_ofNat_of_zero_le h
  unfold cutD
  rw [HT.sIx_none, HT.sIx_nat, Int.toNat_natCast]
  rcases Nat.le_total n xs.length with h | h
  · rw [Nat.min_eq_left h, List.take_of_length_le (by simp)]
  · rw [Nat.min_eq_right h, List.drop_length, List.drop_of_length_le h]; simp
@[simp] theorem bndE_non (d : D) : bndE (.cn .non) d = some none := rfl
@[simp] theorem bndE_var (i : Nat) (j : Int) : bndE (.var i) (.int j) = some (some j) := rfl
@[simp] theorem bndE_cn (i : Int) (j : Int) : bndE (.cn (.int i)) (.int j) = some (some j) := rfl
@[simp] theorem bndE_call (f : String) (es : List E) (j : Int) : bndE (.call f es) (.int j) = some (some j) := rfl
@[simp] theorem bndE_blt (f : String) (es : List E) (j : Int) : bndE (.blt f es) (.int j) = some (some j) := rfl
@[simp] theorem bndE_idx (a b : E) (j : Int) : bndE (.idx a b) (.int j) = some (some j) := rfl
@[simp] theorem bndE_bin (op : Bop) (a b : E) (j : Int) : bndE (.bin op a b) (.int j) = some (some j) := rfl
/-! ### comprehensions whose parts are plain -/
theorem wp_lc_pure {α : Type} {cond : Ev → Sto → Option (Bool × Sto)} {elt : Ev → Sto → Option (D × Sto)} {w : Watch} {tg : Tg} {n0 : Nat} {env : Ev} {S0 S : Sto} {Q : Unit → Sto → Prop} {l : List α} (g : α → D) (p : α → Bool) (f : α → D)
    (eS : S = S0 ++ [.lst []]) (en : n0 = S0.length) (hw : ∀ acc, still w (S0 ++ [.lst acc])) (hl : l.length < sizeLine)
    (step : ∀ a ∈ l, ∀ acc, ∃ env1, asg tg (g a) env = some env1 ∧ cond env1 (S0 ++ [.lst acc]) = some (p a, S0 ++ [.lst acc]) ∧ (p a = true → elt env1 (S0 ++ [.lst acc]) = some (f a, S0 ++ [.lst acc])))
    (h : Q () (S0 ++ [.lst ((l.filter p).map f)])) : wp (lcL cond elt w tg n0 env (l.map g) S) Q := by
  subst en eS
  have main : ∀ (l : List α) (acc : List D), acc.length + l.length < sizeLine → (∀ a ∈ l, ∀ acc, ∃ env1, asg tg (g a) env = some env1 ∧ cond env1 (S0 ++ [.lst acc]) = some (p a, S0 ++ [.lst acc]) ∧ (p a = true → elt env1 (S0 ++ [.lst acc]) = some (f a, S0 ++ [.lst acc]))) →
      lcL cond elt w tg S0.length env (l.map g) (S0 ++ [.lst acc]) = some ((), S0 ++ [.lst (acc ++ (l.filter p).map f)]) := by
    intro l
    induction l with
    | nil => intro acc _ _; simp only [List.map_nil, List.filter_nil, List.append_nil]; rw [lcL, if_pos (hw acc)]
    | cons a l ih =>
      intro acc hl st
      obtain ⟨env1, e1, e2, e3⟩ := st a (List.mem_cons_self ..) acc
      rw [List.map_cons, lcL, if_pos (hw acc), e1]
      simp only [e2, bnd_some]
      simp only [List.length_cons] at hl
      cases hp : p a with
      | true =>
        rw [if_pos rfl, e3 hp, bnd_some]
        have gm : getM (S0 ++ [.lst acc]) S0.length = some acc := by unfold getM; simp
        rw [gm]
        simp only
        rw [if_pos (by omega)]
        have es : (S0 ++ [SO.lst acc]).set S0.length (.lst (acc ++ [f a])) = S0 ++ [.lst (acc ++ [f a])] := by simp
        rw [es, ih (acc ++ [f a]) (by simp; omega) fun a' h' => st a' (List.mem_cons_of_mem _ h')]
        simp [List.filter_cons, hp]
      | false =>
        rw [if_neg (by simp), ih acc (by omega) fun a' h' => st a' (List.mem_cons_of_mem _ h')]
        simp [List.filter_cons, hp]
  rw [main l [] (by simpa using hl) step]
  simpa using h
end Cs
namespace Cs
open PySem PySem.Spec PyProof.Rows L2
theorem wp_lc_map {α : Type} {cond : Ev → Sto → Option (Bool × Sto)} {elt : Ev → Sto → Option (D × Sto)} {w : Watch} {tg : Tg} {n0 : Nat} {env : Ev} {S0 S : Sto} {Q : Unit → Sto → Prop} {l : List α} (g : α → D) (f : α → D)
    (eS : S = S0 ++ [.lst []]) (en : n0 = S0.length) (hw : ∀ acc, still w (S0 ++ [.lst acc])) (hl : l.length < sizeLine)
    (step : ∀ a ∈ l, ∀ acc, ∃ env1, asg tg (g a) env = some env1 ∧ cond env1 (S0 ++ [.lst acc]) = some (true, S0 ++ [.lst acc]) ∧ elt env1 (S0 ++ [.lst acc]) = some (f a, S0 ++ [.lst acc]))
    (h : Q () (S0 ++ [.lst (l.map f)])) : wp (lcL cond elt w tg n0 env (l.map g) S) Q := by
  refine wp_lc_pure (S0 := S0) g (fun _ => true) f eS en hw hl (fun a ha acc => ?_) ?_
  · obtain ⟨e, h1, h2, h3⟩ := step a ha acc
    exact ⟨e, h1, h2, fun _ => h3⟩
  · rw [show l.filter (fun _ => true) = l from List.filter_eq_self.mpr (by simp)]
    exact h
end Cs

set_option Elab.async false
set_option linter.all false
set_option maxRecDepth 100000
namespace Gn
open PySem PySem.Spec PyProof.Rows L2 Cs

abbrev sS (s : String) : D := .str (Str.ofString s)
/-! ### what the generator makes -/
inductive Kd where
  | num | txt | boo
deriving DecidableEq
def Kd.s : Kd → String
  | .num => "number" | .txt => "text" | .boo => "boolean"
theorem Kd.s_inj {a b : Kd} (h : a.s = b.s) : a = b := by cases a <;> cases b <;> first | rfl | (exact absurd h (by decide))
inductive Cell where
  | non | bl (b : Bool) | num (p q : Int) | str (s : Str)
def Cell.d : Cell → D
  | .non => .non
  | .bl b => .bl b
  | .num p q => .tup [.int p, .int q]
  | .str s => .str s
structure Frc (p q : Int) : Prop where
  pos : 0 < q
  low : Nat.gcd p.natAbs q.natAbs = 1
  ps : p.natAbs < 10 ^ 12
  qs : q.natAbs < 10 ^ 12
inductive Cell.Of : Kd → Cell → Prop where
  | num {p q : Int} (h : Frc p q) : Cell.Of .num (.num p q)
  | txt {s : Str} (ok : PyData.strOk s = true) (l : s.length ≤ 40) : Cell.Of .txt (.str s)
  | boo (b : Bool) : Cell.Of .boo (.bl b)
theorem Frc.nc {p q : Int} (h : Frc p q) (n : Nat) : Nc (n + 1) 82 (.tup [.int p, .int q]) := by
  refine (Nc.tup (n := n) (w := 40) fun d hd => ?_).mono (by omega) (by simp)
  simp at hd
  rcases hd with rfl | rfl
  · exact .int h.ps n
  · exact .int h.qs n
theorem Cell.Of.nc {k : Kd} {c : Cell} (h : Cell.Of k c) : Nc 1 100 c.d := by
  cases h with
  | num h => exact (h.nc 0).mono (by omega) (by omega)
  | txt ok l => exact .str ok (by omega) 1
  | boo b => exact .bl _ _ _
structure Col where
  nm : String
  kd : Kd
deriving DecidableEq
def Col.d (c : Col) : D := .tup [sS c.nm, sS c.kd.s]
structure Cols (cs : List Col) : Prop where
  nd : (cs.map (·.nm)).Nodup
  num : ∃ c ∈ cs, c.kd = .num
  l0 : 1 ≤ cs.length
  len : cs.length ≤ 6
  nl : ∀ c ∈ cs, c.nm.length ≤ 12
abbrev colsD (cs : List Col) : D := .tup (cs.map Col.d)
theorem Col.nc {c : Col} (h : c.nm.length ≤ 12) : Nc 1 40 c.d := by
  refine (Nc.tup (n := 0) (w := 12) fun d hd => ?_).mono (by omega) (by simp)
  simp at hd
  rcases hd with rfl | rfl
  · exact .lit _ h 0
  · exact .lit _ (by cases c.kd <;> decide) 0
theorem Col.d_inj {a b : Col} (h : a.d = b.d) : a = b := by
  obtain ⟨n, k⟩ := a
  obtain ⟨m, l⟩ := b
  simp [Col.d, ofString_inj] at h
  obtain ⟨rfl, h⟩ := h
  rw [Kd.s_inj h]
abbrev Keys := List (String × Bool)
def keyD (k : String × Bool) : D := .tup [sS k.1, .bl k.2]
abbrev keysD (ks : Keys) : D := .tup (ks.map keyD)
def KeysOk (cs : List Col) (ks : Keys) : Prop := ks.length ≤ 2 ∧ ∀ k ∈ ks, ∃ c ∈ cs, c.nm = k.1
inductive Src where
  | col (nm : String) | con (c : Cell)
def Src.d : Src → D
  | .col nm => .tup [sS "column", sS nm]
  | .con c => .tup [sS "constant", c.d]
inductive Src.Ok (cs : List Col) (k : Kd) : Src → Prop where
  | col {nm : String} (h : ⟨nm, k⟩ ∈ cs) : Src.Ok cs k (.col nm)
  | con {c : Cell} (h : Cell.Of k c) : Src.Ok cs k (.con c)
inductive Tr where
  | filter (sg nm : String) (p q : Int)
  | sort (ks : Keys)
  | twice (nm : String)
  | take (n : Int)
  | group (bs : List Col) (nm : String)
  | stack (nm : String) (over : List String) (ks : Keys)
  | bin (nm : String)
def Tr.d : Tr → D
  | .filter sg nm p q => .tup [sS "filter", .tup [sS sg, .tup [sS "column", sS nm], .tup [sS "cell", .tup [.int p, .int q]]]]
  | .sort ks => .tup [sS "sort", keysD ks]
  | .twice nm => .tup [sS "derive", sS "twice", .tup [sS "*", .tup [sS "cell", .tup [.int 2, .int 1]], .tup [sS "column", sS nm]]]
  | .take n => .tup [sS "take", .int n]
  | .group bs nm => .tup [sS "group", .tup (bs.map fun c => sS c.nm), .tup [.tup [sS "sum_up", sS "sum", sS nm], .tup [sS "many", sS "count", .non]]]
  | .stack nm over ks => .tup [sS "stack", sS nm, .tup (over.map fun s => sS s), keysD ks, sS "low", sS "high"]
  | .bin nm => .tup [sS "bin", sS nm, .tup [.int 5, .int 2], sS "low", sS "high"]
def Tr.cols (cs : List Col) : Tr → List Col
  | .twice _ => cs ++ [⟨"twice", .num⟩]
  | .group bs _ => bs ++ [⟨"sum_up", .num⟩, ⟨"many", .num⟩]
  | .stack _ _ _ => cs ++ [⟨"low", .num⟩, ⟨"high", .num⟩]
  | .bin _ => cs ++ [⟨"low", .num⟩, ⟨"high", .num⟩]
  | _ => cs
def Sg (s : String) : Prop := s = "<" ∨ s = ">=" ∨ s = "<>"
inductive Tr.Ok (cs : List Col) : Tr → Prop where
  | filter {sg nm : String} {p q : Int} (hs : Sg sg) (h : ⟨nm, .num⟩ ∈ cs) (f : Frc p q) : Tr.Ok cs (.filter sg nm p q)
  | sort {ks : Keys} (h : KeysOk cs ks) : Tr.Ok cs (.sort ks)
  | twice {nm : String} (h : ⟨nm, .num⟩ ∈ cs) (hn : ∀ c ∈ cs, c.nm ≠ "twice") : Tr.Ok cs (.twice nm)
  | take {n : Int} (h0 : 0 ≤ n) (h : n ≤ 40) : Tr.Ok cs (.take n)
  | group {bs : List Col} {nm : String} (h : ⟨nm, .num⟩ ∈ cs) (hb : ∀ c ∈ bs, c ∈ cs) (nd : (bs.map (·.nm)).Nodup) (hl : bs.length ≤ 2) (h1 : ∀ c ∈ cs, c.nm ≠ "sum_up") (h2 : ∀ c ∈ cs, c.nm ≠ "many") : Tr.Ok cs (.group bs nm)
  | stack {nm : String} {over : List String} {ks : Keys} (h : ⟨nm, .num⟩ ∈ cs) (ho : ∀ n ∈ over, ∃ c ∈ cs, c.nm = n) (hl : over.length ≤ 1) (hk : KeysOk cs ks) (h1 : ∀ c ∈ cs, c.nm ≠ "low") (h2 : ∀ c ∈ cs, c.nm ≠ "high") : Tr.Ok cs (.stack nm over ks)
  | bin {nm : String} (h : ⟨nm, .num⟩ ∈ cs) (h1 : ∀ c ∈ cs, c.nm ≠ "low") (h2 : ∀ c ∈ cs, c.nm ≠ "high") : Tr.Ok cs (.bin nm)
/-- transforms, one behind the other: the columns ahead, those behind -/
inductive Trs : List Col → List Tr → List Col → Prop where
  | nil {cs : List Col} : Trs cs [] cs
  | snoc {cs cs1 : List Col} {ts : List Tr} {t : Tr} (h : Trs cs ts cs1) (ok : t.Ok cs1) : Trs cs (ts ++ [t]) (t.cols cs1)
abbrev trsD (ts : List Tr) : D := .tup (ts.map Tr.d)
/-- the kinds of scales -/
inductive SK where
  | lin | band (k : Kd)
deriving DecidableEq
def SK.s : SK → String
  | .lin => "linear" | .band k => k.s
def SK.kd : SK → Kd
  | .lin => .num | .band k => k
inductive Dom where
  | fit | zero | from (p q r s : Int) | of (cs : List Cell)
def Dom.d : Dom → D
  | .fit => .tup [sS "fit"]
  | .zero => .tup [sS "zero"]
  | .from p q r s => .tup [sS "from", .tup [.int p, .int q], .tup [.int r, .int s]]
  | .of cs => .tup [sS "of", .tup (cs.map Cell.d)]
inductive Dom.Ok : SK → Dom → Prop where
  | fit {k : SK} : Dom.Ok k .fit
  | zero : Dom.Ok .lin .zero
  | from {p q r s : Int} (h1 : Frc p q) (h2 : Frc r s) (lt : p * s < r * q) : Dom.Ok .lin (.from p q r s)
  | of {k : Kd} {cs : List Cell} (h : ∀ c ∈ cs, Cell.Of k c) (nd : cs.Nodup) (l0 : 1 ≤ cs.length) (l : cs.length ≤ 4) : Dom.Ok (.band k) (.of cs)
structure Axis where
  title : String
  grid : Bool
  pre : String
  post : String
  grp : Bool
def Axis.d (a : Axis) : D := .tup [sS a.title, .bl a.grid, .tup [sS a.pre, sS a.post, .bl a.grp]]
def axisD : Option Axis → D
  | none => .non
  | some a => a.d
structure Axis.Ok (a : Axis) : Prop where
  title : a.title = "" ∨ a.title = "total"
  pre : a.pre = "" ∨ a.pre = "$"
  post : a.post = "" ∨ a.post = " cm"
structure Scale where
  sk : SK
  dom : Dom
  rev : Bool
  clamp : Bool
  many : Int
  axis : Option Axis
def SK.form : SK → String
  | .lin => "linear" | .band _ => "band"
def Scale.d (s : Scale) : D := .tup [sS s.sk.form, s.dom.d, .bl s.rev, .bl s.clamp, .int s.many, axisD s.axis]
structure Scale.Ok (s : Scale) : Prop where
  dom : s.dom.Ok s.sk
  m0 : 1 ≤ s.many
  m1 : s.many ≤ 12
  axis : ∀ a, s.axis = some a → a.Ok
structure Tag where
  col : String
  keys : Keys
  fst : String
  snd : String
  avoid : List Int
def Tag.d (t : Tag) : D := .tup [sS t.col, keysD t.keys, sS t.fst, sS t.snd, .tup (t.avoid.map D.int)]
def tagD : Option Tag → D
  | none => .non
  | some a => a.d
def Side (s : String) : Prop := s = "above" ∨ s = "below" ∨ s = "left" ∨ s = "right" ∨ s = "center"
structure Tag.Ok (cs : List Col) (n : Int) (t : Tag) : Prop where
  col : ∃ c ∈ cs, c.nm = t.col
  keys : KeysOk cs t.keys
  fst : Side t.fst
  snd : Side t.snd
  avoid : ∀ i ∈ t.avoid, 0 ≤ i ∧ i < n
  nd : t.avoid.Nodup
structure Layer where
  table : String
  trs : List Tr
  mark : String
  chs : List (String × Src)
  paint : String
  tag : Option Tag
def chD (c : String × Src) : D := .tup [sS c.1, c.2.d]
abbrev chsD (cs : List (String × Src)) : D := .tup (cs.map chD)
def Layer.d (l : Layer) : D := .tup [sS l.table, trsD l.trs, sS l.mark, chsD l.chs, sS l.paint, tagD l.tag]
/-- the words of a mark on scales of two kinds, in an order -/
def wordsOf (kx ky : SK) (m : String) (ws : List String) : Prop :=
  ws.Nodup ∧ (∀ w ∈ ws, w = "x" ∨ w = "x2" ∨ w = "y" ∨ w = "y2" ∨ w = "color" ∨ (w = "text" ∧ m = "text") ∨ (w = "detail" ∧ m = "line")) ∧
  (m ≠ "rule" → "x" ∈ ws ∧ "y" ∈ ws) ∧ (m = "rule" → "x" ∈ ws ∨ "y" ∈ ws) ∧ ("x2" ∈ ws ∨ "y2" ∈ ws → (m = "rule" ∧ "x" ∈ ws ∧ "y" ∈ ws) ∨ m = "bar") ∧ (m = "text" → "text" ∈ ws) ∧
  (m = "bar" → ("x2" ∈ ws → kx = .lin) ∧ ("y2" ∈ ws → ky = .lin) ∧ (kx = .lin → ky = .lin → "x2" ∈ ws) ∧ (kx = .lin ∨ ky = .lin))
def Mark (m : String) : Prop := m = "point" ∨ m = "bar" ∨ m = "line" ∨ m = "rule" ∨ m = "text"
/-- the kind that a channel's cells have -/
def wordKd (kx ky kc : SK) (w : String) : Option Kd :=
  if w = "x" ∨ w = "x2" then some kx.kd else if w = "y" ∨ w = "y2" then some ky.kd else if w = "color" then some kc.kd else none
structure Layer.Ok (ts : List (String × List Col)) (kx ky kc : SK) (n : Int) (l : Layer) : Prop where
  table : ∃ cs cs1, (l.table, cs) ∈ ts ∧ Trs cs l.trs cs1 ∧ Cols cs1 ∧ (∀ c ∈ l.chs, ∃ k, c.2.Ok cs1 k ∧ ∀ k', wordKd kx ky kc c.1 = some k' → k' = k) ∧ (∀ t, l.tag = some t → t.Ok cs1 n)
  mark : Mark l.mark
  words : wordsOf kx ky l.mark (l.chs.map (·.1))
  len : l.trs.length ≤ 4
  line : l.mark = "line" → l.tag = none
  paint : l.paint = "#3a6ea8" ∨ l.paint = "#000000" ∨ l.paint = "#ffe4b5"
structure View where
  name : String
  title : String
  w : Int
  h : Int
  x : Scale
  y : Scale
  pal : String
  kc : SK
  hdom : Dom
  leg : Option String
  layers : List Layer
def legD : Option String → D
  | none => .non
  | some s => sS s
def View.d (v : View) : D := .tup [sS v.name, sS v.title, .tup [.int v.w, .int v.h], v.x.d, v.y.d, .tup [sS v.pal, v.hdom.d, legD v.leg], .tup (v.layers.map Layer.d)]
structure View.Ok (ts : List (String × List Col)) (v : View) : Prop where
  title : v.title = "" ∨ v.title = "Panel"
  w0 : 30 ≤ v.w
  w1 : v.w ≤ 240
  h0 : 30 ≤ v.h
  h1 : v.h ≤ 200
  x : v.x.Ok
  y : v.y.Ok
  pal : v.pal = "plain" ∨ v.pal = "safe" ∨ v.pal = "dark"
  kc : v.kc ≠ .lin
  hdom : v.hdom.Ok v.kc
  leg : ∀ s, v.leg = some s → s = "" ∨ s = "kind"
  len : v.layers.length ≤ 4
  layers : ∀ l ∈ v.layers, l.Ok ts v.x.sk v.y.sk v.kc v.layers.length
structure Spec where
  title : String
  tables : List (String × List Col)
  views : List View
  rows : List (List Int)
def tableD (t : String × List Col) : D := .tup [sS t.1, colsD t.2]
def Spec.d (s : Spec) : D := .tup [sS s.title, .tup (s.tables.map tableD), .tup (s.views.map View.d), .tup (s.rows.map fun r => .tup (r.map D.int))]
/-- a data table's columns -/
structure Raw (cs : List Col) : Prop where
  ok : Cols cs
  len : cs.length ≤ 4
  nm : ∀ c ∈ cs, c.nm = "a" ∨ c.nm = "total" ∨ c.nm = "Region_2" ∨ c.nm = "b" ∨ c.nm = "a1"
  num : ∃ nm rest, cs = ⟨nm, .num⟩ :: rest
inductive Tables : List (String × List Col) → Prop where
  | one {cs : List Col} (h : Raw cs) : Tables [("t", cs)]
  | two {cs es : List Col} (h : Raw cs) (h2 : Raw es) : Tables [("t", cs), ("u_2", es)]
inductive RowsOk : Nat → List (List Int) → Prop where
  | one : RowsOk 1 [[0]]
  | two {r : List (List Int)} (h : r = [[0, 1]] ∨ r = [[1, 0]] ∨ r = [[0], [1]] ∨ r = [[1], [0]]) : RowsOk 2 r
  | three {r : List (List Int)} (h : r = [[0, 1, 2]] ∨ r = [[2], [1, 0]] ∨ r = [[1], [2], [0]]) : RowsOk 3 r
structure Spec.Ok (n : Nat) (s : Spec) : Prop where
  title : s.title = "" ∨ s.title = "Sales"
  tables : Tables s.tables
  len : s.views.length = n
  names : s.views.map (·.name) = ["v", "w", "v_3"].take n
  views : ∀ v ∈ s.views, v.Ok s.tables
  rows : RowsOk n s.rows

theorem Tables.raw {ts : List (String × List Col)} (h : Tables ts) : ∀ t ∈ ts, Raw t.2 := by
  cases h with
  | one h => simp; exact h
  | two h h2 => simp; exact ⟨h, h2⟩
theorem Trs.trans {a b : List Col} {ts : List Tr} (h : Trs a ts b) {t : Tr} (ok : t.Ok b) (e : t.cols b = c) : Trs a (ts ++ [t]) c := e ▸ .snoc h ok
end Gn

set_option Elab.async false
set_option linter.all false
set_option maxRecDepth 100000
namespace Gn
open PySem PySem.Spec PyProof.Rows L2 Cs
/-! ### lists that stand behind the tape -/
def LAt (W : Sto) (m : Nat) (xs : List D) : Prop := ∃ i, m = i + 3 ∧ W[i]? = some (.lst xs)
section
variable {sc : List D} {W J : Sto} {m : Nat} {xs : List D}
theorem LAt.app (h : LAt W m xs) : LAt (W ++ J) m xs := by
  obtain ⟨i, e, h⟩ := h
  exact ⟨i, e, by rw [List.getElem?_append_left (List.getElem?_eq_some_iff.mp h).1]; exact h⟩
theorem LAt.getL (h : LAt W m xs) (t : Tp) : Cs.getL (tp sc t ++ W) m = some xs := by
  obtain ⟨i, rfl, h⟩ := h
  unfold Cs.getL
  rw [show (tp sc t ++ W)[i + 3]? = W[i]? from rfl, h]
theorem LAt.iop (h : LAt W m xs) (t : Tp) (k : Int) : Cs.iop (.loc m) (.int k) (tp sc t ++ W) = lift (atI xs k) (tp sc t ++ W) := iop_loc (h.getL t) k
theorem LAt.iopA (h : LAt W m xs) (t : Tp) (k : Int) (J : Sto) : Cs.iop (.loc m) (.int k) (tp sc t ++ (W ++ J)) = lift (atI xs k) (tp sc t ++ (W ++ J)) := h.app.iop t k
theorem LAt.mk (W J : Sto) (i : Nat) (h : J[i]? = some (.lst xs)) : LAt (W ++ J) (ad W i) xs := ⟨W.length + i, rfl, by rw [List.getElem?_append_right (by omega)]; simpa using h⟩
theorem LAt.lt (h : LAt W m xs) (t : Tp) : m < (tp sc t ++ W).length := by
  obtain ⟨i, rfl, h⟩ := h
  have := (List.getElem?_eq_some_iff.mp h).1
  simp [tp]; omega
end
theorem wp_fin_J {sc : List D} {t t' : Tp} {W W1 : Sto} {d : D} {Q : D → Sto → Prop} (J : Sto) (e : W1 = W ++ J) (hp : d.pure = true) (q : Q d (tp sc t' ++ W)) : wp (fin (tp sc t ++ W) (d, tp sc t' ++ W1)) Q := by
  subst e
  exact wp_fin_tp hp q
@[simp] theorem truth_ad (sc : List D) (t : Tp) (W J : Sto) (i : Nat) : truth (tp sc t ++ (W ++ J)) (.loc (ad W i)) = (Cs.getL J i).map fun xs => !xs.isEmpty := by
  simp only [truth, tp_getL]
@[simp] theorem ad_add (W : Sto) (i j : Nat) : ad W i + j = ad W (i + j) := by simp only [Cs.ad]; omega
section
variable (J K : Sto) (i : Nat) (x : SO)
theorem get_app0 : (J ++ K)[J.length]? = K[0]? := by rw [List.getElem?_append_right (Nat.le_refl _), Nat.sub_self]
theorem get_appS : (J ++ K)[J.length + i]? = K[i]? := by rw [List.getElem?_append_right (by omega)]; congr 1; omega
@[simp] theorem getL_app0 : Cs.getL (J ++ K) J.length = Cs.getL K 0 := by unfold Cs.getL; rw [get_app0]
@[simp] theorem getL_appS : Cs.getL (J ++ K) (J.length + i) = Cs.getL K i := by unfold Cs.getL; rw [get_appS]
@[simp] theorem getK_app0 : Cs.getK (J ++ K) J.length = Cs.getK K 0 := by unfold Cs.getK; rw [get_app0]
@[simp] theorem getK_appS : Cs.getK (J ++ K) (J.length + i) = Cs.getK K i := by unfold Cs.getK; rw [get_appS]
@[simp] theorem getT_app0 : Cs.getT (J ++ K) J.length = Cs.getT K 0 := by unfold Cs.getT; rw [get_app0]
@[simp] theorem getT_appS : Cs.getT (J ++ K) (J.length + i) = Cs.getT K i := by unfold Cs.getT; rw [get_appS]
@[simp] theorem getM_app0 : Cs.getM (J ++ K) J.length = Cs.getM K 0 := by unfold Cs.getM; rw [get_app0]
@[simp] theorem getM_appS : Cs.getM (J ++ K) (J.length + i) = Cs.getM K i := by unfold Cs.getM; rw [get_appS]
@[simp] theorem set_app0 : (J ++ K).set J.length x = J ++ K.set 0 x := by rw [List.set_append_right _ _ (Nat.le_refl _), Nat.sub_self]
@[simp] theorem set_appS : (J ++ K).set (J.length + i) x = J ++ K.set i x := by rw [List.set_append_right _ _ (by omega)]; congr 2; omega
end
section
variable {J : Sto} {i : Nat} {xs : List D}
theorem at_app (h : J[i]? = some (.lst xs)) (K : Sto) : (J ++ K)[i]? = some (.lst xs) := by rw [List.getElem?_append_left (List.getElem?_eq_some_iff.mp h).1]; exact h
theorem getM_at (h : J[i]? = some (.lst xs)) : Cs.getM J i = some xs := by unfold Cs.getM; rw [h]
theorem getL_at (h : J[i]? = some (.lst xs)) : Cs.getL J i = some xs := by unfold Cs.getL; rw [h]
theorem getK_at (h : J[i]? = some (.lst xs)) : Cs.getK J i = none := by unfold Cs.getK; rw [h]
theorem getT_at (h : J[i]? = some (.lst xs)) : Cs.getT J i = none := by unfold Cs.getT; rw [h]
theorem set_at {y z : SO} (h : J[i]? = some z) : (J.set i y)[i]? = some y := List.getElem?_set_self (List.getElem?_eq_some_iff.mp h).1
end
theorem rngD_nil (a : Int) : rngD a 0 = [] := rfl
theorem rngD_cons (a : Int) (n : Nat) : rngD a (n + 1) = .int a :: rngD (a + 1) n := by
  unfold rngD
  rw [List.range_succ_eq_map]
  simp only [List.map_cons, List.map_map]
  congr 1
  · simp
  · apply List.map_congr_left
    intro i _
    simp; omega
theorem rng_cons {a : Int} {x : D} {xs : List D} {n : Nat} (h : x :: xs = rngD a n) : x = .int a ∧ xs = rngD (a + 1) xs.length ∧ n = xs.length + 1 := by
  cases n with
  | zero => cases h
  | succ n =>
    rw [rngD_cons] at h
    cases h
    exact ⟨rfl, by rw [rngD_len], by rw [rngD_len]⟩
theorem eqv_nc {n w : Nat} {d : D} (h : Nc n w d) : PyData.eqv d.py d.py = true := by
  exact SeqAt.eqv_refl _ h.lay
end Gn
namespace K79
open PySem PySem.Spec PyProof.Rows L2 Cs Gn
def G : String → Option D
  | "ORDER" => some (.tup [sS "x", sS "x2", sS "y", sS "y2", sS "color", sS "text", sS "detail"])
  | "PLACES" => some (.tup [.tup [sS "x", .int 3], .tup [sS "x2", .int 3], .tup [sS "y", .int 4], .tup [sS "y2", .int 4], .tup [sS "color", .int 5]])
  | _ => none
section
variable {ns : List Int} {k n : Nat} {t : Tp} {W : Sto} {Q : D → Sto → Prop}
theorem c_draw {m : Int} (ht : t.ok (n + 1)) (hm : 1 ≤ m) (hm2 : m < 2 ^ 60) (h : ∀ r t', 0 ≤ r → r < m → t'.ok n → Q (.int r) (tp (ns.map .int) t' ++ W)) :
    wp (callF tab G (k + 1) "_law_draw" [.loc 2, .int m] (tp (ns.map .int) t ++ W)) Q := by
  rw [callF_succ (by decide) rfl]
  exact draw_ok _ ht hm hm2 h
theorem c_lowest {a d : Int} {S : Sto} (ha : a.natAbs < 10 ^ 12) (hd : 0 < d) (hd2 : d.natAbs < 10 ^ 12) (h : ∀ p q g : Int, 0 < g → p * g = a → q * g = d → Frc p q → Q (.tup [.int p, .int q]) S) : wp (callF tab G (k + 1) "_law_lowest" [.int a, .int d] S) Q := by
  rw [callF_succ (by decide) rfl]
  have g0 : 0 < Nat.gcd a.natAbs d.natAbs := Nat.gcd_pos_of_pos_right _ (by omega)
  have da : (Nat.gcd a.natAbs d.natAbs : Int) ∣ a := Int.ofNat_dvd_left.mpr (Nat.gcd_dvd_left _ _)
  have dd : (Nat.gcd a.natAbs d.natAbs : Int) ∣ d := Int.ofNat_dvd_left.mpr (Nat.gcd_dvd_right _ _)
  have dv : ∀ x : Int, ∀ g : Nat, x.natAbs < 10 ^ 12 → (x / (g : Int)).natAbs < 10 ^ 12 := fun x g h => by
    have := Int.natAbs_ediv_le_natAbs x g
    omega
  refine lowest_ok _ hd (by omega) (h _ _ (Nat.gcd a.natAbs d.natAbs) (by omega) (Int.ediv_mul_cancel da) (Int.ediv_mul_cancel dd) ⟨Int.ediv_pos_of_pos_of_dvd hd (by omega) dd, ?_, dv _ _ ha, dv _ _ hd2⟩)
  rw [Int.natAbs_ediv_of_dvd da, Int.natAbs_ediv_of_dvd dd, Int.natAbs_natCast]
  exact Nat.gcd_div_gcd_div_gcd_of_pos_right (by omega)
theorem c_number (ht : t.ok (n + 4)) (h : ∀ p q t', Frc p q → t'.ok n → Q (.tup [.int p, .int q]) (tp (ns.map .int) t' ++ W)) :
    wp (callF tab G (k + 2) "_law_number" [.loc 2] (tp (ns.map .int) t ++ W)) Q := by
  rw [callF_succ (by decide) rfl]
  refine wp_run rfl rfl ?_
  simp [d_law_number, start']
  refine c_draw ht (by decide) (by decide) fun r t1 r0 r1 k1 => ?_
  simp
  refine c_draw k1 (by decide) (by decide) fun f t2 f0 f1 k2 => ?_
  have m1 := bop_mul (mulOk_small (i := r - 3) (j := 1000000007) (by omega) (by omega))
  have m2 := bop_mul (mulOk_small (i := 2) (j := r - 3) (by omega) (by omega))
  by_cases c0 : f = 0
  · simp [c0, m1]
    exact wp_fin_tp0 rfl (h _ _ _ ⟨by omega, by simp, by omega, by omega⟩ (k2.mono (by omega)))
  · by_cases c1 : f = 1
    · simp [c1, m2]
      refine c_lowest (by omega) (by omega) (by omega) fun p q g _ _ _ hf => ?_
      exact wp_fin_tp0 rfl (h _ _ _ hf (k2.mono (by omega)))
    · by_cases c2 : f = 2
      · simp [c2]
        refine c_draw k2 (by decide) (by decide) fun a t3 a0 a1 k3 => ?_
        simp
        refine c_draw k3 (by decide) (by decide) fun b t4 b0 b1 k4 => ?_
        simp
        refine c_lowest (by omega) (by omega) (by omega) fun p q g _ _ _ hf => ?_
        exact wp_fin_tp0 rfl (h _ _ _ hf k4)
      · simp [c0, c1, c2]
        exact wp_fin_tp0 rfl (h _ _ _ ⟨by omega, by simp, by omega, by omega⟩ (k2.mono (by omega)))

def signs : Str := Str.ofString " !\"#$&'()*+,-./0123456789:;<=>?@ABCDEFGHIJKLMNOPQRSTUVWXYZ[\\]^_`" ++ Str.ofString "abcdefghijklmnopqrstuvwxyz{|}~"
theorem signs_len : signs.length = 94 := by decide +kernel
theorem signs_ok : PyData.strOk signs = true := strOk_app (strOk_ofString _) (strOk_ofString _)
inductive WordI (ns : List Int) (W : Sto) (n : Nat) : List D → Ev → Sto → Prop where
  | mk {xs : List D} {t : Tp} {z : Str} {o : Option D} (ht : t.ok (n + xs.length)) (hz : PyData.strOk z = true) (hl : z.length + xs.length ≤ 5) :
    WordI ns W n xs [some (.loc 2), some (.str signs), some (.str z), o] (tp (ns.map .int) t ++ (W ++ [.lst [.int 0, .int 1, .int 1, .int 2, .int 3, .int 5]]))
theorem c_word (ht : t.ok (n + 6)) (h : ∀ z t', PyData.strOk z = true → z.length ≤ 5 → t'.ok n → Q (.str z) (tp (ns.map .int) t' ++ W)) :
    wp (callF tab G (k + 2) "_law_word" [.loc 2] (tp (ns.map .int) t ++ W)) Q := by
  rw [callF_succ (by decide) rfl]
  refine wp_run rfl rfl ?_
  have e : ∀ S, bop .add (sS " !\"#$&'()*+,-./0123456789:;<=>?@ABCDEFGHIJKLMNOPQRSTUVWXYZ[\\]^_`") (sS "abcdefghijklmnopqrstuvwxyz{|}~") S = some (.str signs, S) := bop_str (by decide +kernel)
  simp [d_law_word, start', e]
  refine c_draw ht (by decide) (by decide) fun r t1 r0 r1 k1 => ?_
  simp
  refine wp_atI r0 r1 fun x hx => ?_
  have hj : ∃ j : Int, x = .int j ∧ 0 ≤ j ∧ j ≤ 5 := by simp at hx; rcases hx with rfl | rfl | rfl | rfl | rfl <;> exact ⟨_, rfl, by omega, by omega⟩
  obtain ⟨j, rfl, j0, j1⟩ := hj
  simp [items_rng (show smallI j from ⟨by omega, by omega⟩)]
  refine wp_forL (I := WordI ns W n) ?_ ?_ ?_ _ _ _ (.mk (t := t1) (k1.mono (by rw [rngD_len]; omega)) (strOk_ofString "") (by rw [rngD_len, show (Str.ofString "").length = 0 from rfl]; omega))
  · intros; exact still_nil _
  · rintro x xs env S ⟨ht, hz, hl⟩
    rename_i t2 z o
    refine ⟨_, rfl, ?_⟩
    simp
    refine c_draw ht (by decide) (by decide) fun r t3 r0 r1 k3 => ?_
    obtain ⟨y, ey, ly, oy⟩ := iop_str (z := signs) (by rw [signs_len, sizeLine_eq]; omega) r0 (by rw [signs_len]; exact r1) signs_ok (tp (ns.map .int) t3 ++ (W ++ [.lst [.int 0, .int 1, .int 1, .int 2, .int 3, .int 5]]))
    simp at hl
    simp [ey]
    have ea := bop_str (a := z) (b := y) (by rw [sizeLine_eq]; omega)
    simp [ea]
    exact .mk k3 (strOk_app hz oy) (by rw [strLen_append]; omega)
  · rintro env S ⟨ht, hz, hl⟩
    simp
    exact wp_fin_tp rfl (h _ _ hz (by simp at hl; omega) (ht.mono (by omega)))
theorem c_cell {kd : Kd} (ht : t.ok (n + 7)) (h : ∀ c t', Cell.Of kd c → t'.ok n → Q c.d (tp (ns.map .int) t' ++ W)) :
    wp (callF tab G (k + 3) "_law_cell" [.loc 2, sS kd.s] (tp (ns.map .int) t ++ W)) Q := by
  rw [callF_succ (by decide) rfl]
  refine wp_run rfl rfl ?_
  cases kd with
  | num =>
    simp [d_law_cell, start', ofString_inj, Kd.s]
    refine c_number (n := n + 3) ht fun p q t' hf k1 => ?_
    exact wp_fin_tp0 rfl (h _ _ (.num hf) (k1.mono (by omega)))
  | txt =>
    simp [d_law_cell, start', ofString_inj, Kd.s]
    refine c_draw ht (by decide) (by decide) fun r t1 r0 r1 k1 => ?_
    simp
    refine wp_atI r0 r1 fun x hx => ?_
    have hj : ∃ s : String, x = sS s ∧ s.length ≤ 5 := by simp at hx; rcases hx with rfl | rfl | rfl <;> exact ⟨_, rfl, by decide⟩
    obtain ⟨s, rfl, hs⟩ := hj
    refine c_word k1 fun z t' hz hl k2 => ?_
    have ls : (Str.ofString s).length = s.length := PySem.ofString_length s
    have e := bop_str (a := Str.ofString s) (b := z) (by rw [ls, sizeLine_eq]; omega)
    simp [e]
    exact wp_fin_tp rfl (h (.str _) _ (.txt (strOk_app (strOk_ofString s) hz) (by rw [strLen_append, ls]; omega)) k2)
  | boo =>
    simp [d_law_cell, start', ofString_inj, Kd.s]
    refine c_draw (n := n + 6) ht (by decide) (by decide) fun r t1 r0 r1 k1 => ?_
    simp
    exact wp_fin_tp0 rfl (h (.bl _) _ (.boo _) (k1.mono (by omega)))
inductive CellsI (ns : List Int) (W : Sto) (kd : Kd) (mi : Int) (m : Nat) (n : Nat) : List D → Ev → Sto → Prop where
  | mk {xs : List D} {t : Tp} {acc : List Cell} {o p : Option D} (ht : t.ok (n + 7 * xs.length)) (hz : ∀ c ∈ acc, Cell.Of kd c) (nd : acc.Nodup) (hl : acc.length + xs.length ≤ m) (h0 : acc = [] → xs.length = m) :
    CellsI ns W kd mi m n xs [some (.loc 2), some (sS kd.s), some (.int mi), some (.loc (ad W 0)), o, p] (tp (ns.map .int) t ++ (W ++ [.lst (acc.map Cell.d)]))
theorem any_py {c : Cell} {kd : Kd} {acc : List Cell} (hc : Cell.Of kd c) (h : (D.pyL (acc.map Cell.d)).any (fun z => PyData.eqv z c.d.py) = false) : c ∉ acc := by
  intro hm
  have : ∀ l : List Cell, c ∈ l → (D.pyL (l.map Cell.d)).any (fun z => PyData.eqv z c.d.py) = true := by
    intro l hm
    induction l with
    | nil => cases hm
    | cons a l ih =>
      simp only [List.map_cons, D.pyL, List.any_cons, Bool.or_eq_true]
      rcases List.mem_cons.mp hm with rfl | hm
      · exact .inl (eqv_nc hc.nc)
      · exact .inr (ih hm)
  rw [this acc hm] at h
  cases h
theorem c_cells {kd : Kd} {mi : Int} {m : Nat} (em : mi = m) (m0 : 1 ≤ m) (m4 : m ≤ 4) (ht : t.ok (n + 7 * m)) (h : ∀ (cs : List Cell) t', (∀ c ∈ cs, Cell.Of kd c) → cs.Nodup → 1 ≤ cs.length → cs.length ≤ 4 → t'.ok n → Q (.loc (ad W 0)) (tp (ns.map .int) t' ++ (W ++ [.lst (cs.map Cell.d)]))) :
    wp (callF tab G (k + 4) "_law_cells" [.loc 2, sS kd.s, .int mi] (tp (ns.map .int) t ++ W)) Q := by
  rw [callF_succ (by decide) rfl]
  refine wp_run rfl rfl ?_
  simp [d_law_cells, start', items_rng (show smallI mi from ⟨by omega, by omega⟩)]
  refine wp_forL (I := CellsI ns W kd mi m n) ?_ ?_ ?_ _ _ _ (.mk (acc := []) (ht.mono (by rw [rngD_len]; omega)) (by simp) .nil (by rw [rngD_len]; simp; omega) (by rw [rngD_len]; omega))
  · intros; exact still_nil _
  · rintro x xs env S ⟨ht, hz, nd, hl, h0⟩
    rename_i t2 acc o p
    refine ⟨_, rfl, ?_⟩
    simp
    refine c_cell (n := n + 7 * xs.length) ht fun v t3 hv k3 => ?_
    have en := notin_loc (S := tp (ns.map .int) t3 ++ (W ++ [.lst (acc.map Cell.d)])) (m := Cs.ad W 0) (ys := acc.map Cell.d) hv.nc (by simp) (fun d hd => by obtain ⟨c, hc, rfl⟩ := List.mem_map.mp hd; exact (hz c hc).nc) (by omega)
    have hn := any_py (acc := acc) hv
    have h1 : acc = [] → (D.pyL (acc.map Cell.d)).any (fun z => PyData.eqv z v.d.py) = false := by rintro rfl; rfl
    generalize (D.pyL (acc.map Cell.d)).any (fun z => PyData.eqv z v.d.py) = q at en hn h1
    simp at hl h0
    have hs : acc.length < sizeLine := by rw [sizeLine_eq]; omega
    cases q with
    | true =>
      simp [en]
      exact .mk k3 hz nd (by omega) (fun z => by cases h1 z)
    | false =>
      simp [en, hs]
      have := CellsI.mk (ns := ns) (W := W) (kd := kd) (mi := mi) (m := m) (n := n) (xs := xs) (t := t3) (acc := acc ++ [v]) (o := some x) (p := some v.d) k3 (fun c hc => ?_) ?_ (by simp; omega) (by simp)
      · simpa using this
      · rcases List.mem_append.mp hc with hc | hc
        · exact hz c hc
        · rcases List.mem_singleton.mp hc with rfl; exact hv
      · rw [List.nodup_append]
        refine ⟨nd, by simp, fun a ha b hb => ?_⟩
        rcases List.mem_singleton.mp hb with rfl
        rintro rfl
        exact hn rfl ha
  · rintro env S ⟨ht, hz, nd, hl, h0⟩
    rename_i acc o p
    simp
    refine wp_fin_tpL rfl (pureL_iff.mpr fun d hd => ?_) (h _ _ hz nd ?_ (by simp at hl; omega) ht)
    · obtain ⟨c, hc, rfl⟩ := List.mem_map.mp hd
      exact (hz c hc).nc.pure
    · cases acc with
      | nil => have := h0 rfl; simp at this; omega
      | cons a l => simp

/-! columns -/
abbrev namesL : List String := ["a", "total", "Region_2", "b", "a1"]
def nmAt (i : Nat) : String := namesL.getD (i % 5) ""
theorem nmAt_at (i : Nat) (S : Sto) : lift (atI (namesL.map fun s => sS s) ((i : Int) % 5)) S = some (sS (nmAt i), S) := by
  have e : ((i : Int) % 5) = ((i % 5 : Nat) : Int) := by omega
  rw [e]
  have : i % 5 < 5 := Nat.mod_lt _ (by omega)
  unfold nmAt
  generalize i % 5 = j at this
  match j, this with
  | 0, _ => rfl
  | 1, _ => rfl
  | 2, _ => rfl
  | 3, _ => rfl
  | 4, _ => rfl
theorem nmAt_nd : ∀ r < 5, ∀ l < 5, ((List.range l).map fun i => nmAt (r + i)).Nodup := by decide
theorem nmAt_is (i : Nat) : nmAt i = "a" ∨ nmAt i = "total" ∨ nmAt i = "Region_2" ∨ nmAt i = "b" ∨ nmAt i = "a1" := by
  have : i % 5 < 5 := Nat.mod_lt _ (by omega)
  unfold nmAt
  generalize i % 5 = j at this
  match j, this with
  | 0, _ => simp
  | 1, _ => simp
  | 2, _ => simp
  | 3, _ => simp
  | 4, _ => simp
abbrev kindsL : List D := [sS "number", sS "text", sS "number", sS "boolean", sS "text"]
theorem kinds_mem {x : D} (h : x ∈ kindsL) : ∃ k : Kd, x = sS k.s := by
  simp at h
  rcases h with rfl | rfl | rfl | rfl | rfl
  · exact ⟨.num, rfl⟩
  · exact ⟨.txt, rfl⟩
  · exact ⟨.num, rfl⟩
  · exact ⟨.boo, rfl⟩
  · exact ⟨.txt, rfl⟩
inductive ColsI (ns : List Int) (W : Sto) (r : Nat) (n : Nat) : List D → Ev → Sto → Prop where
  | mk {xs : List D} {t : Tp} {acc : List Col} {o : Option D} (ht : t.ok (n + xs.length)) (hx : xs = rngD acc.length xs.length) (ha : acc.map (·.nm) = (List.range acc.length).map fun i => nmAt (r + i))
    (h0 : ∃ nm rest, acc = ⟨nm, .num⟩ :: rest) (hl : acc.length + xs.length ≤ 4) :
    ColsI ns W r n xs [some (.loc 2), some (.loc (ad W 0)), some (.loc (ad W 1)), some (.int r), some (.loc (ad W 2)), o] (tp (ns.map .int) t ++ (W ++ [.lst (namesL.map fun s => sS s), .lst kindsL, .lst (acc.map Col.d)]))
theorem raw_of {r : Nat} {acc : List Col} (hr : r < 5) (ha : acc.map (·.nm) = (List.range acc.length).map fun i => nmAt (r + i)) (h0 : ∃ nm rest, acc = ⟨nm, .num⟩ :: rest) (hl : acc.length ≤ 4) : Raw acc := by
  have hn : ∀ c ∈ acc, ∃ i, c.nm = nmAt i := fun c hc => by
    have : c.nm ∈ acc.map (·.nm) := List.mem_map_of_mem hc
    rw [ha] at this
    obtain ⟨i, _, e⟩ := List.mem_map.mp this
    exact ⟨_, e.symm⟩
  have hm : ∀ c ∈ acc, c.nm = "a" ∨ c.nm = "total" ∨ c.nm = "Region_2" ∨ c.nm = "b" ∨ c.nm = "a1" := fun c hc => by
    obtain ⟨i, e⟩ := hn c hc
    rw [e]; exact nmAt_is i
  refine ⟨⟨by rw [ha]; exact nmAt_nd r hr _ (by omega), ?_, ?_, by omega, fun c hc => ?_⟩, hl, hm, h0⟩
  · obtain ⟨nm, rest, rfl⟩ := h0; exact ⟨_, List.mem_cons_self .., rfl⟩
  · obtain ⟨nm, rest, rfl⟩ := h0; simp
  · rcases hm c hc with e | e | e | e | e <;> rw [e] <;> decide
theorem Col.pure (c : Col) : c.d.pure = true := rfl
theorem c_columns (ht : t.ok (n + 5)) (h : ∀ cs t', Raw cs → t'.ok n → Q (colsD cs) (tp (ns.map .int) t' ++ W)) :
    wp (callF tab G (k + 2) "_law_columns" [.loc 2] (tp (ns.map .int) t ++ W)) Q := by
  rw [callF_succ (by decide) rfl]
  refine wp_run rfl rfl ?_
  have bm := fun i : Int => bop_mod (i := i) (j := 5) (by omega)
  simp [d_law_columns, start']
  refine c_draw (n := n + 4) ht (by decide) (by decide) fun r t1 r0 r1 k1 => ?_
  obtain ⟨r, rfl⟩ := Int.eq_ofNat_of_zero_le r0
  have r5 : r < 5 := by omega
  have ea := nmAt_at r
  rw [show ((r : Int) % 5) = r from by omega] at ea
  simp at ea
  simp [ea]
  refine c_draw (n := n + 3) k1 (by decide) (by decide) fun j t2 j0 j1 k2 => ?_
  simp [items_rng2 (show smallI 1 from ⟨by omega, by omega⟩) (show smallI (2 + j) from ⟨by omega, by omega⟩)]
  refine wp_forL (I := ColsI ns W r n) ?_ ?_ ?_ _ _ _ (.mk (acc := [⟨nmAt r, .num⟩]) (k2.mono (by rw [rngD_len]; omega)) (by simp [rngD_len]) (by simp) ⟨_, _, rfl⟩ (by rw [rngD_len]; simp; omega))
  · intros; exact still_nil _
  · rintro x xs env S ⟨ht, hx, ha, h0, hl⟩
    rename_i t3 acc o
    obtain ⟨rfl, hx, _⟩ := rng_cons hx
    refine ⟨_, rfl, ?_⟩
    have ea := nmAt_at (r + acc.length)
    simp at ea
    simp [bm, ea]
    refine c_draw ht (by decide) (by decide) fun l t4 l0 l1 k4 => ?_
    simp
    refine wp_atI l0 l1 fun y hy => ?_
    obtain ⟨kd2, rfl⟩ := kinds_mem hy
    simp at hl
    have hs : acc.length < sizeLine := by rw [sizeLine_eq]; omega
    simp [hs]
    have := ColsI.mk (ns := ns) (W := W) (r := r) (n := n) (xs := xs) (t := t4) (acc := acc ++ [⟨nmAt (r + acc.length), kd2⟩]) (o := some (.int acc.length)) k4 (by simpa using hx) (by simp [ha, List.range_succ]) ?_ (by simp; omega)
    · simpa [Col.d] using this
    · obtain ⟨nm, rest, rfl⟩ := h0
      exact ⟨nm, rest ++ [_], rfl⟩
  · rintro env S ⟨ht, hx, ha, h0, hl⟩
    simp
    exact wp_fin_tp (by simpa [D.pure] using pureL_iff.mpr fun d hd => (by obtain ⟨c, hc, rfl⟩ := List.mem_map.mp hd; rfl)) (h _ _ (raw_of r5 ha h0 (by simpa using hl)) (ht.mono (by omega)))
end
end K79

set_option Elab.async false
set_option linter.all false
set_option maxRecDepth 100000
namespace K79
open PySem PySem.Spec PyProof.Rows L2 Cs Gn
section
variable {ns : List Int} {k n : Nat} {t : Tp} {W : Sto} {Q : D → Sto → Prop}
/-! ### axes, domains, scales -/
theorem c_axis (ht : t.ok (n + 6)) (h : ∀ (a : Option Axis) t', (∀ x, a = some x → x.Ok) → t'.ok n → Q (axisD a) (tp (ns.map .int) t' ++ W)) :
    wp (callF tab G (k + 2) "_law_axis" [.loc 2] (tp (ns.map .int) t ++ W)) Q := by
  rw [callF_succ (by decide) rfl]
  refine wp_run rfl rfl ?_
  simp [d_law_axis, start']
  refine c_draw ht (by decide) (by decide) fun r t1 r0 r1 k1 => ?_
  by_cases c : r = 0
  · simp [c]
    exact wp_fin_tp0 rfl (h none _ (fun _ e => by cases e) (k1.mono (by omega)))
  simp [c]
  refine c_draw k1 (by decide) (by decide) fun r t1 r0 r1 k1 => ?_
  simp
  refine wp_atI r0 r1 fun x hx => ?_
  obtain ⟨pre, rfl, hpre⟩ : ∃ s : String, x = sS s ∧ (s = "" ∨ s = "$") := by simp at hx; rcases hx with rfl | rfl <;> exact ⟨_, rfl, by simp⟩
  refine c_draw k1 (by decide) (by decide) fun r t1 r0 r1 k1 => ?_
  simp
  refine wp_atI r0 r1 fun x hx => ?_
  obtain ⟨post, rfl, hpost⟩ : ∃ s : String, x = sS s ∧ (s = "" ∨ s = " cm") := by simp at hx; rcases hx with rfl | rfl <;> exact ⟨_, rfl, by simp⟩
  refine c_draw k1 (by decide) (by decide) fun g t1 g0 g1 k1 => ?_
  simp
  refine c_draw k1 (by decide) (by decide) fun r t1 r0 r1 k1 => ?_
  simp
  refine wp_atI r0 r1 fun x hx => ?_
  obtain ⟨ti, rfl, hti⟩ : ∃ s : String, x = sS s ∧ (s = "" ∨ s = "total") := by simp at hx; rcases hx with rfl | rfl <;> exact ⟨_, rfl, by simp⟩
  refine c_draw k1 (by decide) (by decide) fun q t1 q0 q1 k1 => ?_
  simp
  exact wp_fin_tp rfl (h (some ⟨ti, _, pre, post, _⟩) _ (fun _ e => by cases e; exact ⟨hti, hpre, hpost⟩) k1)
theorem c_ends (ht : t.ok (n + 4)) (h : ∀ p q r s t', Frc p q → Frc r s → p * s < r * q → t'.ok n → Q (.tup [.tup [.int p, .int q], .tup [.int r, .int s]]) (tp (ns.map .int) t' ++ W)) :
    wp (callF tab G (k + 2) "_law_ends" [.loc 2] (tp (ns.map .int) t ++ W)) Q := by
  rw [callF_succ (by decide) rfl]
  refine wp_run rfl rfl ?_
  simp [d_law_ends, start']
  refine c_draw ht (by decide) (by decide) fun a t1 a0 a1 k1 => ?_
  simp
  refine c_draw k1 (by decide) (by decide) fun r t1 r0 r1 k1 => ?_
  simp
  refine wp_atI r0 r1 fun x hx => ?_
  obtain ⟨p, q, rfl, hf, hp, hq⟩ : ∃ p q : Int, x = .tup [.int p, .int q] ∧ Frc p q ∧ p.natAbs ≤ 10 ∧ q ≤ 2 := by
    simp at hx
    rcases hx with rfl | rfl | rfl
    · exact ⟨_, _, rfl, ⟨by decide, by decide, by decide, by decide⟩, by decide, by decide⟩
    · exact ⟨_, _, rfl, ⟨by decide, by decide, by decide, by decide⟩, by decide, by decide⟩
    · exact ⟨_, _, rfl, ⟨by decide, by simp, by omega, by decide⟩, by omega, by decide⟩
  simp
  refine c_draw k1 (by decide) (by decide) fun b t1 b0 b1 k1 => ?_
  simp
  refine c_draw k1 (by decide) (by decide) fun r t1 r0 r1 k1 => ?_
  simp
  refine wp_atI r0 r1 fun x hx => ?_
  obtain ⟨u, v, rfl, hu0, hu, hv0, hv⟩ : ∃ u v : Int, x = .tup [.int u, .int v] ∧ 0 < u ∧ u ≤ 40 ∧ 0 < v ∧ v ≤ 3 := by
    simp at hx
    rcases hx with rfl | rfl | rfl | rfl
    · exact ⟨_, _, rfl, by decide, by decide, by decide, by decide⟩
    · exact ⟨_, _, rfl, by decide, by decide, by decide, by decide⟩
    · exact ⟨_, _, rfl, by decide, by decide, by decide, by decide⟩
    · exact ⟨_, _, rfl, by omega, by omega, by decide, by decide⟩
  have q0 := hf.pos
  have m1 := bop_mul (mulOk_small (i := p) (j := v) (by omega) (by omega))
  have m2 := bop_mul (mulOk_small (i := u) (j := q) (by omega) (by omega))
  have m3 := bop_mul (mulOk_small (i := q) (j := v) (by omega) (by omega))
  have e1 : (p * v).natAbs ≤ 10 * 3 := by rw [Int.natAbs_mul]; exact Nat.mul_le_mul hp (by omega)
  have e2 : (u * q).natAbs ≤ 40 * 2 := by rw [Int.natAbs_mul]; exact Nat.mul_le_mul (by omega) (by omega)
  have e3 : (q * v).natAbs ≤ 2 * 3 := by rw [Int.natAbs_mul]; exact Nat.mul_le_mul (by omega) (by omega)
  have e4 : 0 < q * v := Int.mul_pos q0 hv0
  simp [m1, m2, m3, atI_0, atI_1]
  refine c_lowest (by omega) e4 (by omega) fun r s g hg hr hs hf2 => ?_
  refine wp_fin_tp rfl (h _ _ _ _ _ hf hf2 ?_ k1)
  have : p * s * g < r * q * g := by
    have x1 : p * s * g = p * (s * g) := by rw [Int.mul_assoc]
    have x2 : r * q * g = (r * g) * q := by rw [Int.mul_assoc, Int.mul_comm q g, ← Int.mul_assoc]
    rw [x1, x2, hs, hr, Int.add_mul]
    have : 0 < u * q * q := Int.mul_pos (Int.mul_pos hu0 q0) q0
    have x3 : p * (q * v) = p * v * q := by rw [Int.mul_comm q v, Int.mul_assoc]
    omega
  exact Int.lt_of_mul_lt_mul_right this (by omega)
theorem c_domain {sk : SK} (ht : t.ok (n + 30)) (h : ∀ d t', Dom.Ok sk d → t'.ok n → Q d.d (tp (ns.map .int) t' ++ W)) :
    wp (callF tab G (k + 5) "_law_domain" [.loc 2, sS sk.s] (tp (ns.map .int) t ++ W)) Q := by
  rw [callF_succ (by decide) rfl]
  refine wp_run rfl rfl ?_
  cases sk with
  | lin =>
    simp [d_law_domain, start', ofString_inj, SK.s]
    refine c_draw (n := n + 29) ht (by decide) (by decide) fun f t1 f0 f1 k1 => ?_
    simp
    refine c_ends (n := n + 25) k1 fun p q r s t2 h1 h2 h3 k2 => ?_
    have eb := bop_tup (a := [sS "from"]) (b := [.tup [.int p, .int q], .tup [.int r, .int s]]) (by rw [sizeLine_eq]; simp)
    simp [eb]
    refine wp_atI (by split <;> omega) (by simp; split <;> omega) fun x hx => ?_
    simp at hx
    rcases hx with rfl | rfl | rfl
    · exact wp_fin_tp rfl (h .fit _ .fit (k2.mono (by omega)))
    · exact wp_fin_tp rfl (h .zero _ .zero (k2.mono (by omega)))
    · exact wp_fin_tp rfl (h (.from p q r s) _ (.from h1 h2 h3) (k2.mono (by omega)))
  | band kd =>
    have hk : kd.s ≠ "linear" := by cases kd <;> decide
    have bm := fun i : Int => bop_mod (i := i) (j := 2) (by omega)
    simp [d_law_domain, start', ofString_inj, SK.s, hk]
    refine c_draw (n := n + 29) ht (by decide) (by decide) fun f t1 f0 f1 k1 => ?_
    simp
    refine c_draw (n := n + 28) k1 (by decide) (by decide) fun m t2 m0 m1 k2 => ?_
    obtain ⟨m, rfl⟩ := Int.eq_ofNat_of_zero_le m0
    simp
    refine c_cells (n := n) (m := 1 + m) (by omega) (by omega) (by omega) (k2.mono (by omega)) fun cs t3 h1 h2 h3 h4 k3 => ?_
    simp [bm]
    refine wp_atI (Int.emod_nonneg _ (by omega)) (Int.emod_lt_of_pos _ (by omega)) fun x hx => ?_
    simp at hx
    rcases hx with rfl | rfl
    · exact wp_fin_tp rfl (h .fit _ .fit k3)
    · refine wp_fin_tp ?_ (h (.of cs) _ (.of h1 h2 h3 h4) k3)
      simp [D.pure, D.pureL]
      exact pureL_iff.mpr fun d hd => by obtain ⟨c, hc, rfl⟩ := List.mem_map.mp hd; exact (h1 c hc).nc.pure
theorem Dom.pure {sk : SK} {d : Dom} (h : Dom.Ok sk d) : d.d.pure = true := by
  cases h with
  | fit => rfl
  | zero => rfl
  | «from» _ _ _ => rfl
  | of h _ _ _ =>
    simp [Dom.d, D.pure, D.pureL]
    exact pureL_iff.mpr fun d hd => by obtain ⟨c, hc, rfl⟩ := List.mem_map.mp hd; exact (h c hc).nc.pure
theorem axis_pure (a : Option Axis) : (axisD a).pure = true := by cases a <;> rfl
theorem c_scale {sk : SK} (ht : t.ok (n + 39)) (h : ∀ s t', Scale.Ok s → s.sk = sk → t'.ok n → Q s.d (tp (ns.map .int) t' ++ W)) :
    wp (callF tab G (k + 6) "_law_scale" [.loc 2, sS sk.s] (tp (ns.map .int) t ++ W)) Q := by
  rw [callF_succ (by decide) rfl]
  refine wp_run rfl rfl ?_
  simp [d_law_scale, start']
  refine c_domain (n := n + 9) ht fun d t1 hd k1 => ?_
  refine c_draw k1 (by decide) (by decide) fun a t1 a0 a1 k1 => ?_
  simp
  refine c_draw k1 (by decide) (by decide) fun b t1 b0 b1 k1 => ?_
  have fm : ∃ m : Int, (if Str.ofString sk.s = Str.ofString "linear" then 1 else 0 : Int) = m ∧ ∀ S, lift (atI [D.str (Str.ofString "band"), D.str (Str.ofString "linear")] m) S = some (sS sk.form, S) := by
    cases sk with
    | lin => exact ⟨1, by simp [SK.s], fun _ => rfl⟩
    | band kd => exact ⟨0, by cases kd <;> simp [SK.s, Kd.s, ofString_inj], fun _ => rfl⟩
  obtain ⟨m, e1, e2⟩ := fm
  rw [e1]
  simp [e2]
  refine c_draw k1 (by decide) (by decide) fun m t1 m0 m1 k1 => ?_
  simp
  refine c_axis k1 fun ax t1 hax k1 => ?_
  refine wp_fin_tp ?_ (h ⟨sk, d, decide (a = 0), decide (b = 0), 1 + m, ax⟩ _ ⟨hd, by show 1 ≤ 1 + m; omega, by show 1 + m ≤ 12; omega, hax⟩ rfl k1)
  simp [D.pure, D.pureL, Dom.pure hd, axis_pure]
/-! ### sources -/
theorem Cell.Of.pure {kd : Kd} {c : Cell} (h : Cell.Of kd c) : c.d.pure = true := h.nc.pure
inductive FoundI (W : Sto) (sc : List D) (t : Tp) (cs : List Col) (kd : Kd) : List D → Sto → Prop where
  | mk {rest acc : List Col} (h : ∀ c ∈ acc, c ∈ cs ∧ c.kd = kd) (hr : ∀ c ∈ rest, c ∈ cs) (hl : acc.length + rest.length ≤ cs.length) : FoundI W sc t cs kd (rest.map Col.d) (tp sc t ++ (W ++ [.lst (acc.map fun c => sS c.nm)]))
theorem c_source {cs : List Col} {sk : SK} (hc : cs.length ≤ 6) (ht : t.ok (n + 9)) (h : ∀ s t', Src.Ok cs sk.kd s → t'.ok n → Q s.d (tp (ns.map .int) t' ++ W)) :
    wp (callF tab G (k + 4) "_law_source" [.loc 2, colsD cs, sS sk.s] (tp (ns.map .int) t ++ W)) Q := by
  rw [callF_succ (by decide) rfl]
  refine wp_run rfl rfl ?_
  have main : wp (exSs ⟨callF tab G (k + 3), G⟩ (d_law_source.body.drop 1) [some (.loc 2), some (colsD cs), some (sS sk.kd.s), none, none] (tp (ns.map .int) t ++ W)) (retQ (tp (ns.map .int) t ++ W) Q) := by
    simp [d_law_source]
    refine wp_lcL (I := FoundI W (ns.map .int) t cs sk.kd) ?_ ?_ ?_ _ _ (.mk (acc := []) (rest := cs) (by simp) (fun c hc => hc) (by simp))
    · intros; exact still_nil _
    · intro x xs S I
      generalize ex : x :: xs = l at I
      obtain ⟨hacc, hr, hl⟩ := I
      rename_i rest acc
      cases rest with
      | nil => cases ex
      | cons c rest =>
        simp only [List.map_cons, List.cons.injEq] at ex
        obtain ⟨rfl, rfl⟩ := ex
        refine ⟨_, rfl, ?_⟩
        simp [wipeE, Tg.slots, Col.d, atI_0, atI_1]
        simp at hl
        by_cases e : c.kd = sk.kd
        · rw [if_pos (by rw [e])]
          refine ⟨by rw [sizeLine_eq]; omega, ?_⟩
          have := FoundI.mk (W := W) (sc := ns.map .int) (t := t) (cs := cs) (kd := sk.kd) (rest := rest) (acc := acc ++ [c]) ?_ (fun c' h' => hr c' (List.mem_cons_of_mem _ h')) (by simp; omega)
          · simpa [Col.d] using this
          · intro c' h'
            rcases List.mem_append.mp h' with q | q
            · exact hacc c' q
            · rcases List.mem_singleton.mp q with rfl
              exact ⟨hr _ (List.mem_cons_self ..), e⟩
        · rw [if_neg (by rw [ofString_inj]; exact fun z => e (Kd.s_inj z))]
          exact .mk hacc (fun c' h' => hr c' (List.mem_cons_of_mem _ h')) (by omega)
    · intro S I
      obtain ⟨acc, hacc, hl, rfl⟩ : ∃ acc : List Col, (∀ c ∈ acc, c ∈ cs ∧ c.kd = sk.kd) ∧ acc.length ≤ cs.length ∧ S = tp (ns.map .int) t ++ (W ++ [.lst (acc.map fun c => sS c.nm)]) := by
        generalize ex : ([] : List D) = l at I
        obtain ⟨hacc, hr, hl⟩ := I
        exact ⟨_, hacc, by omega, rfl⟩
      have con : wp (callF tab G (k + 3) "_law_cell" [.loc 2, sS sk.kd.s] (tp (ns.map .int) t ++ (W ++ [.lst (acc.map fun c => sS c.nm)]))) fun a S => wp (fin (tp (ns.map .int) t ++ W) (.tup [sS "constant", a], S)) Q := by
        refine c_cell (n := n + 2) ht fun c t1 hc k1 => ?_
        refine wp_fin_tp ?_ (h (.con c) _ (.con hc) (k1.mono (by omega)))
        simp [D.pure, D.pureL, Cell.Of.pure hc]
      cases acc with
      | nil => simpa using con
      | cons a acc =>
        simp
        refine c_draw (n := n + 8) ht (by decide) (by decide) fun r t1 r0 r1 k1 => ?_
        by_cases hr0 : 0 < r
        · simp [hr0]
          refine c_draw (n := n + 7) k1 (by omega) (by simp at hl; omega) fun j t1 j0 j1 k1 => ?_
          simp
          refine wp_atI j0 (by simpa using j1) fun x hx => ?_
          obtain ⟨c, hcm, rfl⟩ : ∃ c ∈ a :: acc, x = sS c.nm := by
            simp at hx
            rcases hx with rfl | ⟨c, hc, rfl⟩
            · exact ⟨a, List.mem_cons_self .., rfl⟩
            · exact ⟨c, List.mem_cons_of_mem _ hc, rfl⟩
          refine wp_fin_tp rfl (h (.col c.nm) _ (.col ?_) (k1.mono (by omega)))
          obtain ⟨q1, q2⟩ := hacc c hcm
          rw [← q2]; exact q1
        · simp [hr0]
          refine c_cell (n := n + 1) k1 fun c t1 hc k1 => ?_
          refine wp_fin_tp ?_ (h (.con c) _ (.con hc) (k1.mono (by omega)))
          simp [D.pure, D.pureL, Cell.Of.pure hc]
  rw [show d_law_source.body = d_law_source.body.take 1 ++ d_law_source.body.drop 1 from rfl]
  cases sk with
  | lin =>
    simp [d_law_source, start', SK.s] at main ⊢
    simpa [SK.kd, Kd.s] using main
  | band kd =>
    have hk : kd.s ≠ "linear" := by cases kd <;> decide
    simp [d_law_source, start', SK.s, ofString_inj, hk] at main ⊢
    simpa [SK.kd] using main
theorem Src.pure {cs : List Col} {kd : Kd} {s : Src} (h : Src.Ok cs kd s) : s.d.pure = true := by
  cases h with
  | col _ => rfl
  | con h => simp [Src.d, D.pure, D.pureL, Cell.Of.pure h]
end
end K79

set_option Elab.async false
set_option linter.all false
set_option maxRecDepth 100000
namespace Gn
open PySem PySem.Spec PyProof.Rows L2 Cs
@[simp] theorem mReverse_ad (sc : List D) (t : Tp) (W J : Sto) (i : Nat) : mReverse (.loc (ad W i)) (tp sc t ++ (W ++ J)) = match getM J i with | some xs => some (.non, tp sc t ++ (W ++ J.set i (.lst xs.reverse))) | none => none := by
  simp only [mReverse, tp_getM, tp_set] <;> rfl
theorem wordsOf.perm {kx ky : SK} {m : String} {ws vs : List String} (h : wordsOf kx ky m ws) (p : ws.Perm vs) : wordsOf kx ky m vs := by
  obtain ⟨h1, h2, h3, h4, h5, h6, h7⟩ := h
  have e : ∀ w, w ∈ ws ↔ w ∈ vs := fun w => p.mem_iff
  refine ⟨p.nodup_iff.mp h1, fun w hw => h2 w ((e w).mpr hw), ?_⟩
  simp only [e] at h3 h4 h5 h6 h7
  exact ⟨h3, h4, h5, h6, h7⟩
theorem wordsOf.color {kx ky : SK} {m : String} {ws : List String} (h : wordsOf kx ky m ws) (nc : "color" ∉ ws) : wordsOf kx ky m (ws ++ ["color"]) := by
  obtain ⟨h1, h2, h3, h4, h5, h6, h7⟩ := h
  have e : ∀ w, w ≠ "color" → (w ∈ ws ++ ["color"] ↔ w ∈ ws) := fun w hw => by simp [hw]
  refine ⟨?_, fun w hw => ?_, ?_⟩
  · rw [List.nodup_append]
    refine ⟨h1, by simp, fun a ha b hb => ?_⟩
    rcases List.mem_singleton.mp hb with rfl
    rintro rfl
    exact nc ha
  · rcases List.mem_append.mp hw with hw | hw
    · exact h2 w hw
    · rcases List.mem_singleton.mp hw with rfl; simp
  · rw [e "x" (by decide), e "y" (by decide), e "x2" (by decide), e "y2" (by decide), e "text" (by decide)]
    exact ⟨h3, h4, h5, h6, h7⟩
end Gn
namespace K79
open PySem PySem.Spec PyProof.Rows L2 Cs Gn
section
variable {ns : List Int} {k n : Nat} {t : Tp} {W : Sto} {Q : D → Sto → Prop}
theorem strs_pure (ws : List String) : D.pureL (ws.map fun s => sS s) = true := pureL_iff.mpr fun d hd => by obtain ⟨c, hc, rfl⟩ := List.mem_map.mp hd; rfl
theorem words_tail {t0 : Tp} {kx ky : SK} {mk : String} {ws : List String} {J : Sto} {i : Nat} {b c o : Option D} (hw : wordsOf kx ky mk ws) (nc : "color" ∉ ws) (hl : ws.length ≤ 5) (hJ : J[i]? = some (.lst (ws.map fun s => sS s))) (ht : t.ok (n + 2))
    (h : ∀ ws t', wordsOf kx ky mk ws → ws.length ≤ 6 → t'.ok n → Q (.loc (ad W 0)) (tp (ns.map .int) t' ++ (W ++ [.lst (ws.map fun s => sS s)]))) :
    wp (exSs ⟨callF tab G (k + 1), G⟩ (d_law_words.body.drop 6) [some (.loc 2), b, c, some (.loc (ad W i)), o] (tp (ns.map .int) t ++ (W ++ J))) (retQ (tp (ns.map .int) t0 ++ W) Q) := by
  have hs : ws.length < sizeLine := by rw [sizeLine_eq]; omega
  have end_ : ∀ (vs : List String) (J : Sto) (t : Tp), wordsOf kx ky mk vs → vs.length ≤ 6 → J[i]? = some (.lst (vs.map fun s => sS s)) → t.ok (n + 1) →
      wp (exSs ⟨callF tab G (k + 1), G⟩ (d_law_words.body.drop 7) [some (.loc 2), b, c, some (.loc (ad W i)), o] (tp (ns.map .int) t ++ (W ++ J))) (retQ (tp (ns.map .int) t0 ++ W) Q) := by
    intro vs J t hv hl hJ ht
    simp [d_law_words]
    refine c_draw ht (by decide) (by decide) fun r t1 r0 r1 k1 => ?_
    by_cases e : r = 0
    · simp [e, getM_at hJ]
      refine wp_fin_tpL (set_at hJ) ?_ ?_
      · rw [← List.map_reverse]; exact strs_pure _
      · have := h vs.reverse t1 (hv.perm (List.reverse_perm vs).symm) (by simpa using hl) k1
        simpa using this
    · simp [e]
      exact wp_fin_tpL hJ (strs_pure _) (h vs t1 hv hl k1)
  rw [show d_law_words.body.drop 6 = (d_law_words.body.drop 6).take 1 ++ d_law_words.body.drop 7 from rfl]
  simp [d_law_words]
  refine c_draw ht (by decide) (by decide) fun r t1 r0 r1 k1 => ?_
  by_cases e : r = 0
  · simp [e, getM_at hJ, getL_at hJ, hs]
    have := end_ (ws ++ ["color"]) (J.set i (.lst ((ws ++ ["color"]).map fun s => sS s))) t1 (hw.color nc) (by simp; omega) (set_at hJ) k1
    simpa [d_law_words] using this
  · simp [e]
    have := end_ ws J t1 hw (by omega) hJ k1
    simpa [d_law_words] using this
theorem c_words {kx ky kc : SK} {mk : String} {kl : Nat} (hmk : Mark mk) (hbar : mk = "bar" → kx = .lin ∨ ky = .lin) (hk : LAt W kl [sS kx.s, sS ky.s, sS kc.s]) (ht : t.ok (n + 5))
    (h : ∀ ws t', wordsOf kx ky mk ws → ws.length ≤ 6 → t'.ok n → Q (.loc (ad W 0)) (tp (ns.map .int) t' ++ (W ++ [.lst (ws.map fun s => sS s)]))) :
    wp (callF tab G (k + 2) "_law_words" [.loc 2, sS mk, .loc kl] (tp (ns.map .int) t ++ W)) Q := by
  rw [callF_succ (by decide) rfl]
  refine wp_run rfl rfl ?_
  have T := fun (t1 : Tp) (ws : List String) (J : Sto) (i : Nat) (o : Option D) (hw : wordsOf kx ky mk ws) (nc : "color" ∉ ws) (hl : ws.length ≤ 5) (hJ : J[i]? = some (.lst (ws.map fun s => sS s))) (ht : t1.ok (n + 2)) =>
    words_tail (k := k) (t0 := t) (b := some (sS mk)) (c := some (.loc kl)) (o := o) hw nc hl hJ ht h
  rw [show d_law_words.body = d_law_words.body.take 6 ++ d_law_words.body.drop 6 from rfl]
  rcases hmk with rfl | rfl | rfl | rfl | rfl
  · have := T t ["x", "y"] [.lst [sS "x", sS "y"]] 0 none (by simp [Gn.wordsOf]) (by decide) (by decide) rfl (ht.mono (by omega))
    simp [d_law_words, start', ofString_inj] at this ⊢
    exact this
  · have hx : kx.s = "linear" ↔ kx = .lin := by
      cases kx with
      | lin => simp [SK.s]
      | band kd => cases kd <;> simp [SK.s, Kd.s]
    have hy : ky.s = "linear" ↔ ky = .lin := by
      cases ky with
      | lin => simp [SK.s]
      | band kd => cases kd <;> simp [SK.s, Kd.s]
    have hb := hbar rfl
    have i0 := fun t1 J => hk.iopA (sc := ns.map .int) t1 0 J
    have i1 := fun t1 J => hk.iopA (sc := ns.map .int) t1 1 J
    have fin_ : ∀ (t1 : Tp) (ws : List String), t1.ok (n + 2) → (ws = ["x", "y"] ∨ ws = ["x", "y", "x2"] ∨ ws = ["x", "y", "y2"] ∨ ws = ["x", "y", "x2", "y2"]) → (kx = .lin → ky = .lin → "x2" ∈ ws) → ("x2" ∈ ws → kx = .lin) → ("y2" ∈ ws → ky = .lin) →
        wp (exSs ⟨callF tab G (k + 1), G⟩ (d_law_words.body.drop 6) [some (.loc 2), some (sS "bar"), some (.loc kl), some (.loc (ad W 0)), none] (tp (ns.map .int) t1 ++ (W ++ [.lst (ws.map fun s => sS s)]))) (retQ (tp (ns.map .int) t ++ W) Q) := by
      intro t1 ws ht1 hws h1 h2 h3
      refine T t1 ws [.lst (ws.map fun s => sS s)] 0 none ?_ ?_ ?_ rfl ht1
      · refine ⟨?_, ?_, ?_, by simp, by simp, by simp, fun _ => ⟨h2, h3, h1, hb⟩⟩ <;> rcases hws with rfl | rfl | rfl | rfl <;> simp
      · rcases hws with rfl | rfl | rfl | rfl <;> decide
      · rcases hws with rfl | rfl | rfl | rfl <;> decide
    have step2 : ∀ (t1 : Tp) (ws : List String), t1.ok (n + 3) → (ws = ["x", "y"] ∨ ws = ["x", "y", "x2"]) → (kx = .lin → ky = .lin → "x2" ∈ ws) → ("x2" ∈ ws → kx = .lin) →
        wp (exSs ⟨callF tab G (k + 1), G⟩ (d_law_words.body.drop 3) [some (.loc 2), some (sS "bar"), some (.loc kl), some (.loc (ad W 0)), none] (tp (ns.map .int) t1 ++ (W ++ [.lst (ws.map fun s => sS s)]))) (retQ (tp (ns.map .int) t ++ W) Q) := by
      intro t1 ws ht1 hws h1 h2
      have hl : ws.length < sizeLine := by rw [sizeLine_eq]; rcases hws with rfl | rfl <;> decide
      have f0 := fin_ t1 ws (ht1.mono (by omega)) (by rcases hws with rfl | rfl <;> simp) h1 h2 (by rcases hws with rfl | rfl <;> simp)
      by_cases ey : ky = .lin
      · have ly : ky.s = "linear" := hy.mpr ey
        simp [d_law_words, ofString_inj, i1, atI_1, ly] at f0 ⊢
        refine c_draw ht1 (by decide) (by decide) fun r t2 r0 r1 k2 => ?_
        by_cases e : r = 0
        · have f1 := fin_ t2 (ws ++ ["y2"]) k2 (by rcases hws with rfl | rfl <;> simp) (fun a b => by simp [h1 a b]) (by simpa using h2) (fun _ => ey)
          simp [d_law_words, ofString_inj] at f1
          simp [e, hl, ofString_inj]
          exact f1
        · have f1 := fin_ t2 ws k2 (by rcases hws with rfl | rfl <;> simp) h1 h2 (fun _ => ey)
          simp [d_law_words, ofString_inj] at f1
          simp [e, ofString_inj]
          exact f1
      · have ly : ¬ ky.s = "linear" := fun z => ey (hy.mp z)
        simp [d_law_words, ofString_inj, i1, atI_1, ly] at f0 ⊢
        exact f0
    have s0 := step2 t ["x", "y"] (ht.mono (by omega)) (by simp)
    by_cases ex : kx = .lin
    · have lx : kx.s = "linear" := hx.mpr ex
      by_cases ey : ky = .lin
      · have ly : ky.s = "linear" := hy.mpr ey
        have s1 := step2 t ["x", "y", "x2"] (ht.mono (by omega)) (by simp) (by simp) (fun _ => ex)
        simp [d_law_words, start', ofString_inj, i0, i1, atI_0, atI_1, lx, ly, sizeLine_eq] at s1 ⊢
        exact s1
      · have ly : ¬ ky.s = "linear" := fun z => ey (hy.mp z)
        simp [d_law_words, start', ofString_inj, i0, i1, atI_0, atI_1, lx, ly]
        refine c_draw ht (by decide) (by decide) fun r t2 r0 r1 k2 => ?_
        by_cases e : r = 0
        · have s1 := step2 t2 ["x", "y", "x2"] (k2.mono (by omega)) (by simp) (by simp) (fun _ => ex)
          simp [d_law_words, ofString_inj, i0, i1, atI_0, atI_1, lx, ly] at s1
          simp [e, ofString_inj, sizeLine_eq, i0, i1, atI_0, atI_1, lx, ly]
          exact s1
        · have s1 := step2 t2 ["x", "y"] (k2.mono (by omega)) (by simp) (fun _ z => absurd z ey) (by simp)
          simp [d_law_words, ofString_inj, i0, i1, atI_0, atI_1, lx, ly] at s1
          simp [e, ofString_inj, i0, i1, atI_0, atI_1, lx, ly]
          exact s1
    · have lx : ¬ kx.s = "linear" := fun z => ex (hx.mp z)
      have s1 := s0 (fun z => absurd z ex) (by simp)
      simp [d_law_words, start', ofString_inj, i0, i1, atI_0, atI_1, lx] at s1 ⊢
      exact s1
  · simp [d_law_words, start', ofString_inj]
    refine c_draw ht (by decide) (by decide) fun r t1 r0 r1 k1 => ?_
    by_cases e : r = 0
    · have := T t1 ["x", "y", "detail"] [.lst [sS "x", sS "y", sS "detail"]] 0 none (by simp [Gn.wordsOf]) (by decide) (by decide) rfl (k1.mono (by omega))
      simp [d_law_words, start', ofString_inj] at this
      simp [e, ofString_inj, sizeLine_eq]
      exact this
    · have := T t1 ["x", "y"] [.lst [sS "x", sS "y"]] 0 none (by simp [Gn.wordsOf]) (by decide) (by decide) rfl (k1.mono (by omega))
      simp [d_law_words, start', ofString_inj] at this
      simp [e, ofString_inj]
      exact this
  · simp [d_law_words, start', ofString_inj]
    refine c_draw ht (by decide) (by decide) fun r t1 r0 r1 k1 => ?_
    have rest := fun (ws : List String) (i : Nat) (hw : Gn.wordsOf kx ky "rule" ws) (nc : "color" ∉ ws) (hl : ws.length ≤ 5) (hJ : _) =>
      T t1 ws [.lst [sS "x", sS "y"], .lst [sS "x"], .lst [sS "y"], .lst [sS "x", sS "y"], .lst [sS "x", sS "y", sS "x2"], .lst [sS "x", sS "y", sS "y2"], .lst [sS "x", sS "y", sS "x2", sS "y2"], .lst [.loc (ad W 1), .loc (ad W 2), .loc (ad W 3), .loc (ad W 4), .loc (ad W 5), .loc (ad W 6)]] i (some (.loc (ad W 7))) hw nc hl hJ (k1.mono (by omega))
    simp
    refine wp_atI r0 r1 fun x hx => ?_
    simp at hx
    rcases hx with rfl | rfl | rfl | rfl | rfl | rfl
    · have := rest ["x"] 1 (by simp [Gn.wordsOf]) (by decide) (by decide) rfl
      simp [d_law_words, start', ofString_inj] at this ⊢
      exact this
    · have := rest ["y"] 2 (by simp [Gn.wordsOf]) (by decide) (by decide) rfl
      simp [d_law_words, start', ofString_inj] at this ⊢
      exact this
    · have := rest ["x", "y"] 3 (by simp [Gn.wordsOf]) (by decide) (by decide) rfl
      simp [d_law_words, start', ofString_inj] at this ⊢
      exact this
    · have := rest ["x", "y", "x2"] 4 (by simp [Gn.wordsOf]) (by decide) (by decide) rfl
      simp [d_law_words, start', ofString_inj] at this ⊢
      exact this
    · have := rest ["x", "y", "y2"] 5 (by simp [Gn.wordsOf]) (by decide) (by decide) rfl
      simp [d_law_words, start', ofString_inj] at this ⊢
      exact this
    · have := rest ["x", "y", "x2", "y2"] 6 (by simp [Gn.wordsOf]) (by decide) (by decide) rfl
      simp [d_law_words, start', ofString_inj] at this ⊢
      exact this
  · have := T t ["x", "y", "text"] [.lst [sS "x", sS "y", sS "text"]] 0 none (by simp [Gn.wordsOf]) (by decide) (by decide) rfl (ht.mono (by omega))
    simp [d_law_words, start', ofString_inj, sizeLine_eq] at this ⊢
    exact this
end
end K79

set_option Elab.async false
set_option linter.all false
set_option maxRecDepth 100000
namespace Gn
open PySem PySem.Spec PyProof.Rows L2 Cs
theorem cols_pure (cs : List Col) : D.pureL (cs.map Col.d) = true := pureL_iff.mpr fun d hd => by obtain ⟨c, hc, rfl⟩ := List.mem_map.mp hd; rfl
theorem keys_pure (cs : Keys) : D.pureL (cs.map keyD) = true := pureL_iff.mpr fun d hd => by obtain ⟨c, hc, rfl⟩ := List.mem_map.mp hd; rfl
@[simp] theorem Tr.pure (t : Tr) : t.d.pure = true := by
  cases t <;> simp [Tr.d, D.pure, D.pureL, keys_pure]
  · exact pureL_iff.mpr fun d hd => by obtain ⟨c, hc, rfl⟩ := List.mem_map.mp hd; rfl
  · exact pureL_iff.mpr fun d hd => by obtain ⟨c, hc, rfl⟩ := List.mem_map.mp hd; rfl
theorem trs_pure (ts : List Tr) : D.pureL (ts.map Tr.d) = true := pureL_iff.mpr fun d hd => by obtain ⟨c, hc, rfl⟩ := List.mem_map.mp hd; exact Tr.pure c
/-- the columns of numbers -/
abbrev nums (cs : List Col) : List Col := cs.filter fun c => decide (c.kd = .num)
theorem Cols.nums {cs : List Col} (h : Cols cs) : ∃ c rest, nums cs = c :: rest ∧ c ∈ cs ∧ c = ⟨c.nm, .num⟩ := by
  obtain ⟨c, hc, hk⟩ := h.num
  cases e : Gn.nums cs with
  | nil =>
    have : c ∈ Gn.nums cs := List.mem_filter.mpr ⟨hc, by simpa using hk⟩
    rw [e] at this; cases this
  | cons a l =>
    have : a ∈ Gn.nums cs := by rw [e]; exact List.mem_cons_self ..
    obtain ⟨h1, h2⟩ := List.mem_filter.mp this
    simp at h2
    refine ⟨a, l, rfl, h1, ?_⟩
    cases a; simp at h2; simp [h2]
def LowHigh (cs : List Col) : Prop := ⟨"low", .num⟩ ∈ cs → ⟨"high", .num⟩ ∈ cs
theorem kd_num (k : Kd) : (Str.ofString k.s = Str.ofString "number") ↔ k = .num := by cases k <;> simp [Kd.s, ofString_inj]
end Gn
namespace K79
open PySem PySem.Spec PyProof.Rows L2 Cs Gn
section
variable {ns : List Int} {k n : Nat} {t : Tp} {W : Sto} {Q : D → Sto → Prop}
inductive KeysI (ns : List Int) (W : Sto) (cs : List Col) (m : Int) (n : Nat) : List D → Ev → Sto → Prop where
  | mk {xs : List D} {t : Tp} {acc : Keys} {o : Option D} (ht : t.ok (n + 2 * xs.length)) (hk : ∀ k ∈ acc, ∃ c ∈ cs, c.nm = k.1) (hl : acc.length + xs.length ≤ 2) :
    KeysI ns W cs m n xs [some (.loc 2), some (colsD cs), some (keysD acc), o] (tp (ns.map .int) t ++ W)
theorem c_keys {cs : List Col} (hc : Cols cs) (ht : t.ok (n + 5)) (h : ∀ ks t', KeysOk cs ks → t'.ok n → Q (keysD ks) (tp (ns.map .int) t' ++ W)) :
    wp (callF tab G (k + 2) "_law_keys" [.loc 2, colsD cs] (tp (ns.map .int) t ++ W)) Q := by
  rw [callF_succ (by decide) rfl]
  refine wp_run rfl rfl ?_
  have l0 := hc.l0
  have l1 := hc.len
  simp [d_law_keys, start']
  refine c_draw (n := n + 4) ht (by decide) (by decide) fun r t1 r0 r1 k1 => ?_
  simp [items_rng (show smallI r from ⟨by omega, by omega⟩)]
  refine wp_forL (I := KeysI ns W cs r n) ?_ ?_ ?_ _ _ _ (.mk (acc := []) (k1.mono (by rw [rngD_len]; omega)) (by simp) (by rw [rngD_len]; simp; omega))
  · intros; exact still_nil _
  · rintro x xs env S ⟨ht, hk, hl⟩
    rename_i t2 acc o
    refine ⟨_, rfl, ?_⟩
    simp
    refine c_draw (n := n + 2 * xs.length + 1) (ht.mono (by simp; omega)) (by omega) (by omega) fun j t3 j0 j1 k3 => ?_
    simp
    refine wp_atI j0 (by simpa using j1) fun y hy => ?_
    obtain ⟨c, hcm, rfl⟩ := List.mem_map.mp hy
    simp [Col.d, atI_0]
    refine c_draw k3 (by decide) (by decide) fun b t4 b0 b1 k4 => ?_
    simp at hl
    have eb := bop_tup (a := acc.map Gn.keyD) (b := [.tup [sS c.nm, .bl (decide (b = 1))]]) (by rw [sizeLine_eq]; simp; omega)
    simp [eb]
    have := KeysI.mk (ns := ns) (W := W) (cs := cs) (m := r) (n := n) (xs := xs) (t := t4) (acc := acc ++ [(c.nm, decide (b = 1))]) (o := some x) k4 ?_ (by simp; omega)
    · simpa [keysD, Gn.keyD] using this
    · intro k' hk'
      rcases List.mem_append.mp hk' with q | q
      · exact hk k' q
      · rcases List.mem_singleton.mp q with rfl
        exact ⟨c, hcm, rfl⟩
  · rintro env S ⟨ht, hk, hl⟩
    simp
    exact wp_fin_tp0 (by simp [D.pure, keys_pure]) (h _ _ ⟨by simpa using hl, hk⟩ (ht.mono (by omega)))
/-! ### transforms -/
theorem numcol {cs : List Col} (hc : Cols cs) {w : Watch} {tg : Nat} {env : Ev} {S S0 : Sto} {n0 : Nat} {c : Cfg} {Q : Unit → Sto → Prop} (eS : S = S0 ++ [.lst []]) (en : n0 = S0.length) (hw : ∀ acc, still w (S0 ++ [.lst acc])) (he : tg < env.length)
    (h : ∀ nm rest, ⟨nm, .num⟩ ∈ cs → Q () (S0 ++ [.lst (sS nm :: rest)])) :
    wp (lcL (fun env S => tst (evE c (.cmp .eq (.idx (.var tg) (.cn (.int 1))) (.cn (.str "number"))) env S)) (evE c (.idx (.var tg) (.cn (.int 0)))) w (.v tg) n0 env (cs.map Col.d) S) Q := by
  refine wp_lc_pure (S0 := S0) Col.d (fun c => decide (c.kd = .num)) (fun c => sS c.nm) eS en hw (by rw [sizeLine_eq]; have := hc.len; omega) (fun a ha acc => ⟨_, rfl, ?_⟩) ?_
  · have ev : ∀ S, evVar tg (env.set tg (some (.tup [sS a.nm, sS a.kd.s]))) S = some (.tup [sS a.nm, sS a.kd.s], S) := fun S => by unfold evVar; rw [List.getElem?_set_self he]
    simp [ev, Col.d, atI_0, atI_1, kd_num]
  · obtain ⟨c, rest, e, hm, ec⟩ := hc.nums
    show Q () (S0 ++ [.lst ((nums cs).map fun c => sS c.nm)])
    rw [e]
    exact h c.nm _ (by rw [← ec]; exact hm)
theorem raw_nm {cs : List Col} (h : Raw cs) {s : String} (hs : s ≠ "a" ∧ s ≠ "total" ∧ s ≠ "Region_2" ∧ s ≠ "b" ∧ s ≠ "a1") : ∀ c ∈ cs, c.nm ≠ s := by
  intro c hc e
  rcases h.nm c hc with q | q | q | q | q <;> rw [q] at e <;> simp [← e] at hs
theorem cols_add {cs es : List Col} (h : Cols cs) (hl : cs.length ≤ 4) (hd : ∀ e ∈ es, ∀ c ∈ cs, c.nm ≠ e.nm) (nd : (es.map (·.nm)).Nodup) (he : es.length ≤ 2) (hn : ∀ e ∈ es, e.nm.length ≤ 12) : Cols (cs ++ es) := by
  refine ⟨?_, ?_, ?_, ?_, ?_⟩
  · rw [List.map_append, List.nodup_append]
    refine ⟨h.nd, nd, fun a ha b hb => ?_⟩
    obtain ⟨c, hc, rfl⟩ := List.mem_map.mp ha
    obtain ⟨e, he, rfl⟩ := List.mem_map.mp hb
    exact hd e he c hc
  · obtain ⟨c, hc, hk⟩ := h.num
    exact ⟨c, List.mem_append_left _ hc, hk⟩
  · have := h.l0; simp; omega
  · simp; omega
  · intro c hc
    rcases List.mem_append.mp hc with q | q
    · exact h.nl c q
    · exact hn c q
theorem c_first {cs : List Col} (hr : Raw cs) (ht : t.ok (n + 12)) (h : ∀ ts cs' t', Trs cs ts cs' → Cols cs' → LowHigh cs' → ts.length ≤ 1 → t'.ok n → Q (.loc (ad W 0)) (tp (ns.map .int) t' ++ (W ++ [.lst [trsD ts, colsD cs']]))) :
    wp (callF tab G (k + 3) "_law_first_transform" [.loc 2, colsD cs] (tp (ns.map .int) t ++ W)) Q := by
  rw [callF_succ (by decide) rfl]
  refine wp_run rfl rfl ?_
  have hc := hr.ok
  have l0 := hc.l0
  have l1 := hr.len
  simp [d_law_first_transform, start']
  refine numcol (S0 := tp (ns.map .int) t ++ W) hc (by simp) (by simp) (fun _ => still_nil _) (by simp [wipeE, Tg.slots]) fun nm rest hnm => ?_
  simp [atI_0]
  refine c_draw (n := n + 11) ht (by decide) (by decide) fun f t1 f0 f1 k1 => ?_
  have done : ∀ (ts : List Tr) (cs' : List Col) (t2 : Tp) (J : Sto) (i : Nat), Trs cs ts cs' → Cols cs' → LowHigh cs' → ts.length ≤ 1 → t2.ok n → J[i]? = some (.lst [trsD ts, colsD cs']) → wp (fin (tp (ns.map .int) t ++ W) (.loc (ad W i), tp (ns.map .int) t2 ++ (W ++ J))) Q := by
    intro ts cs' t2 J i h1 h2 hlh h3 h4 h5
    refine wp_fin_tpL h5 ?_ (h ts cs' t2 h1 h2 hlh h3 h4)
    simp [D.pureL, D.pure, trs_pure, cols_pure]
  have one : ∀ {tr : Tr}, tr.Ok cs → Trs cs [tr] (tr.cols cs) := fun ok => Trs.snoc (ts := []) .nil ok
  have hT : ∀ c ∈ cs, c.nm ≠ "twice" := raw_nm hr (by decide)
  have hL : ∀ c ∈ cs, c.nm ≠ "low" := raw_nm hr (by decide)
  have hH : ∀ c ∈ cs, c.nm ≠ "high" := raw_nm hr (by decide)
  have hS : ∀ c ∈ cs, c.nm ≠ "sum_up" := raw_nm hr (by decide)
  have hM : ∀ c ∈ cs, c.nm ≠ "many" := raw_nm hr (by decide)
  have clh : Cols (cs ++ [⟨"low", .num⟩, ⟨"high", .num⟩]) := cols_add hc l1 (by
    intro e he c hcm
    simp at he
    rcases he with rfl | rfl
    · exact hL c hcm
    · exact hH c hcm) (by decide) (by decide) (by decide)
  have lh0 : LowHigh cs := fun z => absurd rfl (hL _ z)
  by_cases c0 : f = 0
  · simp [c0]
    refine c_draw (n := n + 10) k1 (by decide) (by decide) fun r t2 r0 r1 k2 => ?_
    simp
    refine wp_atI r0 r1 fun x hx => ?_
    obtain ⟨sg, rfl, hsg⟩ : ∃ s : String, x = sS s ∧ Sg s := by simp at hx; rcases hx with rfl | rfl | rfl <;> exact ⟨_, rfl, by simp [Sg]⟩
    refine c_number (n := n + 6) k2 fun p q t3 hf k3 => ?_
    simp
    exact done [.filter sg nm p q] cs _ _ _ (one (.filter hsg hnm hf)) hc lh0 (by simp) (k3.mono (by omega)) rfl
  by_cases c1 : f = 1
  · simp [c1]
    refine c_keys (n := n + 6) hc k1 fun ks t2 hk k2 => ?_
    simp
    exact done [.sort ks] cs _ _ _ (one (.sort hk)) hc lh0 (by simp) (k2.mono (by omega)) rfl
  by_cases c2 : f = 2
  · have eb := bop_tup (a := cs.map Col.d) (b := [.tup [sS "twice", sS "number"]]) (by rw [sizeLine_eq]; simp; omega)
    simp [c2, eb]
    refine done [.twice nm] (cs ++ [⟨"twice", .num⟩]) _ _ _ (one (.twice hnm hT)) ?_ (fun z => by simp at z; exact absurd rfl (hL _ z)) (by simp) (k1.mono (by omega)) (by simp [Col.d, Kd.s, Tr.d])
    exact cols_add hc l1 (by intro e he c hcm; simp at he; subst he; exact hT c hcm) (by decide) (by decide) (by decide)
  by_cases c3 : f = 3
  · simp [c3]
    refine c_draw (n := n + 10) k1 (by decide) (by decide) fun r t2 r0 r1 k2 => ?_
    simp
    exact done [.take r] cs _ _ _ (one (.take r0 (by omega))) hc lh0 (by simp) (k2.mono (by omega)) rfl
  by_cases c4 : f = 4
  · simp [c4]
    refine c_draw (n := n + 10) k1 (by omega) (by omega) fun u t2 u0 u1 k2 => ?_
    simp [cutD_drop u0, cutD_take u0]
    have eb := bop_tup (a := (cs.map Col.d).drop u.toNat) (b := (cs.map Col.d).take u.toNat) (by rw [sizeLine_eq]; simp; omega)
    have er : (cs.map Col.d).drop u.toNat ++ (cs.map Col.d).take u.toNat = (cs.drop u.toNat ++ cs.take u.toNat).map Col.d := by simp
    rw [er] at eb
    have pr : (cs.drop u.toNat ++ cs.take u.toNat).Perm cs := (List.perm_append_comm).trans (by rw [List.take_append_drop])
    generalize cs.drop u.toNat ++ cs.take u.toNat = rot at eb pr
    simp [eb]
    refine c_draw (n := n + 9) k2 (by decide) (by decide) fun v t3 v0 v1 k3 => ?_
    simp
    refine wp_atI v0 v1 fun x hx => ?_
    obtain ⟨m, rfl, m0, m2⟩ : ∃ m : Int, x = .int m ∧ 0 ≤ m ∧ m ≤ 2 := by simp at hx; rcases hx with rfl | rfl | rfl <;> exact ⟨_, rfl, by decide, by decide⟩
    have em : (rot.map Col.d).take m.toNat = (rot.take m.toNat).map Col.d := by simp
    have b1 : ∀ c ∈ rot.take m.toNat, c ∈ cs := fun c hc => pr.mem_iff.mp (List.mem_of_mem_take hc)
    have b2 : ((rot.take m.toNat).map (·.nm)).Nodup := by
      rw [List.map_take]
      exact ((pr.map _).nodup_iff.mpr hc.nd).sublist (List.take_sublist ..)
    have b3 : (rot.take m.toNat).length ≤ 2 := by rw [List.length_take]; omega
    have em2 : Cs.cutD (rot.map Col.d) none (some m) = (rot.take m.toNat).map Col.d := (cutD_take m0).trans em
    generalize rot.take m.toNat = bs at em2 b1 b2 b3
    simp [em2]
    refine wp_lc_map (S0 := tp (ns.map .int) t3 ++ (W ++ [.lst (sS nm :: rest), .lst [.int 1, .int 1, .int 2, .int 0]])) Col.d (fun c => sS c.nm) (by simp) (by simp) (fun _ => still_nil _) (by rw [sizeLine_eq]; omega) (fun a ha acc => ⟨_, rfl, ?_⟩) ?_
    · simp [Col.d, atI_0, atI_1, wipeE, Tg.slots]
    · have e3 := bop_tup (a := bs.map Col.d) (b := [.tup [sS "sum_up", sS "number"], .tup [sS "many", sS "number"]]) (by rw [sizeLine_eq]; simp; omega)
      simp [e3]
      refine done [.group bs nm] (bs ++ [⟨"sum_up", .num⟩, ⟨"many", .num⟩]) _ _ _ (one (.group hnm b1 b2 b3 hS hM)) ?_ (fun z => by simp at z; exact absurd rfl (hL _ (b1 _ z))) (by simp) (k3.mono (by omega)) (by simp [Col.d, Kd.s, Tr.d])
      refine ⟨?_, ⟨⟨"sum_up", .num⟩, by simp, rfl⟩, by simp, by simp; omega, fun c hc => ?_⟩
      · rw [List.map_append, List.nodup_append]
        refine ⟨b2, by decide, fun a ha b hb => ?_⟩
        obtain ⟨c, hc, rfl⟩ := List.mem_map.mp ha
        simp at hb
        rcases hb with rfl | rfl
        · exact hS c (b1 c hc)
        · exact hM c (b1 c hc)
      · rcases List.mem_append.mp hc with q | q
        · exact hr.ok.nl c (b1 c q)
        · simp at q
          rcases q with rfl | rfl <;> decide
  by_cases c5 : f = 5
  · simp [c5]
    refine c_draw (n := n + 10) k1 (by omega) (by omega) fun u t2 u0 u1 k2 => ?_
    simp
    refine wp_atI u0 (by simpa using u1) fun x hx => ?_
    obtain ⟨c, hcm, rfl⟩ := List.mem_map.mp hx
    simp [Col.d, atI_0]
    refine c_draw (n := n + 9) k2 (by decide) (by decide) fun v t3 v0 v1 k3 => ?_
    simp [cutD_take v0]
    obtain ⟨over, eo, ho, hl⟩ : ∃ over : List String, List.take v.toNat [sS c.nm] = over.map (fun s => sS s) ∧ (∀ s ∈ over, ∃ c ∈ cs, c.nm = s) ∧ over.length ≤ 1 := by
      by_cases e : v = 0
      · exact ⟨[], by simp [e], by simp, by simp⟩
      · have : v = 1 := by omega
        subst this
        exact ⟨[c.nm], rfl, by simp; exact ⟨c, hcm, rfl⟩, by simp⟩
    rw [eo]
    refine c_keys (n := n + 4) hc k3 fun ks t4 hk k4 => ?_
    simp
    refine c_draw (n := n + 3) k4 (by decide) (by decide) fun w t5 w0 w1 k5 => ?_
    have bf := fun i : Int => bop_fdiv (i := i) (j := 2) (divOk_small (by decide) (by decide))
    simp [bf]
    refine wp_atI (by omega) (by simp; omega) fun x hx => ?_
    have e3 := bop_tup (a := cs.map Col.d) (b := [.tup [sS "low", sS "number"], .tup [sS "high", sS "number"]]) (by rw [sizeLine_eq]; simp; omega)
    simp at hx
    rcases hx with rfl | rfl
    · simp [e3]
      exact done [.stack nm over ks] (cs ++ [⟨"low", .num⟩, ⟨"high", .num⟩]) _ _ _ (one (.stack hnm ho hl hk hL hH)) clh (fun _ => by simp) (by simp) (k5.mono (by omega)) (by simp [Col.d, Kd.s, Tr.d])
    · simp [e3]
      exact done [.bin nm] (cs ++ [⟨"low", .num⟩, ⟨"high", .num⟩]) _ _ _ (one (.bin hnm hL hH)) clh (fun _ => by simp) (by simp) (k5.mono (by omega)) (by simp [Col.d, Kd.s, Tr.d])
  · simp [c0, c1, c2, c3, c4, c5]
    exact done [] cs _ _ _ .nil hc lh0 (by decide) (k1.mono (by omega)) rfl
end
end K79

set_option Elab.async false
set_option linter.all false
set_option maxRecDepth 100000
namespace K79
open PySem PySem.Spec PyProof.Rows L2 Cs Gn
section
variable {ns : List Int} {k n : Nat} {t : Tp} {W : Sto} {Q : D → Sto → Prop}
inductive TrI (ns : List Int) (W : Sto) (cs : List Col) (n : Nat) : List D → Ev → Sto → Prop where
  | mk {xs : List D} {t : Tp} {ts : List Tr} {cs1 : List Col} {J : Sto} {i : Nat} {o1 o2 o3 o4 : Option D} (ht : t.ok (n + 12 * xs.length)) (hT : Trs cs ts cs1) (hC : Cols cs1) (hLH : LowHigh cs1) (hl : ts.length + xs.length ≤ 4) (hJ : J[i]? = some (.lst [trsD ts, colsD cs1])) :
    TrI ns W cs n xs [some (.loc 2), some (colsD cs), some (.loc (ad W i)), o1, o2, o3, o4] (tp (ns.map .int) t ++ (W ++ J))
theorem c_transforms {cs : List Col} (hr : Raw cs) (ht : t.ok (n + 50)) (h : ∀ ts cs' t', Trs cs ts cs' → Cols cs' → LowHigh cs' → ts.length ≤ 4 → t'.ok n → Q (.loc (ad W 0)) (tp (ns.map .int) t' ++ (W ++ [.lst [trsD ts, colsD cs']]))) :
    wp (callF tab G (k + 4) "_law_transforms" [.loc 2, colsD cs] (tp (ns.map .int) t ++ W)) Q := by
  rw [callF_succ (by decide) rfl]
  refine wp_run rfl rfl ?_
  simp [d_law_transforms, start']
  refine c_first (n := n + 38) hr ht fun ts cs' t1 hT hC hLH hl k1 => ?_
  simp
  refine c_draw (n := n + 37) k1 (by decide) (by decide) fun r t2 r0 r1 k2 => ?_
  simp
  refine wp_atI r0 r1 fun x hx => ?_
  obtain ⟨m, rfl, m0, m3⟩ : ∃ m : Int, x = .int m ∧ 0 ≤ m ∧ m ≤ 3 := by simp at hx; rcases hx with rfl | rfl | rfl <;> exact ⟨_, rfl, by decide, by decide⟩
  simp [items_rng (show smallI m from ⟨by omega, by omega⟩)]
  refine wp_forL (I := TrI ns W cs n) ?_ ?_ ?_ _ _ _ (.mk (i := 0) (k2.mono (by rw [rngD_len]; omega)) hT hC hLH (by rw [rngD_len]; omega) rfl)
  · intros; exact still_nil _
  · rintro x xs env S ⟨ht, hT, hC, hLH, hl, hJ⟩
    rename_i t3 ts cs1 J i o1 o2 o3 o4
    refine ⟨_, rfl, ?_⟩
    simp at hl
    have lJ := fun K => getL_at (at_app hJ K)
    have kJ := fun K => getK_at (at_app hJ K)
    simp [getL_at hJ, getK_at hJ, lJ, kJ, atI_0, atI_1]
    refine numcol (S0 := tp (ns.map .int) t3 ++ (W ++ J)) hC (by simp) (by simp) (fun _ => still_nil _) (by simp [wipeE, Tg.slots]) fun nm rest hnm => ?_
    simp [lJ, kJ, atI_0, atI_1]
    refine c_keys (n := n + 12 * xs.length + 7) hC (ht.mono (by simp; omega)) fun ks t4 hk k4 => ?_
    refine c_draw k4 (by decide) (by decide) fun u t5 u0 u1 k5 => ?_
    simp
    refine c_number (n := n + 12 * xs.length + 2) (k5.mono (by omega)) fun p q t6 hf k6 => ?_
    simp [lJ, kJ, atI_0, atI_1, sizeLine_eq]
    refine c_draw k6 (by decide) (by decide) fun v t7 v0 v1 k7 => ?_
    simp
    refine wp_atI v0 v1 fun x hx => ?_
    have e3 := fun d : D => bop_tup (a := ts.map Tr.d) (b := [d]) (by rw [sizeLine_eq]; simp; omega)
    have fin_ : ∀ (tr : Tr) K j o5 o6 o7 o8, tr.Ok cs1 → tr.cols cs1 = cs1 → K[j]? = some (.lst [trsD (ts ++ [tr]), colsD cs1]) → TrI ns W cs n xs [some (.loc 2), some (colsD cs), some (.loc (ad W (J.length + j))), o5, o6, o7, o8] (tp (ns.map .int) t7 ++ (W ++ (J ++ K))) := by
      intro tr K j o5 o6 o7 o8 ok ec hK
      refine .mk (k7.mono (by omega)) (hT.trans ok ec) hC hLH (by simp; omega) ?_
      rw [get_appS]; exact hK
    simp at hx
    rcases hx with rfl | rfl | rfl
    · simp [e3, lJ, kJ, atI_0, atI_1]
      exact fin_ (.sort ks) _ _ _ _ _ _ (.sort hk) rfl (by simp [Tr.d])
    · simp [e3, lJ, kJ, atI_0, atI_1]
      exact fin_ (.take (2 + u)) _ _ _ _ _ _ (.take (by omega) (by omega)) rfl (by simp [Tr.d])
    · simp [e3, lJ, kJ, atI_0, atI_1]
      exact fin_ (.filter "<>" nm p q) _ _ _ _ _ _ (.filter (by simp [Sg]) hnm hf) rfl (by simp [Tr.d])
  · rintro env S ⟨ht, hT, hC, hLH, hl, hJ⟩
    simp
    exact wp_fin_tpL hJ (by simp [D.pureL, D.pure, trs_pure, cols_pure]) (h _ _ _ hT hC hLH (by simpa using hl) (ht.mono (by omega)))
/-! ### the tag -/
inductive AvI (ns : List Int) (W J : Sto) (L : Int) (n : Nat) : List D → Sto → Prop where
  | mk {xs : List D} {t : Tp} {acc : List Int} {a : Int} (ht : t.ok (n + xs.length)) (hx : xs = rngD a xs.length) (ha : ∀ i ∈ acc, 0 ≤ i ∧ i < a) (nd : acc.Nodup) (a0 : 0 ≤ a) (hl : a + xs.length ≤ L) : AvI ns W J L n xs (tp (ns.map .int) t ++ (W ++ (J ++ [.lst (acc.map D.int)])))
theorem side_mem {x : D} (h : x ∈ [sS "above", sS "below", sS "left", sS "right", sS "center"]) : ∃ s : String, x = sS s ∧ Side s := by
  simp at h
  rcases h with rfl | rfl | rfl | rfl | rfl <;> exact ⟨_, rfl, by simp [Side]⟩
theorem ints_pure (l : List Int) : D.pureL (l.map D.int) = true := pureL_iff.mpr fun d hd => by obtain ⟨c, hc, rfl⟩ := List.mem_map.mp hd; rfl
theorem c_tag {cs : List Col} {mk : String} {L : Int} (hC : Cols cs) (hL0 : 0 ≤ L) (hL : L ≤ 4) (ht : t.ok (n + 16)) (h : ∀ (tg : Option Tag) t', (∀ x, tg = some x → x.Ok cs L) → (mk = "line" → tg = none) → t'.ok n → Q (tagD tg) (tp (ns.map .int) t' ++ W)) :
    wp (callF tab G (k + 3) "_law_tag" [.loc 2, sS mk, colsD cs, .int L] (tp (ns.map .int) t ++ W)) Q := by
  rw [callF_succ (by decide) rfl]
  refine wp_run rfl rfl ?_
  have l0 := hC.l0
  have l1 := hC.len
  simp [d_law_tag, start', ofString_inj]
  by_cases e : mk = "line"
  · simp [e]
    exact wp_fin_tp0 rfl (h none _ (fun _ z => by cases z) (fun _ => rfl) (ht.mono (by omega)))
  simp [e]
  refine c_draw (n := n + 15) ht (by decide) (by decide) fun r t1 r0 r1 k1 => ?_
  by_cases e2 : r = 0
  · simp [e2]
    exact wp_fin_tp0 rfl (h none _ (fun _ z => by cases z) (fun _ => rfl) (k1.mono (by omega)))
  simp [e2]
  refine c_draw (n := n + 14) k1 (by decide) (by decide) fun r t2 r0 r1 k2 => ?_
  simp
  refine wp_atI r0 r1 fun x hx => ?_
  obtain ⟨s1, rfl, hs1⟩ := side_mem hx
  simp [items_rng (show smallI L from ⟨by omega, by omega⟩)]
  have st := AvI.mk (ns := ns) (W := W) (J := [.lst [sS "above", sS "below", sS "left", sS "right", sS "center"]]) (L := L) (n := n + 10) (xs := rngD 0 L.toNat) (t := t2) (acc := []) (a := 0) (k2.mono (by rw [rngD_len]; omega)) (by rw [rngD_len]) (by simp) .nil (by omega) (by rw [rngD_len]; omega)
  refine wp_lcL (I := AvI ns W [.lst [sS "above", sS "below", sS "left", sS "right", sS "center"]] L (n + 10)) ?_ ?_ ?_ _ _ (by simpa using st)
  · intros; exact still_nil _
  · rintro x xs S ⟨ht, hx, ha, nd, a0, hl⟩
    rename_i t3 acc a
    obtain ⟨rfl, hx, _⟩ := rng_cons hx
    refine ⟨_, rfl, ?_⟩
    simp at hl
    simp [wipeE, Tg.slots]
    refine c_draw (n := n + 10 + xs.length) (ht.mono (by simp; omega)) (by decide) (by decide) fun b t4 b0 b1 k4 => ?_
    by_cases e3 : b = 0
    · have la : acc.length ≤ a := by
        have : ∀ (l : List Int) (a : Nat), l.Nodup → (∀ i ∈ l, 0 ≤ i ∧ i < (a : Int)) → l.length ≤ a := by
          intro l a nd h
          have q := List.Nodup.length_le_of_subset (l₁ := l) (l₂ := (List.range a).map fun i : Nat => (i : Int)) nd fun x hx => by
            obtain ⟨h0, h1⟩ := h x hx
            exact List.mem_map.mpr ⟨x.toNat, List.mem_range.mpr (by omega), by omega⟩
          simpa using q
        have := this acc a.toNat nd fun i hi => by have := ha i hi; omega
        omega
      simp [e3]
      refine ⟨by rw [sizeLine_eq]; omega, ?_⟩
      have := AvI.mk (ns := ns) (W := W) (J := [.lst [sS "above", sS "below", sS "left", sS "right", sS "center"]]) (L := L) (n := n + 10) (xs := xs) (t := t4) (acc := acc ++ [a]) (a := a + 1) k4 hx ?_ ?_ (by omega) (by omega)
      · simpa using this
      · intro i hi
        rcases List.mem_append.mp hi with q | q
        · have := ha i q; omega
        · rcases List.mem_singleton.mp q with rfl; omega
      · rw [List.nodup_append]
        refine ⟨nd, by simp, fun i hi j hj => ?_⟩
        rcases List.mem_singleton.mp hj with rfl
        have := ha i hi; omega
    · simp [e3]
      have := AvI.mk (ns := ns) (W := W) (J := [.lst [sS "above", sS "below", sS "left", sS "right", sS "center"]]) (L := L) (n := n + 10) (xs := xs) (t := t4) (acc := acc) (a := a + 1) k4 hx (fun i hi => by have := ha i hi; omega) nd (by omega) (by omega)
      simpa using this
  · rintro S ⟨ht, hx, ha, nd, a0, hl⟩
    rename_i t3 acc a
    simp
    have rest : ∀ (t4 : Tp) (av : List Int), t4.ok (n + 9) → (∀ i ∈ av, 0 ≤ i ∧ i < L) → av.Nodup →
        wp (exSs ⟨callF tab G (k + 2), G⟩ (d_law_tag.body.drop 5) [some (.loc 2), some (sS mk), some (colsD cs), some (.int L), some (.loc (ad W 0)), some (sS s1), some (.loc (ad W 1)), none, none] (tp (ns.map .int) t4 ++ (W ++ [.lst [sS "above", sS "below", sS "left", sS "right", sS "center"], .lst (av.map D.int)]))) (retQ (tp (ns.map .int) t ++ W) Q) := by
      intro t4 av k4 hav nda
      simp [d_law_tag]
      refine c_draw (n := n + 8) k4 (by omega) (by omega) fun u t5 u0 u1 k5 => ?_
      simp
      refine wp_atI u0 (by simpa using u1) fun x hx => ?_
      obtain ⟨c, hcm, rfl⟩ := List.mem_map.mp hx
      simp [Col.d, atI_0]
      refine c_keys (n := n + 3) hC k5 fun ks t6 hk k6 => ?_
      try simp
      refine c_draw (n := n + 2) k6 (by decide) (by decide) fun r t7 r0 r1 k7 => ?_
      simp
      refine wp_atI r0 r1 fun x hx => ?_
      obtain ⟨s2, rfl, hs2⟩ := side_mem hx
      simp
      refine wp_fin_tp (by simp [D.pure, D.pureL, keys_pure, ints_pure]) (h (some ⟨c.nm, ks, s1, s2, av⟩) _ (fun _ z => ?_) (fun z => absurd z e) (k7.mono (by omega)))
      cases z
      exact ⟨⟨c, hcm, rfl⟩, hk, hs1, hs2, hav, nda⟩
    have hav : ∀ i ∈ acc, 0 ≤ i ∧ i < L := fun i hi => by have := ha i hi; simp at hl; omega
    refine c_draw (n := n + 9) ht (by decide) (by decide) fun b t4 b0 b1 k4 => ?_
    by_cases e3 : b = 0
    · have := rest t4 acc.reverse k4 (fun i hi => hav i (List.mem_reverse.mp hi)) ((List.reverse_perm acc).nodup_iff.mpr nd)
      simp [d_law_tag] at this
      simp [e3]
      exact this
    · have := rest t4 acc k4 hav nd
      simp [d_law_tag] at this
      simp [e3]
      exact this
end
end K79

set_option Elab.async false
set_option linter.all false
set_option maxRecDepth 100000
namespace Gn
open PySem PySem.Spec PyProof.Rows L2 Cs
theorem ix_x (S : Sto) : mSindex (sS "xy") [sS "x"] S = some (.int 0, S) := by
  have e : Builtin.Str.occurrences (Str.ofString "xy") (Str.ofString "x") 0 (Str.ofString "xy").length 1 = [0] := by decide +kernel
  simp only [mSindex, e]; rfl
theorem ix_y (S : Sto) : mSindex (sS "xy") [sS "y"] S = some (.int 1, S) := by
  have e : Builtin.Str.occurrences (Str.ofString "xy") (Str.ofString "y") 0 (Str.ofString "xy").length 1 = [1] := by decide +kernel
  simp only [mSindex, e]; rfl
theorem w_x (S : Sto) : iop (sS "x") (.int 0) S = some (sS "x", S) := by rfl
theorem w_x2 (S : Sto) : iop (sS "x2") (.int 0) S = some (sS "x", S) := by rfl
theorem w_y (S : Sto) : iop (sS "y") (.int 0) S = some (sS "y", S) := by rfl
theorem w_y2 (S : Sto) : iop (sS "y2") (.int 0) S = some (sS "y", S) := by rfl
theorem w_color (S : Sto) : iop (sS "color") (.int 0) S = some (sS "c", S) := by rfl
theorem w_text (S : Sto) : iop (sS "text") (.int 0) S = some (sS "t", S) := by rfl
theorem w_detail (S : Sto) : iop (sS "detail") (.int 0) S = some (sS "d", S) := by rfl
def ChOk (kx ky kc : SK) (cs1 : List Col) (c : String × Src) : Prop := ∃ k, c.2.Ok cs1 k ∧ ∀ k', wordKd kx ky kc c.1 = some k' → k' = k
theorem chs_pure {kx ky kc : SK} {cs1 : List Col} {chs : List (String × Src)} (h : ∀ c ∈ chs, ChOk kx ky kc cs1 c) : D.pureL (chs.map chD) = true := pureL_iff.mpr fun d hd => by
  obtain ⟨c, hc, rfl⟩ := List.mem_map.mp hd
  obtain ⟨k, ok, _⟩ := h c hc
  have : c.2.d.pure = true := by
    cases e : c.2 with
    | col _ => rfl
    | con v =>
      rw [e] at ok
      cases ok with
      | con h => simp [Src.d, D.pure, D.pureL, h.nc.pure]
  simp [chD, D.pure, D.pureL, this]
end Gn
namespace K79
open PySem PySem.Spec PyProof.Rows L2 Cs Gn
section
variable {ns : List Int} {k n : Nat} {t : Tp} {W : Sto} {Q : D → Sto → Prop}
/-! ### the channels -/
inductive ChI (ns : List Int) (W : Sto) (kx ky kc : SK) (mk : String) (kl : Nat) (cs : List Col) (ws : List String) (n : Nat) : List D → Ev → Sto → Prop where
  | mk {rest : List String} {t : Tp} {acc : List (String × Src)} {o1 o2 : Option D} (ht : t.ok (n + 10 * rest.length)) (hw : ws = acc.map (·.1) ++ rest) (ha : ∀ c ∈ acc, ChOk kx ky kc cs c) :
    ChI ns W kx ky kc mk kl cs ws n (rest.map fun s => sS s) [some (.loc 2), some (sS mk), some (.loc kl), some (colsD cs), some (chsD acc), o1, o2] (tp (ns.map .int) t ++ (W ++ [.lst (ws.map fun s => sS s)]))
theorem c_channels {kx ky kc : SK} {mk : String} {kl : Nat} {cs : List Col} (hC : Cols cs) (hmk : Mark mk) (hbar : mk = "bar" → kx = .lin ∨ ky = .lin) (hk : LAt W kl [sS kx.s, sS ky.s, sS kc.s]) (ht : t.ok (n + 65))
    (h : ∀ chs t', Gn.wordsOf kx ky mk (chs.map (·.1)) → (∀ c ∈ chs, ChOk kx ky kc cs c) → t'.ok n → Q (chsD chs) (tp (ns.map .int) t' ++ W)) :
    wp (callF tab G (k + 5) "_law_channels" [.loc 2, sS mk, .loc kl, colsD cs] (tp (ns.map .int) t ++ W)) Q := by
  rw [callF_succ (by decide) rfl]
  refine wp_run rfl rfl ?_
  have l0 := hC.l0
  have l1 := hC.len
  have i0 := fun t1 J => hk.iopA (sc := ns.map .int) t1 0 J
  have i1 := fun t1 J => hk.iopA (sc := ns.map .int) t1 1 J
  have i2 := fun t1 J => hk.iopA (sc := ns.map .int) t1 2 J
  simp [d_law_channels, start']
  refine c_words (n := n + 60) hmk hbar hk ht fun ws t1 hws hlw k1 => ?_
  simp
  refine wp_forL (I := ChI ns W kx ky kc mk kl cs ws n) ?_ ?_ ?_ _ _ _ (.mk (acc := []) (k1.mono (by omega)) (by simp) (by simp))
  · rintro xs env S ⟨ht, hw, ha⟩
    exact still_one (by simp)
  · intro x xs env S I
    generalize ex : x :: xs = l at I
    obtain ⟨ht, hw, ha⟩ := I
    rename_i rest t2 acc o1 o2
    cases rest with
    | nil => cases ex
    | cons w rest =>
      simp only [List.map_cons, List.cons.injEq] at ex
      obtain ⟨rfl, rfl⟩ := ex
      refine ⟨_, rfl, ?_⟩
      simp at ht
      simp
      refine c_draw (n := n + 10 * rest.length + 9) (ht.mono (by omega)) (by omega) (by omega) fun j t3 j0 j1 k3 => ?_
      simp
      refine wp_atI j0 (by simpa using j1) fun y hy => ?_
      obtain ⟨c, hcm, rfl⟩ := List.mem_map.mp hy
      simp [Col.d, atI_1]
      have la : acc.length ≤ 6 := by have := congrArg List.length hw; simp at this; omega
      have next : ∀ sk : SK, (∀ k', wordKd kx ky kc w = some k' → k' = sk.kd) → wp (callF tab G (k + 4) "_law_source" [.loc 2, colsD cs, sS sk.s] (tp (ns.map .int) t3 ++ (W ++ [.lst (ws.map fun s => sS s)]))) fun a S => wp (bop .add (chsD acc) (.tup [.tup [sS w, a]]) S) fun a S =>
          ChI ns W kx ky kc mk kl cs ws n (rest.map fun s => sS s) [some (.loc 2), some (sS mk), some (.loc kl), some (colsD cs), some a, some (sS w), some (sS sk.s)] S := by
        intro sk hsk
        refine c_source (n := n + 10 * rest.length) l1 k3 fun s t4 hs k4 => ?_
        have eb := bop_tup (a := acc.map chD) (b := [.tup [sS w, s.d]]) (by rw [sizeLine_eq]; simp; omega)
        simp [eb]
        have := ChI.mk (ns := ns) (W := W) (kx := kx) (ky := ky) (kc := kc) (mk := mk) (kl := kl) (cs := cs) (ws := ws) (n := n) (rest := rest) (t := t4) (acc := acc ++ [(w, s)]) (o1 := some (sS w)) (o2 := some (sS sk.s)) k4 (by simp [hw]) ?_
        · simpa [chsD, chD] using this
        · intro c hc
          rcases List.mem_append.mp hc with q | q
          · exact ha c q
          · rcases List.mem_singleton.mp q with rfl
            exact ⟨_, hs, hsk⟩
      have hw7 : w = "x" ∨ w = "x2" ∨ w = "y" ∨ w = "y2" ∨ w = "color" ∨ w = "text" ∨ w = "detail" := by
        have : w ∈ ws := by rw [hw]; simp
        rcases hws.2.1 w this with e | e | e | e | e | e | e
        · exact .inl e
        · exact .inr (.inl e)
        · exact .inr (.inr (.inl e))
        · exact .inr (.inr (.inr (.inl e)))
        · exact .inr (.inr (.inr (.inr (.inl e))))
        · exact .inr (.inr (.inr (.inr (.inr (.inl e.1)))))
        · exact .inr (.inr (.inr (.inr (.inr (.inr e.1)))))
      rcases hw7 with rfl | rfl | rfl | rfl | rfl | rfl | rfl
      · have := next kx (by simp [wordKd])
        simp [w_x, ofString_inj, ix_x, i0, atI_0]
        exact this
      · have := next kx (by simp [wordKd])
        simp [w_x2, ofString_inj, ix_x, i0, atI_0]
        exact this
      · have := next ky (by simp [wordKd])
        simp [w_y, ofString_inj, ix_y, i1, atI_1]
        exact this
      · have := next ky (by simp [wordKd])
        simp [w_y2, ofString_inj, ix_y, i1, atI_1]
        exact this
      · have := next kc (by simp [wordKd])
        simp [w_color, ofString_inj, i2, atI_2]
        exact this
      · have := next (.band c.kd) (by simp [wordKd])
        simp [w_text, ofString_inj]
        exact this
      · have := next (.band c.kd) (by simp [wordKd])
        simp [w_detail, ofString_inj]
        exact this
  · intro env S I
    obtain ⟨acc, t2, o1, o2, k2, hw, ha, rfl, rfl⟩ : ∃ (acc : List (String × Src)) (t2 : Tp) (o1 o2 : Option D), t2.ok n ∧ ws = acc.map (·.1) ∧ (∀ c ∈ acc, ChOk kx ky kc cs c) ∧ env = [some (.loc 2), some (sS mk), some (.loc kl), some (colsD cs), some (chsD acc), o1, o2] ∧ S = tp (ns.map .int) t2 ++ (W ++ [.lst (ws.map fun s => sS s)]) := by
      generalize ex : ([] : List D) = l at I
      obtain ⟨ht, hw, ha⟩ := I
      rename_i rest t2 acc o1 o2
      cases rest with
      | nil => exact ⟨acc, t2, o1, o2, ht.mono (by omega), by simpa using hw, ha, rfl, rfl⟩
      | cons _ _ => cases ex
    simp
    exact wp_fin_tp (by simp [D.pure, chs_pure ha]) (h acc _ (hw ▸ hws) ha k2)
end
end K79

set_option Elab.async false
set_option linter.all false
set_option maxRecDepth 100000
namespace Gn
open PySem PySem.Spec PyProof.Rows L2 Cs
theorem any_strs (w : String) : ∀ ws : List String, (D.pyL (ws.map fun s => sS s)).any (fun z => PyData.eqv z (sS w).py) = decide (w ∈ ws)
  | [] => rfl
  | a :: l => by
    simp only [List.map_cons, D.pyL, List.any_cons, any_strs w l]
    have : PyData.eqv (sS a).py (sS w).py = decide (w = a) := by
      simp only [D.py, PyData.eqv, str_beq]
      rw [Bool.eq_iff_iff]; simp; exact eq_comm
    rw [this]
    by_cases e : w = a
    · simp [e]
    · simp [e]
theorem strs_nc {ws : List String} (h : ∀ w ∈ ws, w.length ≤ 100) : ∀ d ∈ ws.map (fun s => sS s), Nc 1 100 d := fun d hd => by
  obtain ⟨w, hw, rfl⟩ := List.mem_map.mp hd
  exact .lit _ (h w hw) 1
def stk (a b : String) (chs : List (String × Src)) : List (String × Src) := chs.map fun c => if c.1 = a then (a, .col "high") else if c.1 = b then (b, .col "low") else c
theorem stk_words (a b : String) (chs : List (String × Src)) : (stk a b chs).map (·.1) = chs.map (·.1) := by
  unfold stk
  rw [List.map_map]
  apply List.map_congr_left
  intro c _
  simp only [Function.comp]
  split
  · rename_i e; exact e.symm
  · split
    · rename_i e; exact e.symm
    · rfl
theorem word_len {w : String} (h : w = "x" ∨ w = "x2" ∨ w = "y" ∨ w = "y2" ∨ w = "color" ∨ w = "text" ∨ w = "detail") : w.length ≤ 100 := by
  rcases h with rfl | rfl | rfl | rfl | rfl | rfl | rfl <;> decide
theorem words7 {kx ky : SK} {m : String} {ws : List String} (h : Gn.wordsOf kx ky m ws) : ∀ w ∈ ws, w = "x" ∨ w = "x2" ∨ w = "y" ∨ w = "y2" ∨ w = "color" ∨ w = "text" ∨ w = "detail" := by
  intro w hw
  rcases h.2.1 w hw with e | e | e | e | e | e | e
  · exact .inl e
  · exact .inr (.inl e)
  · exact .inr (.inr (.inl e))
  · exact .inr (.inr (.inr (.inl e)))
  · exact .inr (.inr (.inr (.inr (.inl e))))
  · exact .inr (.inr (.inr (.inr (.inr (.inl e.1)))))
  · exact .inr (.inr (.inr (.inr (.inr (.inr e.1)))))
end Gn
namespace K79
open PySem PySem.Spec PyProof.Rows L2 Cs Gn
section
variable {ns : List Int} {k n : Nat} {t : Tp} {W : Sto} {Q : D → Sto → Prop}
inductive StI (sc : List D) (t : Tp) (W J : Sto) (a b : String) (l : Nat) (o1 : Option D) (chs : List (String × Src)) : List D → Ev → Sto → Prop where
  | mk {done rest : List (String × Src)} {o2 o3 : Option D} {K : Sto} (hw : chs = done ++ rest) : StI sc t W J a b l o1 chs (rest.map chD) [some (chsD chs), o1, some (.loc l), some (chsD (stk a b done)), o2, o3] (tp sc t ++ (W ++ (J ++ K)))
theorem stk_snoc (a b : String) (done : List (String × Src)) (c : String × Src) : stk a b (done ++ [c]) = stk a b done ++ [if c.1 = a then (a, .col "high") else if c.1 = b then (b, .col "low") else c] := by simp [stk]
theorem stk_rest {a b : String} {chs : List (String × Src)} {J : Sto} {i : Nat} {o : Option D} (hab : (a = "x" ∧ b = "x2") ∨ (a = "y" ∧ b = "y2")) (hp : D.pureL (chs.map chD) = true) (hl : chs.length ≤ 10) (hw : ∀ w ∈ chs.map (·.1), w.length ≤ 100) (hJ : J[i]? = some (.lst [sS a, sS b]))
    (h1 : b ∈ chs.map (·.1) → Q (chsD (stk a b chs)) (tp (ns.map .int) t ++ W)) (h2 : b ∉ chs.map (·.1) → Q (chsD chs) (tp (ns.map .int) t ++ W)) :
    wp (exSs ⟨callF tab G k, G⟩ (d_law_stacked.body.drop 1) [some (chsD chs), o, some (.loc (ad W i)), none, none, none] (tp (ns.map .int) t ++ (W ++ J))) (retQ (tp (ns.map .int) t ++ W) Q) := by
  have lJ := fun K => getL_at (at_app hJ K)
  have kJ := fun K => getK_at (at_app hJ K)
  have hb : b.length ≤ 100 := by rcases hab with ⟨_, rfl⟩ | ⟨_, rfl⟩ <;> decide
  have ha : a.length ≤ 100 := by rcases hab with ⟨rfl, _⟩ | ⟨rfl, _⟩ <;> decide
  have nab : a ≠ b := by rcases hab with ⟨rfl, rfl⟩ | ⟨rfl, rfl⟩ <;> decide
  have ab100 : ∀ w ∈ [a, b], w.length ≤ 100 := by simp [ha, hb]
  have dT : ∀ xs S, dkAt (.tup xs) (sS b) S = none := fun _ _ => rfl
  simp [d_law_stacked, getL_at hJ, getK_at hJ, atI_1]
  refine wp_lc_map (S0 := tp (ns.map .int) t ++ (W ++ J)) chD (fun c => sS c.1) (by simp) (by simp) (fun _ => still_nil _) (by rw [sizeLine_eq]; omega) (fun c hc acc => ⟨_, rfl, by simp, ?_⟩) ?_
  · simp [chD, atI_0, wipeE, Tg.slots]
  have en := notin_loc (S := tp (ns.map .int) t ++ (W ++ (J ++ [.lst (chs.map fun c => sS c.1)]))) (m := ad W J.length) (x := sS b) (ys := chs.map fun c => sS c.1) (n := 1) (w := 100) (.lit _ hb 1) (by simp) (by
    have := strs_nc hw
    simpa using this) (by omega)
  have ea := any_strs b (chs.map (·.1))
  simp only [List.map_map] at ea
  have ea : (D.pyL (chs.map fun c => sS c.1)).any (fun z => PyData.eqv z (sS b).py) = decide (b ∈ chs.map (·.1)) := ea
  rw [ea] at en
  simp [en]
  refine wp_fin_J (W := W ++ J) (t' := t) [.lst (chs.map fun c => sS c.1)] (by simp) rfl ?_
  by_cases hm : b ∈ chs.map (·.1)
  · have hm' : (∃ x, (b, x) ∈ chs) := by simpa using hm
    simp [hm']
    have st := StI.mk (sc := ns.map .int) (t := t) (W := W) (J := J) (a := a) (b := b) (l := ad W i) (o1 := o) (chs := chs) (done := []) (rest := chs) (o2 := none) (o3 := none) (K := []) rfl
    simp only [List.append_nil] at st
    refine wp_forL (I := StI (ns.map .int) t W J a b (ad W i) o chs) ?_ ?_ ?_ _ _ _ st
    · intros; exact still_nil _
    · intro x xs env S I
      generalize ex : x :: xs = l at I
      obtain ⟨hd⟩ := I
      rename_i done rest o2 o3 K
      cases rest with
      | nil => cases ex
      | cons c rest =>
        simp only [List.map_cons, List.cons.injEq] at ex
        obtain ⟨rfl, rfl⟩ := ex
        refine ⟨_, rfl, ?_⟩
        have hcl : c.1.length ≤ 100 := hw _ (by rw [hd]; simp)
        have hdl : done.length < 10 := by have := congrArg List.length hd; simp at this; omega
        have e1 := in_loc (S := tp (ns.map .int) t ++ (W ++ (J ++ K))) (m := ad W i) (x := sS c.1) (ys := [a, b].map fun s => sS s) (n := 1) (w := 100) (.lit _ hcl 1) (by simp [lJ]) (strs_nc ab100) (by omega)
        rw [any_strs] at e1
        have eb := fun d : D => bop_tup (a := (stk a b done).map chD) (b := [d]) (by rw [sizeLine_eq]; simp [stk]; omega)
        have nx := fun (d : D) (o3 : Option D) (K' : Sto) (ed : d = chD (if c.1 = a then (a, .col "high") else if c.1 = b then (b, .col "low") else c)) => (show StI (ns.map .int) t W J a b (ad W i) o chs (rest.map chD) [some (chsD chs), o, some (.loc (ad W i)), some (.tup ((stk a b done).map chD ++ [d])), some (chD c), o3] (tp (ns.map .int) t ++ (W ++ (J ++ K'))) from by
          have := StI.mk (sc := ns.map .int) (t := t) (W := W) (J := J) (a := a) (b := b) (l := ad W i) (o1 := o) (chs := chs) (done := done ++ [c]) (rest := rest) (o2 := some (chD c)) (o3 := o3) (K := K') (by rw [hd]; simp)
          rw [stk_snoc] at this
          rw [ed]
          simpa [chsD] using this)
        by_cases ca : c.1 = a
        · have e2 : ∀ J', mIndex (.loc (ad W i)) [sS a] (tp (ns.map .int) t ++ (W ++ (J ++ J'))) = some (.int 0, tp (ns.map .int) t ++ (W ++ (J ++ J'))) := by
            intro J'
            simp only [mIndex, tp_getL, lJ]
            rw [if_pos ⟨Nc.okL (strs_nc ab100) (by omega), (Nc.lit a ha 1).okD (by omega)⟩]
            simp [D.pyL, D.py, fstEq, PyData.eqv]
          have := nx (.tup [sS a, .tup [sS "column", sS "high"]]) (some (.tup [sS "column", sS "high"])) (K ++ [.lst [sS "high", sS "low"]]) (by simp [ca, chD, Src.d])
          simp only [chD, ca] at this
          simp only [ca, List.mem_cons, true_or, decide_true] at e1
          simp [chD, atI_0, atI_1, e1, ca, lJ, kJ, e2, eb]
          exact this
        · by_cases cb : c.1 = b
          · have e2 : ∀ J', mIndex (.loc (ad W i)) [sS b] (tp (ns.map .int) t ++ (W ++ (J ++ J'))) = some (.int 1, tp (ns.map .int) t ++ (W ++ (J ++ J'))) := by
              intro J'
              simp only [mIndex, tp_getL, lJ]
              rw [if_pos ⟨Nc.okL (strs_nc ab100) (by omega), (Nc.lit b hb 1).okD (by omega)⟩]
              have : (a == b) = false := by simpa using nab
              simp [D.pyL, D.py, fstEq, PyData.eqv, this]
            have cba : ¬ b = a := fun z => nab z.symm
            have := nx (.tup [sS b, .tup [sS "column", sS "low"]]) (some (.tup [sS "column", sS "low"])) (K ++ [.lst [sS "high", sS "low"]]) (by simp [cb, cba, chD, Src.d])
            simp only [chD, cb] at this
            have eT : decide (c.1 ∈ [a, b]) = true := by simp [cb]
            rw [eT] at e1
            simp only [cb] at e1
            simp [chD, atI_0, atI_1, e1, cb, lJ, kJ, e2, eb]
            exact this
          · have eF : decide (c.1 ∈ [a, b]) = false := by simp [ca, cb]
            rw [eF] at e1
            have := nx (chD c) (some c.2.d) K (by simp [ca, cb])
            simp only [chD] at this
            simp [chD, atI_0, atI_1, e1, eb]
            exact this
    · intro env S I
      generalize ex : ([] : List D) = l at I
      obtain ⟨hd⟩ := I
      rename_i done rest o2 o3 K
      cases rest with
      | nil =>
        simp only [List.append_nil] at hd
        subst hd
        simp
        refine wp_fin_J (J ++ K) (by simp) ?_ (h1 hm)
        have : ∀ l : List (String × Src), D.pureL (l.map chD) = true → D.pureL ((stk a b l).map chD) = true := by
          intro l hl
          refine pureL_iff.mpr fun d hd => ?_
          obtain ⟨c, hc, rfl⟩ := List.mem_map.mp hd
          obtain ⟨c', hc', rfl⟩ := List.mem_map.mp hc
          split
          · rfl
          · split
            · rfl
            · exact pureL_iff.mp hl _ (List.mem_map_of_mem hc')
        simp [D.pure, this _ hp]
      | cons _ _ => cases ex
  · have hm' : ¬ (∃ x, (b, x) ∈ chs) := by simpa using hm
    simp [hm']
    exact wp_fin_tp (by simp [D.pure, hp]) (h2 hm)
theorem c_stacked {kx ky kc : SK} {mk : String} {kl : Nat} {chs : List (String × Src)} {cs : List Col} (hk : LAt W kl [sS kx.s, sS ky.s, sS kc.s]) (hw : Gn.wordsOf kx ky mk (chs.map (·.1))) (hb : mk = "bar") (hc : ∀ c ∈ chs, ChOk kx ky kc cs c)
    (hlo : ⟨"low", .num⟩ ∈ cs) (hhi : ⟨"high", .num⟩ ∈ cs) (hl : chs.length ≤ 10) (h : ∀ chs', Gn.wordsOf kx ky mk (chs'.map (·.1)) → (∀ c ∈ chs', ChOk kx ky kc cs c) → Q (chsD chs') (tp (ns.map .int) t ++ W)) :
    wp (callF tab G (k + 1) "_law_stacked" [chsD chs, .loc kl] (tp (ns.map .int) t ++ W)) Q := by
  rw [callF_succ (by decide) rfl]
  refine wp_run rfl rfl ?_
  rw [show d_law_stacked.body = d_law_stacked.body.take 1 ++ d_law_stacked.body.drop 1 from rfl]
  have hw100 : ∀ w ∈ chs.map (·.1), w.length ≤ 100 := fun w hm => word_len (words7 hw w hm)
  have i1 := fun t1 J => hk.iopA (sc := ns.map .int) t1 1 J
  have stOk : ∀ a b, (b ∈ chs.map (·.1) → wordKd kx ky kc a = some .num ∧ wordKd kx ky kc b = some .num) → b ∈ chs.map (·.1) → Q (chsD (stk a b chs)) (tp (ns.map .int) t ++ W) := by
    intro a b hab hm
    obtain ⟨q1, q2⟩ := hab hm
    refine h _ (by rw [stk_words]; exact hw) fun c hc' => ?_
    obtain ⟨c', hc'', rfl⟩ := List.mem_map.mp hc'
    split
    · exact ⟨.num, .col hhi, fun k' e => by rw [q1] at e; cases e; rfl⟩
    · split
      · exact ⟨.num, .col hlo, fun k' e => by rw [q2] at e; cases e; rfl⟩
      · exact hc _ hc''
  obtain ⟨b1, b2, b3, b4⟩ := hw.2.2.2.2.2.2 hb
  have end_ : ∀ a b (m : Int), ((a = "x" ∧ b = "x2" ∧ m = 0) ∨ (a = "y" ∧ b = "y2" ∧ m = 1)) → (b ∈ chs.map (·.1) → wordKd kx ky kc a = some .num ∧ wordKd kx ky kc b = some .num) →
      wp (exSs ⟨callF tab G k, G⟩ (d_law_stacked.body.drop 1) [some (chsD chs), some (.loc kl), some (.loc (ad W m.toNat)), none, none, none] (tp (ns.map .int) t ++ (W ++ [.lst [sS "x", sS "x2"], .lst [sS "y", sS "y2"], .lst [.loc (ad W 0), .loc (ad W 1)]]))) (retQ (tp (ns.map .int) t ++ W) Q) := by
    rintro a b m hab hkd
    refine stk_rest (i := m.toNat) (a := a) (b := b) (by rcases hab with ⟨rfl, rfl, _⟩ | ⟨rfl, rfl, _⟩ <;> simp) (chs_pure hc) hl hw100 (by rcases hab with ⟨rfl, rfl, rfl⟩ | ⟨rfl, rfl, rfl⟩ <;> rfl) (stOk a b hkd) fun _ => h chs hw hc
  by_cases ey : ky = .lin
  · have e1 : ky.s = "linear" := by rw [ey]; rfl
    have := end_ "y" "y2" 1 (by simp) (fun _ => by simp [wordKd, ey, SK.kd])
    simp [d_law_stacked, start', i1, atI_1, e1, ofString_inj] at this ⊢
    exact this
  · have e1 : ¬ ky.s = "linear" := by
      cases ky with
      | lin => exact absurd rfl ey
      | band kd => cases kd <;> simp [SK.s, Kd.s]
    have := end_ "x" "x2" 0 (by simp) (fun hm => by simp [wordKd, b1 hm, SK.kd])
    simp [d_law_stacked, start', i1, atI_0, atI_1, e1, ofString_inj] at this ⊢
    exact this
end
end K79

set_option Elab.async false
set_option linter.all false
set_option maxRecDepth 100000
namespace Gn
open PySem PySem.Spec PyProof.Rows L2 Cs
theorem tag_pure (t : Option Tag) : (tagD t).pure = true := by
  cases t with
  | none => rfl
  | some t =>
    have : D.pureL (t.avoid.map D.int) = true := pureL_iff.mpr fun d hd => by obtain ⟨c, hc, rfl⟩ := List.mem_map.mp hd; rfl
    simp [tagD, Tag.d, D.pure, D.pureL, keys_pure, this]
theorem ChOk.pure {kx ky kc : SK} {cs1 : List Col} {chs : List (String × Src)} (h : ∀ c ∈ chs, ChOk kx ky kc cs1 c) : (chsD chs).pure = true := by simpa [D.pure] using chs_pure h
theorem cols_has {cs : List Col} (c : Col) (h : (D.pyL (cs.map Col.d)).any (fun z => PyData.eqv z c.d.py) = true) : c ∈ cs := by
  induction cs with
  | nil => simp [D.pyL] at h
  | cons a l ih =>
    simp only [List.map_cons, D.pyL, List.any_cons, Bool.or_eq_true] at h
    rcases h with h | h
    · have : a = c := by
        obtain ⟨n, k⟩ := a
        obtain ⟨m, l⟩ := c
        simp [Col.d, D.py, D.pyL, PyData.eqv, PyData.eqvAll, str_beq] at h
        obtain ⟨rfl, h⟩ := h
        rw [Kd.s_inj h]
      rw [this]; exact List.mem_cons_self ..
    · exact List.mem_cons_of_mem _ (ih h)
theorem layer_pure {ts : List (String × List Col)} {kx ky kc : SK} {n : Int} {l : Layer} (h : l.Ok ts kx ky kc n) : l.d.pure = true := by
  obtain ⟨cs, cs1, _, _, _, hc, _⟩ := h.table
  have : D.pureL (l.chs.map chD) = true := chs_pure (kx := kx) (ky := ky) (kc := kc) (cs1 := cs1) hc
  simp [Layer.d, D.pure, D.pureL, trs_pure, this, tag_pure]
theorem wordsOf.len {kx ky : SK} {m : String} {ws : List String} (h : Gn.wordsOf kx ky m ws) : ws.length ≤ 7 := by
  have q := List.Nodup.length_le_of_subset (l₁ := ws) (l₂ := ["x", "x2", "y", "y2", "color", "text", "detail"]) h.1 fun w hw => by
    rcases words7 h w hw with e | e | e | e | e | e | e <;> simp [e]
  simpa using q
end Gn
namespace K79
open PySem PySem.Spec PyProof.Rows L2 Cs Gn
section
variable {ns : List Int} {k n : Nat} {t : Tp} {W : Sto} {Q : D → Sto → Prop}
theorem layer_tail {t0 : Tp} {ts : List (String × List Col)} {kx ky kc : SK} {kl : Nat} {L : Int} {mk nm : String} {st : Bool} {cs cs1 : List Col} {trs : List Tr} {J : Sto} {o1 : Option D}
    (hmk : Mark mk) (hbar : mk = "bar" → kx = .lin ∨ ky = .lin) (hst : st = true → ⟨"low", .num⟩ ∈ cs1) (hcs : (nm, cs) ∈ ts) (hT : Trs cs trs cs1) (hC : Cols cs1) (hLH : LowHigh cs1) (hlt : trs.length ≤ 4) (hL0 : 0 ≤ L) (hL : L ≤ 4)
    (hk : LAt W kl [sS kx.s, sS ky.s, sS kc.s]) (ht : t.ok (n + 82)) (h : ∀ (l : Layer) t', l.Ok ts kx ky kc L → t'.ok n → Q l.d (tp (ns.map .int) t' ++ W)) :
    wp (exSs ⟨callF tab G (k + 5), G⟩ (d_law_layer.body.drop 6) [some (.loc 2), o1, some (.loc kl), some (.int L), some (.tup [sS nm, colsD cs]), some (.loc (ad W 0)), some (sS mk), some (.bl st), none, none] (tp (ns.map .int) t ++ (W ++ (.lst [trsD trs, colsD cs1] :: J)))) (retQ (tp (ns.map .int) t0 ++ W) Q) := by
  simp [d_law_layer, atI_1]
  refine c_channels (n := n + 17) (W := W ++ (.lst [trsD trs, colsD cs1] :: J)) hC hmk hbar hk.app ht fun chs t1 hw hc k1 => ?_
  have rest : ∀ chs t1, Gn.wordsOf kx ky mk (chs.map (·.1)) → (∀ c ∈ chs, ChOk kx ky kc cs1 c) → t1.ok (n + 17) →
      wp (exSs ⟨callF tab G (k + 5), G⟩ (d_law_layer.body.drop 8) [some (.loc 2), o1, some (.loc kl), some (.int L), some (.tup [sS nm, colsD cs]), some (.loc (ad W 0)), some (sS mk), some (.bl st), some (chsD chs), none] (tp (ns.map .int) t1 ++ (W ++ (.lst [trsD trs, colsD cs1] :: J)))) (retQ (tp (ns.map .int) t0 ++ W) Q) := by
    intro chs t1 hw hc k1
    simp [d_law_layer]
    refine c_draw (n := n + 16) k1 (by decide) (by decide) fun r t2 r0 r1 k2 => ?_
    simp
    refine wp_atI r0 r1 fun x hx => ?_
    obtain ⟨pt, rfl, hpt⟩ : ∃ s : String, x = sS s ∧ (s = "#3a6ea8" ∨ s = "#000000" ∨ s = "#ffe4b5") := by simp at hx; rcases hx with rfl | rfl | rfl <;> exact ⟨_, rfl, by simp⟩
    simp [atI_0, atI_1]
    refine c_tag (n := n) (mk := mk) hC hL0 hL k2 fun tg t3 htg hline k3 => ?_
    have ok : Layer.Ok ts kx ky kc L ⟨nm, trs, mk, chs, pt, tg⟩ := ⟨⟨cs, cs1, hcs, hT, hC, hc, htg⟩, hmk, hw, hlt, hline, hpt⟩
    exact wp_fin_tp (layer_pure ok) (h _ _ ok k3)
  cases st with
  | false =>
    have := rest chs t1 hw hc k1
    simp [d_law_layer] at this ⊢
    exact this
  | true =>
    by_cases e : mk = "bar"
    · simp [e, ofString_inj]
      have hlo := hst rfl
      refine c_stacked (W := W ++ (.lst [trsD trs, colsD cs1] :: J)) (cs := cs1) hk.app hw e hc hlo (hLH hlo) (by have := hw.len; simp at this; omega) fun chs' hw' hc' => ?_
      have := rest chs' t1 hw' hc' k1
      simp [d_law_layer, e] at this ⊢
      exact this
    · have := rest chs t1 hw hc k1
      simp [d_law_layer, e, ofString_inj] at this ⊢
      exact this
abbrev tabsD (ts : List (String × List Col)) : D := .tup (ts.map tableD)
theorem c_layer {ts : List (String × List Col)} {kx ky kc : SK} {kl : Nat} {L : Int} (hts : Tables ts) (hL0 : 0 ≤ L) (hL : L ≤ 4)
    (hk : LAt W kl [sS kx.s, sS ky.s, sS kc.s]) (ht : t.ok (n + 140)) (h : ∀ (l : Layer) t', l.Ok ts kx ky kc L → t'.ok n → Q l.d (tp (ns.map .int) t' ++ W)) :
    wp (callF tab G (k + 6) "_law_layer" [.loc 2, tabsD ts, .loc kl, .int L] (tp (ns.map .int) t ++ W)) Q := by
  rw [callF_succ (by decide) rfl]
  refine wp_run rfl rfl ?_
  have lts : 1 ≤ ts.length ∧ ts.length ≤ 2 := by cases hts <;> simp
  have i0 := fun t1 J => hk.iopA (sc := ns.map .int) t1 0 J
  have i1 := fun t1 J => hk.iopA (sc := ns.map .int) t1 1 J
  rw [show d_law_layer.body = d_law_layer.body.take 6 ++ d_law_layer.body.drop 6 from rfl]
  simp [d_law_layer, start']
  refine c_draw (n := n + 139) ht (by omega) (by omega) fun r t1 r0 r1 k1 => ?_
  simp
  refine wp_atI r0 (by simpa using r1) fun x hx => ?_
  obtain ⟨tb, htb, rfl⟩ := List.mem_map.mp hx
  obtain ⟨nm, cs⟩ := tb
  have hraw := hts.raw _ htb
  simp [tableD, atI_1]
  refine c_transforms (n := n + 89) hraw k1 fun trs cs1 t2 hT hC hLH hlt k2 => ?_
  simp
  refine c_draw (n := n + 88) k2 (by decide) (by decide) fun r t3 r0 r1 k3 => ?_
  simp
  refine wp_atI r0 r1 fun x hx => ?_
  obtain ⟨mk, rfl, hmk⟩ : ∃ s : String, x = sS s ∧ Mark s := by
    simp at hx
    rcases hx with rfl | rfl | rfl | rfl | rfl | rfl <;> exact ⟨_, rfl, by simp [Mark]⟩
  have et := in_tup (S := tp (ns.map .int) t3 ++ (W ++ [.lst [trsD trs, colsD cs1], .lst [sS "point", sS "bar", sS "line", sS "rule", sS "text", sS "point"]])) (x := .tup [sS "low", sS "number"]) (ys := cs1.map Col.d) (n := 1) (w := 40)
    (Col.nc (c := ⟨"low", .num⟩) (by decide)) (fun d hd => by obtain ⟨c, hc, rfl⟩ := List.mem_map.mp hd; exact Col.nc (hC.nl c hc)) (by omega)
  have hin := cols_has (cs := cs1) ⟨"low", .num⟩
  simp only [Col.d, Kd.s] at hin
  generalize (D.pyL (cs1.map Col.d)).any (fun z => PyData.eqv z (D.tup [sS "low", sS "number"]).py) = q at et hin
  have T := fun (t4 : Tp) (mk : String) (st : Bool) (hmk : Mark mk) (hbar : mk = "bar" → kx = .lin ∨ ky = .lin) (hst : st = true → ⟨"low", .num⟩ ∈ cs1) (k4 : t4.ok (n + 82)) =>
    layer_tail (k := k) (t0 := t) (J := [.lst [sS "point", sS "bar", sS "line", sS "rule", sS "text", sS "point"]]) (o1 := some (tabsD ts)) hmk hbar hst htb hT hC hLH hlt hL0 hL hk k4 h
  have hx : ∀ sk : SK, sk.s = "linear" ↔ sk = .lin := fun sk => by
    cases sk with
    | lin => simp [SK.s]
    | band kd => cases kd <;> simp [SK.s, Kd.s]
  have T5 : ∀ (t4 : Tp) (mk : String) (st : Bool), Mark mk → (st = true → ⟨"low", .num⟩ ∈ cs1) → t4.ok (n + 82) → wp (exSs ⟨callF tab G (k + 5), G⟩ (d_law_layer.body.drop 5) [some (.loc 2), some (tabsD ts), some (.loc kl), some (.int L), some (.tup [sS nm, colsD cs]), some (.loc (ad W 0)), some (sS mk), some (.bl st), none, none]
      (tp (ns.map .int) t4 ++ (W ++ [.lst [trsD trs, colsD cs1], .lst [sS "point", sS "bar", sS "line", sS "rule", sS "text", sS "point"]]))) (retQ (tp (ns.map .int) t ++ W) Q) := by
    intro t4 mk st hmk hst k4
    by_cases eb : mk = "bar"
    · by_cases ex : kx = .lin
      · have := T t4 mk st hmk (fun _ => .inl ex) hst k4
        simp [d_law_layer, eb, ofString_inj, i0, i1, atI_0, atI_1, (hx kx).mpr ex] at this ⊢
        exact this
      · by_cases ey : ky = .lin
        · have := T t4 mk st hmk (fun _ => .inr ey) hst k4
          have lx : ¬ kx.s = "linear" := fun z => ex ((hx kx).mp z)
          simp [d_law_layer, eb, ofString_inj, i0, i1, atI_0, atI_1, (hx ky).mpr ey, lx] at this ⊢
          exact this
        · have := T t4 "point" st (by simp [Mark]) (fun z => absurd z (by decide)) hst k4
          have lx : ¬ kx.s = "linear" := fun z => ex ((hx kx).mp z)
          have ly : ¬ ky.s = "linear" := fun z => ey ((hx ky).mp z)
          simp [d_law_layer, eb, ofString_inj, i0, i1, atI_0, atI_1, ly, lx] at this ⊢
          exact this
    · have := T t4 mk st hmk (fun z => absurd z eb) hst k4
      simp [d_law_layer, eb, ofString_inj] at this ⊢
      exact this
  simp [atI_1]
  rw [et]
  cases q with
  | false =>
    have := T5 t3 mk false hmk (fun z => by cases z) (k3.mono (by omega))
    simp [d_law_layer] at this ⊢
    exact this
  | true =>
    simp
    refine c_draw (n := n + 82) (k3.mono (by omega)) (by decide) (by decide) fun b t4 b0 b1 k4 => ?_
    by_cases e : b = 0
    · have := T5 t4 "bar" true (by simp [Mark]) (fun _ => hin rfl) k4
      simp [d_law_layer] at this
      simp [e]
      exact this
    · have := T5 t4 mk false hmk (fun z => by cases z) k4
      simp [d_law_layer] at this
      simp [e]
      exact this
end
end K79

set_option Elab.async false
set_option linter.all false
set_option maxRecDepth 100000
namespace Gn
open PySem PySem.Spec PyProof.Rows L2 Cs
theorem dom_pure {sk : SK} {d : Dom} (h : Dom.Ok sk d) : d.d.pure = true := by
  cases h with
  | fit => rfl
  | zero => rfl
  | «from» _ _ _ => rfl
  | of h _ _ _ =>
    simp [Dom.d, D.pure, D.pureL]
    exact pureL_iff.mpr fun d hd => by obtain ⟨c, hc, rfl⟩ := List.mem_map.mp hd; exact (h c hc).nc.pure
theorem scale_pure {s : Scale} (h : s.Ok) : s.d.pure = true := by
  have : (axisD s.axis).pure = true := by cases s.axis <;> rfl
  simp [Scale.d, D.pure, D.pureL, dom_pure h.dom, this]
theorem leg_pure (l : Option String) : (legD l).pure = true := by cases l <;> rfl
theorem view_pure {ts : List (String × List Col)} {v : View} (h : v.Ok ts) : v.d.pure = true := by
  have : D.pureL (v.layers.map Layer.d) = true := pureL_iff.mpr fun d hd => by obtain ⟨l, hl, rfl⟩ := List.mem_map.mp hd; exact layer_pure (h.layers l hl)
  simp [View.d, D.pure, D.pureL, scale_pure h.x, scale_pure h.y, dom_pure h.hdom, leg_pure, this]
theorem tables_pure (ts : List (String × List Col)) : D.pureL (ts.map tableD) = true := pureL_iff.mpr fun d hd => by
  obtain ⟨l, hl, rfl⟩ := List.mem_map.mp hd
  simp [tableD, D.pure, D.pureL, cols_pure]
theorem rows_pure (rs : List (List Int)) : D.pureL (rs.map fun r => .tup (r.map D.int)) = true := pureL_iff.mpr fun d hd => by
  obtain ⟨l, hl, rfl⟩ := List.mem_map.mp hd
  simp [D.pure]
  exact pureL_iff.mpr fun d hd => by obtain ⟨l, hl, rfl⟩ := List.mem_map.mp hd; rfl
theorem spec_pure {n : Nat} {s : Spec} (h : s.Ok n) : s.d.pure = true := by
  have : D.pureL (s.views.map View.d) = true := pureL_iff.mpr fun d hd => by obtain ⟨l, hl, rfl⟩ := List.mem_map.mp hd; exact view_pure (h.views l hl)
  simp [Spec.d, D.pure, D.pureL, tables_pure, rows_pure, this]
theorem sk_mem {x : D} (h : x ∈ [sS "linear", sS "linear", sS "linear", sS "text", sS "number", sS "boolean"]) : ∃ s : SK, x = sS s.s := by
  simp at h
  rcases h with rfl | rfl | rfl | rfl
  · exact ⟨.lin, rfl⟩
  · exact ⟨.band .txt, rfl⟩
  · exact ⟨.band .num, rfl⟩
  · exact ⟨.band .boo, rfl⟩
end Gn
namespace K79
open PySem PySem.Spec PyProof.Rows L2 Cs Gn
section
variable {ns : List Int} {k n : Nat} {t : Tp} {W : Sto} {Q : D → Sto → Prop}
inductive KdI (ns : List Int) (W : Sto) (n : Nat) (a b c : D) : List D → Ev → Sto → Prop where
  | mk {xs : List D} {t : Tp} {acc : List SK} {J : Sto} {o : Option D} (ht : t.ok (n + xs.length)) (hl : acc.length + xs.length = 2) : KdI ns W n a b c xs [some (.loc 2), some a, some b, some c, some (.loc (ad W 0)), o, none, none, none, none, none] (tp (ns.map .int) t ++ (W ++ (.lst (acc.map fun s => sS s.s) :: J)))
inductive LyI (ns : List Int) (W J : Sto) (n : Nat) (ts : List (String × List Col)) (kx ky kc : SK) (L : Int) (nm : D) (o1 o2 o3 o4 : Option D) : List D → Ev → Sto → Prop where
  | mk {xs : List D} {t : Tp} {acc : List Layer} {o : Option D} (ht : t.ok (n + 140 * xs.length)) (ha : ∀ l ∈ acc, l.Ok ts kx ky kc L) (hl : ((acc.length + xs.length : Nat) : Int) = L) :
    LyI ns W J n ts kx ky kc L nm o1 o2 o3 o4 xs [some (.loc 2), some nm, some (tabsD ts), some (.int L), some (.loc (ad W 0)), o, o1, o2, o3, o4, some (.tup (acc.map Layer.d))] (tp (ns.map .int) t ++ (W ++ (.lst [sS kx.s, sS ky.s, sS kc.s] :: J)))
theorem c_view {ts : List (String × List Col)} {nm : String} {L : Int} (hts : Tables ts) (hL0 : 0 ≤ L) (hL : L ≤ 4) (ht : t.ok (n + 680))
    (h : ∀ (v : View) t', v.Ok ts → v.name = nm → t'.ok n → Q v.d (tp (ns.map .int) t' ++ W)) :
    wp (callF tab G (k + 7) "_law_view" [.loc 2, sS nm, tabsD ts, .int L] (tp (ns.map .int) t ++ W)) Q := by
  rw [callF_succ (by decide) rfl]
  refine wp_run rfl rfl ?_
  simp [d_law_view, start', items_rng (show smallI 2 from ⟨by decide, by decide⟩)]
  have st := KdI.mk (ns := ns) (W := W) (n := n + 678) (a := sS nm) (b := tabsD ts) (c := .int L) (xs := rngD 0 2) (t := t) (acc := []) (J := []) (o := none) ht rfl
  refine wp_forQ (I := KdI ns W (n + 678) (sS nm) (tabsD ts) (.int L)) ?_ ?_ ?_ _ _ _ (by simpa using st)
  · intros; exact still_nil _
  · rintro x xs env S ⟨ht, hl⟩
    rename_i t1 acc J o
    refine ⟨_, rfl, ?_⟩
    simp at hl
    simp
    refine c_draw (n := n + 678 + xs.length) ht (by decide) (by decide) fun r t2 r0 r1 k2 => ?_
    simp
    refine wp_atI r0 r1 fun x hx => ?_
    obtain ⟨sk, rfl⟩ := sk_mem hx
    have hs : acc.length < sizeLine := by rw [sizeLine_eq]; omega
    simp [hs]
    have := KdI.mk (ns := ns) (W := W) (n := n + 678) (a := sS nm) (b := tabsD ts) (c := .int L) (xs := xs) (t := t2) (acc := acc ++ [sk]) (J := J ++ [.lst [sS "linear", sS "linear", sS "linear", sS "text", sS "number", sS "boolean"]]) (o := some x) k2 (by simp; omega)
    simpa using this
  · rintro env S ⟨ht, hl⟩
    rename_i t1 acc J o
    obtain ⟨kx, ky, rfl⟩ : ∃ kx ky, acc = [kx, ky] := by
      match acc, hl with
      | [a, b], _ => exact ⟨a, b, rfl⟩
    simp
    refine c_draw (n := n + 677) (ht.mono (by simp)) (by decide) (by decide) fun r t2 r0 r1 k2 => ?_
    simp
    refine wp_atI r0 r1 fun x hx => ?_
    obtain ⟨kc, rfl⟩ : ∃ kd : Kd, x = sS (SK.band kd).s := by
      simp at hx
      rcases hx with rfl | rfl | rfl
      · exact ⟨.txt, rfl⟩
      · exact ⟨.num, rfl⟩
      · exact ⟨.boo, rfl⟩
    simp [sizeLine_eq]
    refine c_draw (n := n + 676) k2 (by decide) (by decide) fun w t3 w0 w1 k3 => ?_
    simp
    refine c_draw (n := n + 675) k3 (by decide) (by decide) fun hh t4 h0 h1 k4 => ?_
    simp [atI_0, atI_1, atI_2]
    refine c_scale (n := n + 636) k4 fun sx t5 hsx esx k5 => ?_
    simp [atI_0, atI_1, atI_2]
    refine c_scale (n := n + 597) k5 fun sy t6 hsy esy k6 => ?_
    refine c_draw (n := n + 596) k6 (by decide) (by decide) fun r t7 r0 r1 k7 => ?_
    simp
    refine wp_atI r0 r1 fun x hx => ?_
    obtain ⟨pal, rfl, hpal⟩ : ∃ s : String, x = sS s ∧ (s = "plain" ∨ s = "safe" ∨ s = "dark") := by simp at hx; rcases hx with rfl | rfl | rfl <;> exact ⟨_, rfl, by simp⟩
    simp [atI_0, atI_1, atI_2]
    refine c_domain (n := n + 566) (sk := .band kc) k7 fun hd t8 hhd k8 => ?_
    refine c_draw (n := n + 565) k8 (by decide) (by decide) fun r t9 r0 r1 k9 => ?_
    simp
    refine wp_atI r0 r1 fun x hx => ?_
    obtain ⟨leg, rfl, hleg⟩ : ∃ s : Option String, x = legD s ∧ (∀ z, s = some z → z = "" ∨ z = "kind") := by
      simp at hx
      rcases hx with rfl | rfl | rfl
      · exact ⟨none, rfl, fun _ e => by cases e⟩
      · exact ⟨some "", rfl, fun _ e => by cases e; simp⟩
      · exact ⟨some "kind", rfl, fun _ e => by cases e; simp⟩
    simp [items_rng (show smallI L from ⟨by omega, by omega⟩)]
    refine wp_forQ (I := LyI ns W _ (n + 1) ts kx ky (.band kc) L (sS nm) _ _ _ _) ?_ ?_ ?_ _ _ _ (.mk (acc := []) (k9.mono (by rw [rngD_len]; omega)) (by simp) (by rw [rngD_len]; simp; omega))
    · intros; exact still_nil _
    · rintro x xs env S ⟨ht, ha, hl⟩
      rename_i t10 acc o
      refine ⟨_, rfl, ?_⟩
      simp
      refine c_layer (n := n + 1 + 140 * xs.length) hts hL0 hL (LAt.mk W _ 0 rfl) (ht.mono (by simp; omega)) fun l t11 hlo k11 => ?_
      have eb := bop_tup (a := acc.map Layer.d) (b := [l.d]) (by rw [sizeLine_eq]; simp at hl ⊢; omega)
      simp [eb]
      rw [show acc.map Layer.d ++ [l.d] = (acc ++ [l]).map Layer.d from by simp]
      refine .mk (acc := acc ++ [l]) k11 (fun l' hl' => ?_) (by simp at hl ⊢; omega)
      rcases List.mem_append.mp hl' with q | q
      · exact ha l' q
      · rcases List.mem_singleton.mp q with rfl; exact hlo
    · rintro env S ⟨ht, ha, hl⟩
      rename_i t10 acc o
      simp
      refine c_draw (n := n) (ht.mono (by simp)) (by decide) (by decide) fun r t11 r0 r1 k11 => ?_
      simp
      refine wp_atI r0 r1 fun x hx => ?_
      obtain ⟨ti, rfl, hti⟩ : ∃ s : String, x = sS s ∧ (s = "" ∨ s = "Panel") := by simp at hx; rcases hx with rfl | rfl <;> exact ⟨_, rfl, by simp⟩
      have hL' : (acc.length : Int) = L := by simpa using hl
      have ok : View.Ok ts ⟨nm, ti, 30 + w, 30 + hh, sx, sy, pal, .band kc, hd, leg, acc⟩ :=
        ⟨hti, by show 30 ≤ 30 + w; omega, by show 30 + w ≤ 240; omega, by show 30 ≤ 30 + hh; omega, by show 30 + hh ≤ 200; omega, hsx, hsy, hpal, by simp, hhd, hleg, by show acc.length ≤ 4; omega, fun l hl' => by
          show l.Ok ts sx.sk sy.sk (.band kc) acc.length
          rw [esx, esy, hL']; exact ha l hl'⟩
      exact wp_fin_tp (view_pure ok) (h _ _ ok rfl k11)
end
end K79

set_option Elab.async false
set_option linter.all false
set_option maxRecDepth 100000
namespace K79
open PySem PySem.Spec PyProof.Rows L2 Cs Gn
section
variable {ns : List Int} {k n : Nat} {t : Tp} {W : Sto} {Q : D → Sto → Prop}
abbrev vnames : List String := ["v", "w", "v_3"]
inductive VwI (ns : List Int) (W : Sto) (n : Nat) (ts : List (String × List Col)) (V : Int) (m : Nat) (L : Int) : List D → Ev → Sto → Prop where
  | mk {xs : List D} {t : Tp} {acc : List View} {J : Sto} {o1 o2 : Option D} (ht : t.ok (n + 681 * xs.length)) (hx : xs = rngD acc.length xs.length) (ha : ∀ v ∈ acc, v.Ok ts) (hn : acc.map (·.name) = vnames.take acc.length) (hl : acc.length + xs.length = m) :
    VwI ns W n ts V m L xs [some (.loc 2), some (.int V), some (.int L), some (tabsD ts), some (.tup (acc.map View.d)), o1, none, o2] (tp (ns.map .int) t ++ (W ++ J))
theorem vname_at (i : Nat) (h : i < 3) (S : Sto) : lift (atI (vnames.map fun s => sS s) i) S = some (sS (vnames.getD i ""), S) := by
  match i, h with
  | 0, _ => rfl
  | 1, _ => rfl
  | 2, _ => rfl
theorem c_spec {V L : Int} {m : Nat} (hV : V = m) (hV0 : 1 ≤ V) (hV3 : V ≤ 3) (hL0 : 0 ≤ L) (hL : L ≤ 4) (ht : t.ok (n + 2100))
    (h : ∀ (s : Gn.Spec) t', s.Ok m → t'.ok n → Q s.d (tp (ns.map .int) t' ++ W)) :
    wp (callF tab G (k + 8) "_law_spec" [.loc 2, .int V, .int L] (tp (ns.map .int) t ++ W)) Q := by
  rw [callF_succ (by decide) rfl]
  refine wp_run rfl rfl ?_
  simp [d_law_spec, start']
  refine c_columns (n := n + 2095) ht fun cs t1 hcs k1 => ?_
  have main : ∀ ts t2, Tables ts → t2.ok (n + 2089) → wp (exSs ⟨callF tab G (k + 7), G⟩ (d_law_spec.body.drop 2) [some (.loc 2), some (.int V), some (.int L), some (tabsD ts), none, none, none, none] (tp (ns.map .int) t2 ++ W)) (retQ (tp (ns.map .int) t ++ W) Q) := by
    intro ts t2 hts k2
    simp [d_law_spec, items_rng (show smallI V from ⟨by omega, by omega⟩)]
    have st := VwI.mk (ns := ns) (W := W) (n := n + 2) (ts := ts) (V := V) (m := m) (L := L) (xs := rngD 0 V.toNat) (t := t2) (acc := []) (J := []) (o1 := none) (o2 := none) (k2.mono (by rw [rngD_len]; omega)) (by rw [rngD_len]; rfl) (by simp) (by simp) (by rw [rngD_len]; simp; omega)
    refine wp_forQ (I := VwI ns W (n + 2) ts V m L) ?_ ?_ ?_ _ _ _ (by simpa using st)
    · intros; exact still_nil _
    · rintro x xs env S ⟨ht, hx, ha, hn, hl⟩
      rename_i t3 acc J o1 o2
      obtain ⟨rfl, hx, _⟩ := rng_cons hx
      refine ⟨_, rfl, ?_⟩
      simp at hl
      have ea := vname_at acc.length (by omega)
      simp at ea
      have next : ∀ (L' : Int) t4, 0 ≤ L' → L' ≤ 4 → t4.ok (n + 2 + 681 * xs.length + 680) → wp (callF tab G (k + 7) "_law_view" [.loc 2, sS (vnames.getD acc.length ""), tabsD ts, .int L'] (tp (ns.map .int) t4 ++ (W ++ (J ++ [.lst [sS "v", sS "w", sS "v_3"]])))) fun a S =>
          wp (bop .add (.tup (acc.map View.d)) (.tup [a]) S) fun a S => VwI ns W (n + 2) ts V m L xs [some (.loc 2), some (.int V), some (.int L), some (tabsD ts), some a, some (.int acc.length), none, some (.int L')] S := by
        intro L' t4 h0 h4 k4
        refine c_view (n := n + 2 + 681 * xs.length) hts h0 h4 k4 fun v t5 hv hnm k5 => ?_
        have eb := bop_tup (a := acc.map View.d) (b := [v.d]) (by rw [sizeLine_eq]; simp; omega)
        simp [eb]
        rw [show acc.map View.d ++ [v.d] = (acc ++ [v]).map View.d from by simp]
        refine .mk (acc := acc ++ [v]) k5 (by simpa using hx) (fun v' hv' => ?_) ?_ (by simp; omega)
        · rcases List.mem_append.mp hv' with q | q
          · exact ha v' q
          · rcases List.mem_singleton.mp q with rfl; exact hv
        · rw [List.map_append, hn, List.map_singleton, hnm, List.length_append, List.length_singleton]
          have : acc.length < 3 := by omega
          match acc.length, this with
          | 0, _ => rfl
          | 1, _ => rfl
          | 2, _ => rfl
      simp at next ht
      by_cases c : V = 3 ∧ (acc.length : Int) = 1
      · obtain ⟨c1, c2⟩ := c
        have c3 : acc.length = 1 := by omega
        simp [c1, c2]
        refine c_draw (n := n + 2 + 681 * xs.length + 680) (ht.mono (by omega)) (by decide) (by decide) fun b t4 b0 b1 k4 => ?_
        by_cases e : b = 0
        · have := next 0 t4 (by decide) (by decide) k4
          simp [c1, c3] at this ea
          simp [e, ea, c3]
          exact this
        · have := next L t4 hL0 hL k4
          simp [c1, c3] at this ea
          simp [e, ea, c3]
          exact this
      · have := next L t3 hL0 hL (ht.mono (by omega))
        by_cases c1 : V = 3
        · have c2 : ¬ (acc.length : Int) = 1 := fun z => c ⟨c1, z⟩
          simp [c1, c2, ea]
          rw [c1] at this
          simpa using this
        · simp [c1, ea]
          exact this
    · rintro env S ⟨ht, hx, ha, hn, hl⟩
      rename_i t3 acc J o1 o2
      simp at hl ht
      have fin_ : ∀ (rows : List (List Int)) (t4 : Tp) (J : Sto) (o3 : Option D), RowsOk m rows → t4.ok (n + 1) →
          wp (exSs ⟨callF tab G (k + 7), G⟩ (d_law_spec.body.drop 7) [some (.loc 2), some (.int V), some (.int L), some (tabsD ts), some (.tup (acc.map View.d)), o1, some (.tup (rows.map fun r => .tup (r.map D.int))), o3] (tp (ns.map .int) t4 ++ (W ++ J))) (retQ (tp (ns.map .int) t ++ W) Q) := by
        intro rows t4 J o3 hr k4
        simp [d_law_spec]
        refine c_draw (n := n) k4 (by decide) (by decide) fun r t5 r0 r1 k5 => ?_
        simp
        refine wp_atI r0 r1 fun x hx => ?_
        obtain ⟨ti, rfl, hti⟩ : ∃ s : String, x = sS s ∧ (s = "" ∨ s = "Sales") := by simp at hx; rcases hx with rfl | rfl <;> exact ⟨_, rfl, by simp⟩
        have ok : Gn.Spec.Ok m ⟨ti, ts, acc, rows⟩ := ⟨hti, hts, hl, by rw [hn, hl], ha, hr⟩
        exact wp_fin_tp (spec_pure ok) (h _ _ ok k5)
      have c123 : (V = 1 ∧ m = 1) ∨ (V = 2 ∧ m = 2) ∨ (V = 3 ∧ m = 3) := by omega
      rcases c123 with ⟨rfl, rfl⟩ | ⟨rfl, rfl⟩ | ⟨rfl, rfl⟩
      · have := fin_ [[0]] t3 J o2 .one (ht.mono (by omega))
        simp [d_law_spec] at this ⊢
        exact this
      · simp
        refine c_draw (n := n + 1) ht (by decide) (by decide) fun r t4 r0 r1 k4 => ?_
        simp
        refine wp_atI r0 r1 fun x hx => ?_
        obtain ⟨rows, rfl, hr⟩ : ∃ rows : List (List Int), x = .tup (rows.map fun r => .tup (r.map D.int)) ∧ RowsOk 2 rows := by
          simp at hx
          rcases hx with rfl | rfl | rfl | rfl
          · exact ⟨[[0, 1]], rfl, .two (by simp)⟩
          · exact ⟨[[1, 0]], rfl, .two (by simp)⟩
          · exact ⟨[[0], [1]], rfl, .two (by simp)⟩
          · exact ⟨[[1], [0]], rfl, .two (by simp)⟩
        have := fin_ rows t4 (J ++ [.lst [.tup [.tup [.int 0, .int 1]], .tup [.tup [.int 1, .int 0]], .tup [.tup [.int 0], .tup [.int 1]], .tup [.tup [.int 1], .tup [.int 0]]]]) o2 hr k4
        simp [d_law_spec] at this ⊢
        exact this
      · simp
        refine c_draw (n := n + 1) ht (by decide) (by decide) fun r t4 r0 r1 k4 => ?_
        simp
        refine wp_atI r0 r1 fun x hx => ?_
        obtain ⟨rows, rfl, hr⟩ : ∃ rows : List (List Int), x = .tup (rows.map fun r => .tup (r.map D.int)) ∧ RowsOk 3 rows := by
          simp at hx
          rcases hx with rfl | rfl | rfl
          · exact ⟨[[0, 1, 2]], rfl, .three (by simp)⟩
          · exact ⟨[[2], [1, 0]], rfl, .three (by simp)⟩
          · exact ⟨[[1], [2], [0]], rfl, .three (by simp)⟩
        have := fin_ rows t4 (J ++ [.lst [.tup [.tup [.int 0, .int 1, .int 2]], .tup [.tup [.int 2], .tup [.int 1, .int 0]], .tup [.tup [.int 1], .tup [.int 2], .tup [.int 0]]]]) o2 hr k4
        simp [d_law_spec] at this ⊢
        exact this
  refine c_draw (n := n + 2094) k1 (by decide) (by decide) fun r t2 r0 r1 k2 => ?_
  by_cases e : r = 0
  · simp [e]
    refine c_columns (n := n + 2089) k2 fun es t3 hes k3 => ?_
    have eb := bop_tup (a := [D.tup [sS "t", colsD cs]]) (b := [.tup [sS "u_2", colsD es]]) (by rw [sizeLine_eq]; simp)
    have := main _ t3 (.two hcs hes) k3
    simp [d_law_spec, tableD] at this
    simp [eb]
    exact this
  · have := main _ t2 (.one hcs) (k2.mono (by omega))
    simp [d_law_spec, tableD] at this
    simp [e]
    exact this
end
end K79

set_option Elab.async false
set_option linter.all false
set_option maxRecDepth 100000
namespace Gn
open PySem PySem.Spec PyProof.Rows L2 Cs
abbrev ORD : List String := ["x", "x2", "y", "y2", "color", "text", "detail"]
def Dom.decl : Dom → Bool
  | .from _ _ _ _ => true
  | .of _ => true
  | _ => false
def SK.isB : SK → Bool
  | .lin => false
  | .band _ => true
def rdS (s : Scale) : Bool := if s.dom.decl then s.sk.isB || !s.clamp else s.axis.isSome
@[simp] theorem isN_axis (a : Option Axis) : isN (axisD a) = !a.isSome := by cases a <;> rfl
@[simp] theorem isN_leg (a : Option String) : isN (legD a) = !a.isSome := by cases a <;> rfl
def rd (v : View) (w : String) : Bool :=
  if w = "text" then true else if w = "detail" then false else if w = "color" then v.hdom.decl || v.leg.isSome else if w = "x" ∨ w = "x2" then rdS v.x else rdS v.y
def Src.isCol : Src → Bool
  | .col _ => true
  | .con _ => false
def Src.val : Src → D
  | .col nm => sS nm
  | .con c => c.d
def shownB (l : Layer) (w : String) : Bool := l.chs.any fun c => decide (c.1 = w) && c.2.isCol
def shown (l : Layer) : List String := ORD.filter (shownB l)
def srcKV (c : String × Src) : Key × D := (.inr (Str.ofString c.1), c.2.d)
theorem pairs_mapM : ∀ chs : List (String × Src), (chs.map chD).mapM pairD = some (chs.map srcKV)
  | [] => rfl
  | c :: l => by
    rw [List.map_cons, List.mapM_cons, pairs_mapM l]
    rfl
theorem putD_new {κ : Type} [DecidableEq κ] {kvs : List (κ × D)} {k : κ} (h : k ∉ kvs.map (·.1)) (v : D) : putD kvs k v = kvs ++ [(k, v)] := by
  unfold putD
  rw [if_neg]
  intro z
  obtain ⟨kv, h1, h2⟩ := List.any_eq_true.mp z
  simp at h2
  exact h (List.mem_map.mpr ⟨kv, h1, h2⟩)
theorem mergeD_nd {κ : Type} [DecidableEq κ] : ∀ {more kvs : List (κ × D)}, ((kvs ++ more).map (·.1)).Nodup → mergeD kvs more = kvs ++ more
  | [], kvs, _ => by simp [mergeD]
  | kv :: more, kvs, h => by
    have e : mergeD kvs (kv :: more) = mergeD (putD kvs kv.1 kv.2) more := rfl
    have nk : kv.1 ∉ kvs.map (·.1) := by
      rw [List.map_append, List.map_cons, List.nodup_append] at h
      intro hm
      exact h.2.2 _ hm _ (List.mem_cons_self ..) rfl
    rw [e, putD_new nk, mergeD_nd (by simpa using h)]
    simp
theorem src_nd {chs : List (String × Src)} (h : (chs.map (·.1)).Nodup) : ((chs.map srcKV).map (·.1)).Nodup := by
  rw [List.map_map]
  have : ((fun x : Key × D => x.1) ∘ srcKV) = fun c : String × Src => (Sum.inr (Str.ofString c.1) : Key) := rfl
  rw [this]
  have e : chs.map (fun c : String × Src => (Sum.inr (Str.ofString c.1) : Key)) = (chs.map (·.1)).map fun s => (Sum.inr (Str.ofString s) : Key) := by rw [List.map_map]; rfl
  rw [e]
  exact List.Pairwise.map _ (fun a b (hab : a ≠ b) => fun z => hab (ofString_inj.mp (Sum.inr.inj z))) h
theorem dict_chs {chs : List (String × Src)} (h : (chs.map (·.1)).Nodup) (hl : chs.length ≤ 10) (S : Sto) : bDict [chsD chs] S = some (.loc S.length, S ++ [.dk (chs.map srcKV)]) := by
  simp only [bDict, chsD, pairs_mapM]
  rw [if_pos (by rw [sizeLine_eq]; simp; omega)]
  have : mergeD [] (chs.map srcKV) = chs.map srcKV := by rw [mergeD_nd (kvs := []) (by simpa using src_nd h)]; rfl
  simp only [Option.map_some, this]
theorem val_chs (w : String) : ∀ chs : List (String × Src), valD (chs.map srcKV) (.inr (Str.ofString w)) = (chs.find? fun c => decide (c.1 = w)).map fun c => c.2.d
  | [] => rfl
  | c :: l => by
    have ih := val_chs w l
    unfold valD at ih ⊢
    rw [List.map_cons, List.find?_cons, List.find?_cons]
    have e : decide ((srcKV c).1 = Sum.inr (Str.ofString w)) = decide (c.1 = w) := by
      rw [Bool.eq_iff_iff]; simp [srcKV, ofString_inj]
    rw [e]
    cases decide (c.1 = w) with
    | true => rfl
    | false => exact ih
theorem shownB_find {l : Layer} (h : (l.chs.map (·.1)).Nodup) (w : String) : shownB l w = match l.chs.find? fun c => decide (c.1 = w) with | some c => c.2.isCol | none => false := by
  unfold shownB
  generalize l.chs = chs at h
  induction chs with
  | nil => rfl
  | cons c r ih =>
    rw [List.map_cons, List.nodup_cons] at h
    rw [List.any_cons, List.find?_cons, ih h.2]
    by_cases e : c.1 = w
    · have : (r.find? fun c => decide (c.1 = w)) = none := by
        rw [List.find?_eq_none]
        intro x hx
        simp
        intro z
        exact h.1 (List.mem_map.mpr ⟨x, hx, by rw [z, e]⟩)
      simp [e, this]
    · simp [e]
def shKV (l : Layer) (w : String) : Key × D := (.inr (Str.ofString w), match l.chs.find? fun c => decide (c.1 = w) with | some c => c.2.val | none => .non)
end Gn
namespace K79
open PySem PySem.Spec PyProof.Rows L2 Cs Gn
section
variable {sc : List D} {k n : Nat} {t : Tp} {W : Sto} {Q : D → Sto → Prop}
inductive ShI (sc : List D) (t : Tp) (W : Sto) (l : Layer) : List D → Ev → Sto → Prop where
  | mk {done rest : List String} {o : Option D} (h : ORD = done ++ rest) : ShI sc t W l (rest.map fun s => sS s) [some l.d, some (.loc (ad W 0)), some (.loc (ad W 1)), o] (tp sc t ++ (W ++ [.dk (l.chs.map srcKV), .dk ((done.filter (shownB l)).map (shKV l))]))
@[simp] theorem setOp_ad (sc : List D) (t : Tp) (W J : Sto) (i : Nat) (z : D) (s : Str) : setOp z (.loc (ad W i)) (.str s) (tp sc t ++ (W ++ J)) = match getK J i with
    | some kvs => if kvs.length < sizeLine then some ((), tp sc t ++ (W ++ J.set i (.dk (putD kvs (.inr s) z)))) else none
    | none => match getT J i with | some _ => none | none => none := by
  simp only [setOp, tp_getK, tp_getT, tp_getM, Cs.keyD, keyT, tp_set]
  cases getK J i <;> cases getT J i <;> cases getM J i <;> rfl
@[simp] theorem cop_in_ad (sc : List D) (t : Tp) (W J : Sto) (i : Nat) (s : Str) (kvs : List (Key × D)) (h : getK J i = some kvs) : cop .isin (.str s) (.loc (ad W i)) (tp sc t ++ (W ++ J)) = some (.bl (valD kvs (.inr s)).isSome, tp sc t ++ (W ++ J)) := by
  have e : dkAt (.loc (ad W i)) (.str s) (tp sc t ++ (W ++ J)) = some (valD kvs (.inr s)) := by
    rw [dkAt_dict (kvs := kvs) (by rw [tp_getK]; exact h)]; rfl
  simp only [cop, e]
theorem c_shown_columns {l : Layer} (hn : (l.chs.map (·.1)).Nodup) (hl : l.chs.length ≤ 10) (h : Q (.loc (ad W 0)) (tp sc t ++ (W ++ [.dk ((shown l).map (shKV l))]))) :
    wp (callF tab G (k + 1) "shown_columns" [l.d] (tp sc t ++ W)) Q := by
  rw [callF_succ (by decide) rfl]
  refine wp_run rfl rfl ?_
  have e3 : atI [sS l.table, trsD l.trs, sS l.mark, chsD l.chs, sS l.paint, tagD l.tag] 3 = some (chsD l.chs) := atI_nat (j := 3) rfl
  simp [d_shown_columns, start', Layer.d, e3, dict_chs hn hl, G]
  refine wp_forQ (I := ShI sc t W l) ?_ ?_ ?_ _ _ _ (.mk (done := []) (rest := ORD) rfl)
  · intros; exact still_nil _
  · intro x xs env S I
    generalize ex : x :: xs = r at I
    obtain ⟨hd⟩ := I
    rename_i done rest o
    cases rest with
    | nil => cases ex
    | cons w rest =>
      simp only [List.map_cons, List.cons.injEq] at ex
      obtain ⟨rfl, rfl⟩ := ex
      refine ⟨_, rfl, ?_⟩
      have ndO : ORD.Nodup := by decide
      have hw : w ∉ done := by
        rw [hd, List.nodup_append] at ndO
        intro z
        exact ndO.2.2 w z w (List.mem_cons_self ..) rfl
      have ld : done.length < 7 := by have := congrArg List.length hd; simp at this; omega
      have lf : (done.filter (shownB l)).length < sizeLine := by rw [sizeLine_eq]; have := List.length_filter_le (shownB l) done; omega
      have sb := shownB_find hn w
      simp [val_chs]
      have nx : (shownB l w = true → ∀ o, ShI sc t W l (rest.map fun s => sS s) [some l.d, some (.loc (ad W 0)), some (.loc (ad W 1)), o] (tp sc t ++ (W ++ [.dk (l.chs.map srcKV), .dk ((done.filter (shownB l)).map (shKV l) ++ [shKV l w])]))) := by
        intro e o
        have := ShI.mk (sc := sc) (t := t) (W := W) (l := l) (done := done ++ [w]) (rest := rest) (o := o) (by rw [hd]; simp)
        simpa [e] using this
      have nx2 : (shownB l w = false → ∀ o, ShI sc t W l (rest.map fun s => sS s) [some l.d, some (.loc (ad W 0)), some (.loc (ad W 1)), o] (tp sc t ++ (W ++ [.dk (l.chs.map srcKV), .dk ((done.filter (shownB l)).map (shKV l))]))) := by
        intro e o
        have := ShI.mk (sc := sc) (t := t) (W := W) (l := l) (done := done ++ [w]) (rest := rest) (o := o) (by rw [hd]; simp)
        simpa [e] using this
      have put : ∀ z, putD ((done.filter (shownB l)).map (shKV l)) (.inr (Str.ofString w)) z = (done.filter (shownB l)).map (shKV l) ++ [(.inr (Str.ofString w), z)] := fun z => putD_new (by
        intro hm
        obtain ⟨kv, h1, h2⟩ := List.mem_map.mp hm
        obtain ⟨w', h3, rfl⟩ := List.mem_map.mp h1
        have : w' = w := ofString_inj.mp (Sum.inr.inj h2)
        subst this
        exact hw ((List.mem_filter.mp h3).1)) z
      cases hf : l.chs.find? (fun c => decide (c.1 = w)) with
      | none =>
        rw [hf] at sb
        simp
        exact nx2 sb _
      | some c =>
        rw [hf] at sb
        cases hs : c.2 with
        | col nm =>
          simp [Src.d, atI_0, atI_1, hs, lf, put, val_chs, hf]
          have := nx (by rw [sb]; simp [hs, Src.isCol]) (some (sS w))
          simp [shKV, hf, hs, Src.val] at this
          simpa [shKV] using this
        | con v =>
          simp [Src.d, atI_0, atI_1, hs, ofString_inj]
          exact nx2 (by rw [sb]; simp [hs, Src.isCol]) _
  · intro env S I
    generalize ex : ([] : List D) = r at I
    obtain ⟨hd⟩ := I
    rename_i done rest o
    cases rest with
    | cons _ _ => cases ex
    | nil =>
      simp only [List.append_nil] at hd
      subst hd
      simp
      have um : ∀ N : Nat, D.undL N (((ORD.filter (shownB l)).map (shKV l)).map (·.2)) := by
        intro N
        refine und_pureL N _ (pureL_iff.mpr fun d hd => ?_)
        obtain ⟨kv, h1, rfl⟩ := List.mem_map.mp hd
        obtain ⟨w, h2, rfl⟩ := List.mem_map.mp h1
        have h3 := (List.mem_filter.mp h2).2
        rw [shownB_find hn w] at h3
        unfold shKV
        cases hf : l.chs.find? (fun c => decide (c.1 = w)) with
        | none => rfl
        | some c =>
          rw [hf] at h3
          cases hs : c.2 with
          | col nm => simp only [hs, Src.val]; rfl
          | con v => simp only [hs, Src.isCol] at h3; cases h3
      refine wp_fin_g (so := .dk ((ORD.filter (shownB l)).map (shKV l))) (.tp ..) (by simp only [tp, Cs.ad, List.length_append, List.length_cons, List.length_nil]; omega) (by rw [tp_get]; rfl) ⟨rfl, um _⟩ ?_
      rw [tp_take, tp_app, tp_len]
      exact h
theorem c_shown_channels {l : Layer} (hn : (l.chs.map (·.1)).Nodup) (hl : l.chs.length ≤ 10) (h : Q (.tup ((Gn.shown l).map fun s => sS s)) (tp sc t ++ W)) :
    wp (callF tab G (k + 2) "shown_channels" [l.d] (tp sc t ++ W)) Q := by
  rw [callF_succ (by decide) rfl]
  refine wp_run rfl rfl ?_
  simp [d_shown_channels, start']
  refine c_shown_columns hn hl ?_
  have e : ((Gn.shown l).map (shKV l)).map (fun kv => kD kv.1) = (Gn.shown l).map fun s => sS s := by rw [List.map_map]; rfl
  simp only [List.map_map] at e
  simp [bList_at, e]
  have := e
  refine wp_fin_J [.dk ((Gn.shown l).map (shKV l)), .lst ((Gn.shown l).map fun s => sS s)] (by simp) ?_ h
  simp [D.pure]
  exact pureL_iff.mpr fun d hd => by obtain ⟨w, hw, rfl⟩ := List.mem_map.mp hd; rfl
end
end K79

set_option Elab.async false
set_option linter.all false
set_option maxRecDepth 100000
namespace Gn
open PySem PySem.Spec PyProof.Rows L2 Cs
theorem word_in (w : String) (ws : List String) (hw : w.length ≤ 100) (h : ∀ x ∈ ws, x.length ≤ 100) (S : Sto) : cop .isin (sS w) (.tup (ws.map fun s => sS s)) S = some (.bl (decide (w ∈ ws)), S) := by
  rw [in_tup (n := 1) (w := 100) (.lit _ hw 1) (strs_nc h) (by omega), any_strs]
def urL (v : View) (i k : Int) (l : Layer) : List D := ((shown l).filter fun w => !rd v w).map fun w => .tup [.int i, .int k, sS w]
def urV (v : View) (i : Int) : Int → List Layer → List D
  | _, [] => []
  | k, l :: ls => urL v i k l ++ urV v i (k + 1) ls
def urS : Int → List View → List D
  | _, [] => []
  | i, v :: vs => urV v i 0 v.layers ++ urS (i + 1) vs
end Gn
namespace K79
open PySem PySem.Spec PyProof.Rows L2 Cs Gn
section
variable {sc : List D} {k n : Nat} {t : Tp} {W : Sto} {Q : D → Sto → Prop}
theorem c_is_declared {S : Sto} {dom : Dom} {a : D} {rest : List D} (h : Q (.bl dom.decl) S) : wp (callF tab G (k + 1) "is_declared" [.tup (a :: dom.d :: rest)] S) Q := by
  rw [callF_succ (by decide) rfl]
  refine wp_run rfl rfl ?_
  have e := fun w hw => word_in w ["from", "of"] hw (by decide) S
  simp at e
  cases dom with
  | fit => simp [d_is_declared, start', atI_0, atI_1, Dom.d, e "fit" (by decide)]; exact wp_fin_same rfl h
  | zero => simp [d_is_declared, start', atI_0, atI_1, Dom.d, e "zero" (by decide)]; exact wp_fin_same rfl h
  | «from» p q r s => simp [d_is_declared, start', atI_0, atI_1, Dom.d, e "from" (by decide)]; exact wp_fin_same rfl h
  | of cs => simp [d_is_declared, start', atI_0, atI_1, Dom.d, e "of" (by decide)]; exact wp_fin_same rfl h
def scD : View → String → D
  | v, w => if w = "x" ∨ w = "x2" then v.x.d else if w = "y" ∨ w = "y2" then v.y.d else if w = "color" then .tup [sS v.pal, v.hdom.d, legD v.leg] else .non
theorem scD_pure {ts : List (String × List Col)} {v : View} (hv : v.Ok ts) (w : String) : (scD v w).pure = true := by
  by_cases h1 : w = "x" ∨ w = "x2"
  · simp [scD, h1, scale_pure hv.x]
  by_cases h2 : w = "y" ∨ w = "y2"
  · simp [scD, h1, h2, scale_pure hv.y]
  by_cases h3 : w = "color"
  · simp [scD, h3, D.pure, D.pureL, dom_pure hv.hdom, leg_pure]
  · simp [scD, h1, h2, h3, D.pure]
theorem c_scale_of {S : Sto} {m : Nat} {s : Gn.Spec} {v : View} {i : Int} {w : String} (hs : s.Ok m) (hm : v ∈ s.views) (hv : atI (s.views.map View.d) i = some v.d) (hw : w ∈ ORD) (h : Q (scD v w) S) : wp (callF tab G (k + 1) "scale_of" [s.d, .int i, sS w] S) Q := by
  rw [callF_succ (by decide) rfl]
  refine wp_run rfl rfl ?_
  have pr := scD_pure (hs.views v hm) w
  have a3 : ∀ l, atI [sS v.name, sS v.title, .tup [.int v.w, .int v.h], v.x.d, v.y.d, .tup [sS v.pal, v.hdom.d, legD v.leg], l] 3 = some v.x.d := fun l => atI_nat (j := 3) rfl
  have a4 : ∀ l, atI [sS v.name, sS v.title, .tup [.int v.w, .int v.h], v.x.d, v.y.d, .tup [sS v.pal, v.hdom.d, legD v.leg], l] 4 = some v.y.d := fun l => atI_nat (j := 4) rfl
  have a5 : ∀ l, atI [sS v.name, sS v.title, .tup [.int v.w, .int v.h], v.x.d, v.y.d, .tup [sS v.pal, v.hdom.d, legD v.leg], l] 5 = some (.tup [sS v.pal, v.hdom.d, legD v.leg]) := fun l => atI_nat (j := 5) rfl
  simp [View.d] at hv
  simp only [List.mem_cons, List.not_mem_nil, or_false] at hw
  rcases hw with rfl | rfl | rfl | rfl | rfl | rfl | rfl <;> simp [d_scale_of, start', Gn.Spec.d, G, tabAt, ofString_inj, atI_2, View.d, hv, a3, a4, a5] <;> simp [scD] at h pr <;> exact wp_fin_same (by first | exact pr | rfl) h
theorem c_can_read {S : Sto} {m : Nat} {s : Gn.Spec} {v : View} {i : Int} {w : String} (hs : s.Ok m) (hm : v ∈ s.views) (hv : atI (s.views.map View.d) i = some v.d) (hw : w ∈ ORD) (h : Q (.bl (rd v w)) S) : wp (callF tab G (k + 2) "can_read" [s.d, .int i, sS w] S) Q := by
  rw [callF_succ (by decide) rfl]
  refine wp_run rfl rfl ?_
  have vok := hs.views v hm
  have hw' := hw
  have pos : ∀ sl : Scale, sl.Ok → scD v w = sl.d → rd v w = rdS sl → w ≠ "color" → wp (exSs ⟨callF tab G (k + 1), G⟩ d_can_read.body (start' d_can_read [s.d, .int i, sS w]) S) (retQ S Q) := by
    intro sl ok e1 e2 e3
    simp [d_can_read, start']
    refine c_scale_of hs hm hv hw ?_
    rw [e1]
    simp [Scale.d, isN, ofString_inj, e3]
    refine c_is_declared ?_
    rw [e2] at h
    have a3 : ∀ a b c d e f, atI [a, b, c, d, e, f] 3 = some (d : D) := fun _ _ _ _ _ _ => atI_nat (j := 3) rfl
    have a5 : ∀ a b c d e f, atI [a, b, c, d, e, f] 5 = some (f : D) := fun _ _ _ _ _ _ => atI_nat (j := 5) rfl
    cases hd : sl.dom.decl with
    | true =>
      have q : rdS sl = (sl.sk.isB || !sl.clamp) := by simp [rdS, hd]
      cases hk : sl.sk with
      | lin =>
        simp [SK.form, atI_0, a3, ofString_inj]
        exact wp_fin_same rfl (by rw [q, hk] at h; simpa [SK.isB] using h)
      | band kd =>
        simp [SK.form, atI_0, a3, ofString_inj]
        exact wp_fin_same rfl (by rw [q, hk] at h; simpa [SK.isB] using h)
    | false =>
      have q : rdS sl = sl.axis.isSome := by simp [rdS, hd]
      simp [a5]
      exact wp_fin_same rfl (by rw [q] at h; simpa using h)
  simp only [List.mem_cons, List.not_mem_nil, or_false] at hw'
  rcases hw' with rfl | rfl | rfl | rfl | rfl | rfl | rfl
  · exact pos v.x vok.x (by simp [scD]) (by simp [rd]) (by decide)
  · exact pos v.x vok.x (by simp [scD]) (by simp [rd]) (by decide)
  · exact pos v.y vok.y (by simp [scD]) (by simp [rd]) (by decide)
  · exact pos v.y vok.y (by simp [scD]) (by simp [rd]) (by decide)
  · simp [d_can_read, start']
    refine c_scale_of hs hm hv hw ?_
    simp [scD, isN, ofString_inj]
    refine c_is_declared ?_
    have q : rd v "color" = (v.hdom.decl || v.leg.isSome) := by simp [rd]
    rw [q] at h
    cases hd : v.hdom.decl with
    | true =>
      simp
      exact wp_fin_same rfl (by rw [hd] at h; simpa using h)
    | false =>
      simp [atI_2, -isN]
      rw [hd] at h
      cases hl : v.leg with
      | none => exact wp_fin_same rfl (by rw [hl] at h; exact h)
      | some a => exact wp_fin_same rfl (by rw [hl] at h; exact h)
  · simp [d_can_read, start']
    refine c_scale_of hs hm hv hw ?_
    simp [scD, isN, ofString_inj]
    exact wp_fin_same rfl (by simpa [rd] using h)
  · simp [d_can_read, start']
    refine c_scale_of hs hm hv hw ?_
    simp [scD, isN, ofString_inj]
    exact wp_fin_same rfl (by simpa [rd] using h)
theorem c_law_can_read {S : Sto} {ts : List (String × List Col)} {v : View} {w : String} (vok : v.Ok ts) (hw : w ∈ ORD) (h : Q (.bl (rd v w)) S) : wp (callF tab G (k + 1) "_law_can_read" [v.d, sS w] S) Q := by
  rw [callF_succ (by decide) rfl]
  refine wp_run rfl rfl ?_
  have hw' := hw
  have pos : ∀ (sl : Scale) (c : String) (m : Int), sl.Ok → (∀ S, iop (sS w) (.int 0) S = some (sS c, S)) → (if Str.ofString c = Str.ofString "y" then 1 else 0 : Int) = m → (∀ S, iop v.d (.int (3 + m)) S = some (sl.d, S)) → rd v w = rdS sl → w ≠ "color" → w ≠ "text" → w ≠ "detail" →
      wp (exSs ⟨callF tab G k, G⟩ d_law_can_read.body (start' d_law_can_read [v.d, sS w]) S) (retQ S Q) := by
    intro sl c m ok e0 em e1 e2 n1 n2 n3
    simp [d_law_can_read, start', ofString_inj, n1, n2, n3, e0, atI_0]
    have em' : (if c = "y" then 1 else 0 : Int) = m := by rw [← em]; simp [ofString_inj]
    rw [em']
    simp [e1]
    rw [e2] at h
    have a3 : ∀ a b c d e f, atI [a, b, c, d, e, f] 3 = some (d : D) := fun _ _ _ _ _ _ => atI_nat (j := 3) rfl
    have a5 : ∀ a b c d e f, atI [a, b, c, d, e, f] 5 = some (f : D) := fun _ _ _ _ _ _ => atI_nat (j := 5) rfl
    have fitc : sl.dom = .fit ∨ sl.dom = .zero → rdS sl = sl.axis.isSome := by rintro (z | z) <;> simp [rdS, z, Dom.decl]
    have decc : sl.dom.decl = true → rdS sl = (sl.sk.isB || !sl.clamp) := fun z => by simp [rdS, z]
    have cn : ∀ S, iop (axisD sl.axis) (.int 0) S = iop (axisD sl.axis) (.int 0) S := fun _ => rfl
    cases hd : sl.dom with
    | fit =>
      rw [fitc (.inl hd)] at h
      simp [Scale.d, hd, Dom.d, atI_0, atI_1, ofString_inj, a3, a5]
      cases ha : sl.axis with
      | none => simp [axisD, isN]; exact wp_fin_same rfl (by rw [ha] at h; exact h)
      | some a => simp [axisD, isN, Axis.d]; exact wp_fin_same rfl (by rw [ha] at h; exact h)
    | zero =>
      rw [fitc (.inr hd)] at h
      simp [Scale.d, hd, Dom.d, atI_0, atI_1, ofString_inj, a3, a5]
      cases ha : sl.axis with
      | none => simp [axisD, isN]; exact wp_fin_same rfl (by rw [ha] at h; exact h)
      | some a => simp [axisD, isN, Axis.d]; exact wp_fin_same rfl (by rw [ha] at h; exact h)
    | «from» p q r s =>
      rw [decc (by rw [hd]; rfl)] at h
      simp [Scale.d, hd, Dom.d, atI_0, atI_1, ofString_inj, a3, a5]
      have : ∀ (a : Option Axis) (S' : Sto) {R : D → Sto → Prop}, R (.bl (isN (axisD a))) S' → True := fun _ _ _ _ => trivial
      cases ha : sl.axis <;> cases hk : sl.sk <;> simp [axisD, isN, Axis.d, SK.form, atI_0, a3, ofString_inj] <;> exact wp_fin_same rfl (by rw [hk] at h; simpa [SK.isB] using h)
    | of cs =>
      rw [decc (by rw [hd]; rfl)] at h
      simp [Scale.d, hd, Dom.d, atI_0, atI_1, ofString_inj, a3, a5]
      cases ha : sl.axis <;> cases hk : sl.sk <;> simp [axisD, isN, Axis.d, SK.form, atI_0, a3, ofString_inj] <;> exact wp_fin_same rfl (by rw [hk] at h; simpa [SK.isB] using h)
  simp only [List.mem_cons, List.not_mem_nil, or_false] at hw'
  have b3 : ∀ S, iop v.d (.int 3) S = some (v.x.d, S) := fun S => by
    have e : atI [sS v.name, sS v.title, .tup [.int v.w, .int v.h], v.x.d, v.y.d, .tup [sS v.pal, v.hdom.d, legD v.leg], .tup (v.layers.map Layer.d)] 3 = some v.x.d := atI_nat (j := 3) rfl
    simp [View.d, e]
  have b4 : ∀ S, iop v.d (.int (3 + 1)) S = some (v.y.d, S) := fun S => by
    have e : atI [sS v.name, sS v.title, .tup [.int v.w, .int v.h], v.x.d, v.y.d, .tup [sS v.pal, v.hdom.d, legD v.leg], .tup (v.layers.map Layer.d)] 4 = some v.y.d := atI_nat (j := 4) rfl
    simp [View.d, e]
  rcases hw' with rfl | rfl | rfl | rfl | rfl | rfl | rfl
  · exact pos v.x "x" 0 vok.x w_x (by simp [ofString_inj]) (by simpa using b3) (by simp [rd]) (by decide) (by decide) (by decide)
  · exact pos v.x "x" 0 vok.x w_x2 (by simp [ofString_inj]) (by simpa using b3) (by simp [rd]) (by decide) (by decide) (by decide)
  · exact pos v.y "y" 1 vok.y w_y (by simp [ofString_inj]) b4 (by simp [rd]) (by decide) (by decide) (by decide)
  · exact pos v.y "y" 1 vok.y w_y2 (by simp [ofString_inj]) b4 (by simp [rd]) (by decide) (by decide) (by decide)
  · have q : rd v "color" = (v.hdom.decl || v.leg.isSome) := by simp [rd]
    have b5 : atI [sS v.name, sS v.title, .tup [.int v.w, .int v.h], v.x.d, v.y.d, .tup [sS v.pal, v.hdom.d, legD v.leg], .tup (v.layers.map Layer.d)] 5 = some (.tup [sS v.pal, v.hdom.d, legD v.leg]) := atI_nat (j := 5) rfl
    rw [q] at h
    simp [d_law_can_read, start', ofString_inj, View.d, b5, atI_0, atI_1, atI_2]
    cases hl : v.leg with
    | some a => simp [legD, isN]; exact wp_fin_same rfl (by rw [hl] at h; simpa using h)
    | none =>
      simp [legD, isN]
      rw [hl] at h
      have := vok.kc
      cases hd : v.hdom with
      | fit => simp [Dom.d, atI_0, ofString_inj]; exact wp_fin_same rfl (by rw [hd] at h; exact h)
      | zero =>
        have z := vok.hdom
        rw [hd] at z
        generalize v.kc = kc at z this
        cases z; exact absurd rfl this
      | «from» p q r s => simp [Dom.d, atI_0, ofString_inj]; exact wp_fin_same rfl (by rw [hd] at h; exact h)
      | of cs => simp [Dom.d, atI_0, ofString_inj]; exact wp_fin_same rfl (by rw [hd] at h; exact h)
  · simp [d_law_can_read, start', ofString_inj]
    exact wp_fin_same rfl (by simpa [rd] using h)
  · simp [d_law_can_read, start', ofString_inj]
    exact wp_fin_same rfl (by simpa [rd] using h)
end
end K79

set_option Elab.async false
set_option linter.all false
set_option maxRecDepth 100000
namespace Gn
open PySem PySem.Spec PyProof.Rows L2 Cs
theorem urL_len (v : View) (i k : Int) (l : Layer) : (urL v i k l).length ≤ 7 := by
  unfold urL
  rw [List.length_map]
  refine Nat.le_trans (List.length_filter_le ..) ?_
  unfold shown
  exact Nat.le_trans (List.length_filter_le ..) (by decide)
theorem urV_len (v : View) (i : Int) : ∀ (k : Int) (ls : List Layer), (urV v i k ls).length ≤ 7 * ls.length
  | _, [] => by simp [urV]
  | k, l :: ls => by
    have := urL_len v i k l
    have := urV_len v i (k + 1) ls
    simp only [urV, List.length_append, List.length_cons]; omega
theorem urS_len {ts : List (String × List Col)} : ∀ (i : Int) (vs : List View), (∀ v ∈ vs, v.Ok ts) → (urS i vs).length ≤ 28 * vs.length
  | _, [], _ => by simp [urS]
  | i, v :: vs, h => by
    have := urV_len v i 0 v.layers
    have := urS_len (i + 1) vs fun v' hv => h v' (List.mem_cons_of_mem _ hv)
    have := (h v (List.mem_cons_self ..)).len
    simp only [urS, List.length_append, List.length_cons]; omega
theorem ur1_nc {i k : Int} (hi : i.natAbs < 1000) (hk : k.natAbs < 1000) {w : String} (hw : w.length ≤ 40) : Nc 1 200 (.tup [.int i, .int k, sS w]) := by
  refine (Nc.tup (n := 0) (w := 40) fun d hd => ?_).mono (by omega) (by simp)
  simp at hd
  rcases hd with rfl | rfl | rfl
  · exact .int (by omega) 0
  · exact .int (by omega) 0
  · exact .lit _ hw 0
theorem shown_ord {l : Layer} : ∀ w ∈ shown l, w ∈ ORD := fun w hw => (List.mem_filter.mp hw).1
theorem ord_len {w : String} (h : w ∈ ORD) : w.length ≤ 40 := by
  simp only [List.mem_cons, List.not_mem_nil, or_false] at h
  rcases h with rfl | rfl | rfl | rfl | rfl | rfl | rfl <;> decide
theorem urL_nc {v : View} {i k : Int} (hi : i.natAbs < 1000) (hk : k.natAbs < 1000) (l : Layer) : ∀ d ∈ urL v i k l, Nc 1 200 d := fun d hd => by
  obtain ⟨w, hw, rfl⟩ := List.mem_map.mp hd
  exact ur1_nc hi hk (ord_len (shown_ord w (List.mem_filter.mp hw).1))
theorem urV_nc {v : View} {i : Int} (hi : i.natAbs < 1000) : ∀ (k : Int) (ls : List Layer), 0 ≤ k → k + ls.length < 1000 → ∀ d ∈ urV v i k ls, Nc 1 200 d
  | _, [], _, _ => fun d hd => by simp [urV] at hd
  | k, l :: ls, h0, h => fun d hd => by
    simp only [List.length_cons] at h
    simp only [urV, List.mem_append] at hd
    rcases hd with hd | hd
    · exact urL_nc hi (by omega) l d hd
    · exact urV_nc hi (k + 1) ls (by omega) (by omega) d hd
theorem urS_nc {ts : List (String × List Col)} : ∀ (i : Int) (vs : List View), (∀ v ∈ vs, v.Ok ts) → 0 ≤ i → i + vs.length < 1000 → ∀ d ∈ urS i vs, Nc 1 200 d
  | _, [], _, _, _ => fun d hd => by simp [urS] at hd
  | i, v :: vs, hv, h0, h => fun d hd => by
    simp only [List.length_cons] at h
    simp only [urS, List.mem_append] at hd
    rcases hd with hd | hd
    · exact urV_nc (by omega) 0 v.layers (by omega) (by have := (hv v (List.mem_cons_self ..)).len; omega) d hd
    · exact urS_nc (i + 1) vs (fun v' hv' => hv v' (List.mem_cons_of_mem _ hv')) (by omega) (by omega) d hd
theorem enumD_cons (i : Nat) (x : D) (xs : List D) : enumD i (x :: xs) = .tup [.int i, x] :: enumD (i + 1) xs := rfl
theorem chs_words {ts : List (String × List Col)} {kx ky kc : SK} {n : Int} {l : Layer} (h : l.Ok ts kx ky kc n) : (l.chs.map (·.1)).Nodup ∧ l.chs.length ≤ 10 := ⟨h.words.1, by have := h.words.len; simp at this; omega⟩
end Gn
namespace K79
open PySem PySem.Spec PyProof.Rows L2 Cs Gn
section
variable {sc : List D} {k n : Nat} {t : Tp} {W : Sto} {Q : D → Sto → Prop}
theorem c_law_shown {l : Layer} (hn : (l.chs.map (·.1)).Nodup) (hl : l.chs.length ≤ 10) (hw : ∀ w ∈ l.chs.map (·.1), w.length ≤ 100) (h : Q (.loc (ad W 0)) (tp sc t ++ (W ++ [.lst ((Gn.shown l).map fun s => sS s)]))) :
    wp (callF tab G (k + 1) "_law_shown" [l.d] (tp sc t ++ W)) Q := by
  rw [callF_succ (by decide) rfl]
  refine wp_run rfl rfl ?_
  have e3 : atI [sS l.table, trsD l.trs, sS l.mark, chsD l.chs, sS l.paint, tagD l.tag] 3 = some (chsD l.chs) := atI_nat (j := 3) rfl
  simp [d_law_shown, start', Layer.d, e3]
  refine wp_lc_pure (S0 := tp sc t ++ W) chD (fun c => c.2.isCol) (fun c => sS c.1) (by simp) (by simp) (fun _ => still_nil _) (by rw [sizeLine_eq]; omega) (fun c hc acc => ⟨_, rfl, ?_⟩) ?_
  · cases hs : c.2 with
    | col nm => simp [chD, hs, Src.d, atI_0, atI_1, wipeE, Tg.slots, Src.isCol]
    | con v => simp [chD, hs, Src.d, atI_0, atI_1, wipeE, Tg.slots, Src.isCol, ofString_inj]
  have ef : (l.chs.filter fun c => c.2.isCol).map (fun c => sS c.1) = ((l.chs.filter fun c => c.2.isCol).map (·.1)).map fun s => sS s := by rw [List.map_map]; rfl
  rw [ef]
  generalize hfd : (l.chs.filter fun c => c.2.isCol).map (·.1) = fd
  have hin : ∀ w, decide (w ∈ fd) = shownB l w := by
    intro w
    rw [← hfd, Bool.eq_iff_iff]
    simp [shownB]
    constructor
    · rintro ⟨s, h1, h2⟩; exact ⟨w, s, h1, rfl, h2⟩
    · rintro ⟨a, b, h1, rfl, h2⟩; exact ⟨b, h1, h2⟩
  have hfw : ∀ w ∈ fd, w.length ≤ 100 := fun w hm => by
    rw [← hfd] at hm
    obtain ⟨c, hc, rfl⟩ := List.mem_map.mp hm
    exact hw _ (List.mem_map_of_mem (List.mem_filter.mp hc).1)
  simp
  refine wp_lc_pure (l := ORD) (S0 := tp sc t ++ (W ++ [.lst (fd.map fun s => sS s), .lst (ORD.map fun s => sS s)])) (fun s => sS s) (shownB l) (fun s => sS s) (by simp) (by simp) (fun acc => still_one (by simp)) (by rw [sizeLine_eq]; decide) (fun w hc acc => ⟨_, rfl, ?_⟩) ?_
  · have en := in_loc (S := tp sc t ++ (W ++ [.lst (fd.map fun s => sS s), .lst (ORD.map fun s => sS s), .lst acc])) (m := ad W 0) (x := sS w) (ys := fd.map fun s => sS s) (n := 1) (w := 100) (.lit _ (by have := ord_len hc; omega) 1) (by simp) (strs_nc hfw) (by omega)
    rw [any_strs, hin] at en
    simp at en
    simp [wipeE, Tg.slots, en]
  · simp
    exact wp_fin_tpL (i := 2) (xs := (Gn.shown l).map fun s => sS s) rfl (pureL_iff.mpr fun d hd => by obtain ⟨w, hw, rfl⟩ := List.mem_map.mp hd; rfl) h
/-! ### unread -/
def U1 (sc : List D) (t : Tp) (W : Sto) (s : Gn.Spec) (xs : List D) (env : Ev) (S : Sto) : Prop :=
  ∃ (done rest : List View) (acc : List D) (o2 o3 o4 o5 o6 : Option D), s.views = done ++ rest ∧ xs = enumD done.length (rest.map View.d) ∧ acc ++ urS done.length rest = urS 0 s.views ∧
    env = [some s.d, some (.loc (ad W 0)), o2, o3, o4, o5, o6] ∧ S = tp sc t ++ (W ++ [.lst acc])
def U2 (sc : List D) (t : Tp) (W : Sto) (s : Gn.Spec) (v : View) (done rest : List View) (xs : List D) (env : Ev) (S : Sto) : Prop :=
  ∃ (d2 r2 : List Layer) (acc : List D) (o4 o5 o6 : Option D), v.layers = d2 ++ r2 ∧ xs = enumD d2.length (r2.map Layer.d) ∧ acc ++ (urV v done.length d2.length r2 ++ urS (done.length + 1) rest) = urS 0 s.views ∧
    env = [some s.d, some (.loc (ad W 0)), some (.int done.length), some v.d, o4, o5, o6] ∧ S = tp sc t ++ (W ++ [.lst acc])
def U3 (sc : List D) (t : Tp) (W : Sto) (s : Gn.Spec) (v : View) (l : Layer) (done rest : List View) (d2 r2 : List Layer) (xs : List D) (env : Ev) (S : Sto) : Prop :=
  ∃ (ws : List String) (acc : List D) (o6 : Option D), (∀ w ∈ ws, w ∈ ORD) ∧ xs = ws.map (fun s => sS s) ∧ acc ++ ((ws.filter fun w => !rd v w).map (fun w => .tup [.int done.length, .int d2.length, sS w]) ++ (urV v done.length (d2.length + 1) r2 ++ urS (done.length + 1) rest)) = urS 0 s.views ∧
    env = [some s.d, some (.loc (ad W 0)), some (.int done.length), some v.d, some (.int d2.length), some l.d, o6] ∧ S = tp sc t ++ (W ++ [.lst acc])
theorem c_unread {m : Nat} {s : Gn.Spec} (hs : s.Ok m) (hm : m ≤ 3) (h : Q (.tup (urS 0 s.views)) (tp sc t ++ W)) : wp (callF tab G (k + 3) "unread" [s.d] (tp sc t ++ W)) Q := by
  rw [callF_succ (by decide) rfl]
  refine wp_run rfl rfl ?_
  have hlen : (urS 0 s.views).length ≤ 84 := by have := urS_len 0 s.views hs.views; have := hs.len; omega
  have lim : ∀ (acc X : List D), acc ++ X = urS 0 s.views → acc.length < sizeLine := fun acc X e => by
    have := congrArg List.length e
    rw [sizeLine_eq]; simp at this; omega
  have e2 : ∀ S, iop s.d (.int 2) S = some (.tup (s.views.map View.d), S) := fun S => by simp [Gn.Spec.d, atI_2]
  simp [d_unread, start', e2]
  refine wp_forQ (I := U1 sc t W s) ?_ ?_ ?_ _ _ _ ⟨[], s.views, [], _, _, _, _, _, rfl, rfl, rfl, rfl, rfl⟩
  · intros; exact still_nil _
  · rintro x xs env S ⟨done, rest, acc, o2, o3, o4, o5, o6, hv, hx, ha, rfl, rfl⟩
    cases rest with
    | nil => cases hx
    | cons v rest =>
      rw [List.map_cons, enumD_cons] at hx
      cases hx
      refine ⟨_, rfl, ?_⟩
      have hvm : v ∈ s.views := by rw [hv]; simp
      have vok := hs.views v hvm
      have hat : atI (s.views.map View.d) (done.length : Int) = some v.d := atI_nat (by rw [hv]; simp)
      have e6 : ∀ S, iop v.d (.int 6) S = some (.tup (v.layers.map Layer.d), S) := fun S => by
        have e : atI [sS v.name, sS v.title, .tup [.int v.w, .int v.h], v.x.d, v.y.d, .tup [sS v.pal, v.hdom.d, legD v.leg], .tup (v.layers.map Layer.d)] 6 = some (.tup (v.layers.map Layer.d)) := atI_nat (j := 6) rfl
        simp [View.d, e]
      simp [e6]
      refine wp_forQ (I := U2 sc t W s v done rest) ?_ ?_ ?_ _ _ _ ⟨[], v.layers, acc, _, _, _, rfl, rfl, by simpa [urS] using ha, rfl, rfl⟩
      · intros; exact still_nil _
      · rintro x xs env S ⟨d2, r2, acc, o4, o5, o6, hl, hx, ha, rfl, rfl⟩
        cases r2 with
        | nil => cases hx
        | cons l r2 =>
          rw [List.map_cons, enumD_cons] at hx
          cases hx
          refine ⟨_, rfl, ?_⟩
          have lok := vok.layers l (by rw [hl]; simp)
          obtain ⟨c1, c2⟩ := chs_words lok
          simp
          refine c_shown_channels (k := k) c1 c2 ?_
          simp
          refine wp_forQ (I := U3 sc t W s v l done rest d2 r2) ?_ ?_ ?_ _ _ _ ⟨Gn.shown l, acc, _, shown_ord, rfl, by simpa [urV, urL] using ha, rfl, rfl⟩
          · intros; exact still_nil _
          · rintro x xs env S ⟨ws, acc, o6, how, hx, ha, rfl, rfl⟩
            cases ws with
            | nil => cases hx
            | cons w ws =>
              cases hx
              refine ⟨_, rfl, ?_⟩
              simp
              refine c_can_read (k := k) hs hvm hat (how w (List.mem_cons_self ..)) ?_
              have how' : ∀ x ∈ ws, x ∈ ORD := fun x hx => how x (List.mem_cons_of_mem _ hx)
              cases hr : rd v w with
              | true =>
                simp
                exact ⟨ws, acc, _, how', rfl, by simpa [hr] using ha, rfl, rfl⟩
              | false =>
                simp [lim _ _ ha]
                exact ⟨ws, acc ++ [.tup [.int done.length, .int d2.length, sS w]], _, how', rfl, by simpa [hr] using ha, rfl, rfl⟩
          · rintro env S ⟨ws, acc, o6, how, hx, ha, rfl, rfl⟩
            cases ws with
            | cons _ _ => cases hx
            | nil =>
              simp
              exact ⟨d2 ++ [l], r2, acc, _, _, _, by rw [hl]; simp, by simp, by simpa using ha, rfl, rfl⟩
      · rintro env S ⟨d2, r2, acc, o4, o5, o6, hl, hx, ha, rfl, rfl⟩
        cases r2 with
        | cons _ _ => cases hx
        | nil =>
          simp
          exact ⟨done ++ [v], rest, acc, _, _, _, _, _, by rw [hv]; simp, by simp, by simpa [urV] using ha, rfl, rfl⟩
  · rintro env S ⟨done, rest, acc, o2, o3, o4, o5, o6, hv, hx, ha, rfl, rfl⟩
    cases rest with
    | cons _ _ => cases hx
    | nil =>
      simp [urS] at ha
      subst ha
      simp
      exact wp_fin_tp (by simp [D.pure]; exact pureL_iff.mpr fun d hd => (urS_nc 0 s.views hs.views (by omega) (by have := hs.len; omega) d hd).pure) h
end
end K79

set_option Elab.async false
set_option linter.all false
set_option maxRecDepth 100000
namespace K79
open PySem PySem.Spec PyProof.Rows L2 Cs Gn
section
variable {ns : List Int} {k n : Nat} {t : Tp} {W : Sto} {Q : D → Sto → Prop}
theorem law_can_eq {S : Sto} {ts : List (String × List Col)} {v : View} {w : String} (vok : v.Ok ts) (hw : w ∈ ORD) : callF tab G (k + 1) "_law_can_read" [v.d, sS w] S = some (.bl (rd v w), S) := by
  obtain ⟨d, S', e, rfl, rfl⟩ := c_law_can_read (k := k) (S := S) (Q := fun d S' => d = .bl (rd v w) ∧ S' = S) vok hw ⟨rfl, rfl⟩
  exact e
theorem can_eq {S : Sto} {m : Nat} {s : Gn.Spec} {v : View} {i : Int} {w : String} (hs : s.Ok m) (hm : v ∈ s.views) (hv : atI (s.views.map View.d) i = some v.d) (hw : w ∈ ORD) : callF tab G (k + 2) "can_read" [s.d, .int i, sS w] S = some (.bl (rd v w), S) := by
  obtain ⟨d, S', e, rfl, rfl⟩ := c_can_read (k := k) (S := S) (Q := fun d S' => d = .bl (rd v w) ∧ S' = S) hs hm hv hw ⟨rfl, rfl⟩
  exact e
def L1 (ns : List Int) (t : Tp) (W : Sto) (s : Gn.Spec) (o0 o1 : Option D) (xs : List D) (env : Ev) (S : Sto) : Prop :=
  ∃ (done rest : List View) (acc : List D) (J : Sto) (i : Nat) (o4 o5 o6 o7 o8 o9 : Option D), s.views = done ++ rest ∧ xs = rngD done.length rest.length ∧ acc ++ urS done.length rest = urS 0 s.views ∧ J[i]? = some (.lst acc) ∧
    env = [o0, o1, some s.d, some (.loc (ad W i)), o4, o5, o6, o7, o8, o9] ∧ S = tp (ns.map .int) t ++ (W ++ J)
def L2' (S0 : Sto) (xs : List D) (e0 : Ev) (env : Ev) (S : Sto) : Prop :=
  ∃ (ws : List String) (o6 o8 : Option D), (∀ w ∈ ws, w ∈ ORD) ∧ xs = ws.map (fun s => sS s) ∧ env = (e0.set 6 o6).set 8 o8 ∧ S = S0
def L3 (ns : List Int) (t : Tp) (W : Sto) (s : Gn.Spec) (o0 o1 : Option D) (v : View) (done rest : List View) (xs : List D) (env : Ev) (S : Sto) : Prop :=
  ∃ (d2 r2 : List Layer) (acc : List D) (J : Sto) (i : Nat) (o6 o7 o8 o9 : Option D), v.layers = d2 ++ r2 ∧ xs = rngD d2.length r2.length ∧ acc ++ (urV v done.length d2.length r2 ++ urS (done.length + 1) rest) = urS 0 s.views ∧ J[i]? = some (.lst acc) ∧
    env = [o0, o1, some s.d, some (.loc (ad W i)), some (.int done.length), some v.d, o6, o7, o8, o9] ∧ S = tp (ns.map .int) t ++ (W ++ J)
theorem rng_map {α : Type} (a : Int) (l : List α) : rngD a l.length = match l with | [] => [] | _ :: r => .int a :: rngD (a + 1) r.length := by
  cases l with
  | nil => rfl
  | cons x r => exact rngD_cons a r.length
set_option maxHeartbeats 2000000 in
theorem law_mid (ns : List Int) (k : Nat) (W : Sto) {t : Tp} (ht : t.ok 900000) : wp (exSs ⟨callF tab G (k + 8), G⟩ (d_law.body.drop 1) [some (.loc 0), some (.loc 2), none, none, none, none, none, none, none, none] (tp (ns.map .int) t ++ W)) (retQ [.ro (ns.map .int)] fun d _ => d = .bl true) := by
  have pre : ∀ (t : Tp) (X : Sto), wp (fin [.ro (ns.map .int)] (.bl true, tp (ns.map .int) t ++ X)) fun d _ => d = .bl true := fun t X =>
    wp_fin_p rfl ⟨by simp [tp], fun i so hi e => by
      have : i = 0 := by simp at hi; omega
      subst this
      exact .inl e⟩ rfl
  simp [d_law]
  refine c_draw (n := 2200) (ht.mono (by omega)) (by decide) (by decide) fun V t1 V0 V1 k1 => ?_
  simp
  refine c_draw (n := 2199) k1 (by decide) (by decide) fun L t2 L0 L1' k2 => ?_
  simp
  refine c_spec (n := 99) (m := (1 + V).toNat) (k := k) (by omega) (by omega) (by omega) (by omega) (by omega) k2 fun s t3 hs k3 => ?_
  have hm : (1 + V).toNat ≤ 3 := by omega
  generalize (1 + V).toNat = m at hs hm
  have e2 : ∀ S, iop s.d (.int 2) S = some (.tup (s.views.map View.d), S) := fun S => by simp [Gn.Spec.d, atI_2]
  obtain ⟨j, hj⟩ : ∃ j : Int, j = s.views.length := ⟨_, rfl⟩
  have ej : ∀ S, bLen [.tup (s.views.map View.d)] S = some (.int j, S) := fun S => by rw [hj]; simp
  have sl := hs.len
  have hlen : (urS 0 s.views).length ≤ 84 := by have := urS_len 0 s.views hs.views; omega
  have lim : ∀ (acc X : List D), acc ++ X = urS 0 s.views → acc.length ≤ 84 := fun acc X e => by
    have := congrArg List.length e
    simp at this; omega
  simp [-bLen_tup, e2, ej, items_rng (show smallI j from ⟨by omega, by omega⟩)]
  refine wp_forQ (I := L1 ns t3 W s (some (.loc 0)) (some (.loc 2))) ?_ ?_ ?_ _ _ _ ⟨[], s.views, [], [.lst []], 0, _, _, _, _, _, _, rfl, by rw [hj]; rfl, rfl, rfl, rfl, rfl⟩
  · intros; exact still_nil _
  · rintro x xs env S ⟨done, rest, acc, J, i, o4, o5, o6, o7, o8, o9, hv, hx, ha, hJ, rfl, rfl⟩
    cases rest with
    | nil => cases hx
    | cons v rest =>
      rw [rng_map] at hx
      cases hx
      refine ⟨_, rfl, ?_⟩
      have hvm : v ∈ s.views := by rw [hv]; simp
      have vok := hs.views v hvm
      have hat : atI (s.views.map View.d) (done.length : Int) = some v.d := atI_nat (by rw [hv]; simp)
      have e6 : ∀ S, iop v.d (.int 6) S = some (.tup (v.layers.map Layer.d), S) := fun S => by
        have e : atI [sS v.name, sS v.title, .tup [.int v.w, .int v.h], v.x.d, v.y.d, .tup [sS v.pal, v.hdom.d, legD v.leg], .tup (v.layers.map Layer.d)] 6 = some (.tup (v.layers.map Layer.d)) := atI_nat (j := 6) rfl
        simp [View.d, e]
      have ei : ∀ S, iop (.tup (s.views.map View.d)) (.int done.length) S = some (v.d, S) := fun S => by rw [iop_tup, hat]; rfl
      simp [-iop_tup, e2, ei]
      refine wp_forQ (I := fun xs env S => L2' (tp (ns.map .int) t3 ++ (W ++ (J ++ [.lst (ORD.map fun s => sS s)]))) xs [some (.loc 0), some (.loc 2), some s.d, some (.loc (ad W i)), some (.int done.length), some v.d, o6, o7, o8, o9] env S) ?_ ?_ ?_ _ _ _ ⟨ORD, o6, o8, fun _ h => h, rfl, rfl, rfl⟩
      · rintro xs env S ⟨ws, o6', o8', how, hx, rfl, rfl⟩
        exact still_one (by simp)
      · rintro x xs env S ⟨ws, o6', o8', how, hx, rfl, rfl⟩
        cases ws with
        | nil => cases hx
        | cons w ws =>
          cases hx
          refine ⟨_, rfl, ?_⟩
          have hw := how w (List.mem_cons_self ..)
          have c1 := fun S => can_eq (k := k + 6) (S := S) hs hvm hat hw
          have c2 := fun S => law_can_eq (k := k + 7) (S := S) vok hw
          have c3 : ∀ S, cop .ne (.bl (rd v w)) (.bl (rd v w)) S = some (.bl false, S) := fun S => by
            have z := cmpd_nc (Nc.bl (rd v w) 0 0) (by omega) S
            have y : PyData.eqv (PyData.bool (rd v w)) (PyData.bool (rd v w)) = true := SeqAt.eqv_refl _ (by simp [PyData.canLay0])
            simp only [D.py] at z
            simp only [cop, dkAt, copL, copEq, scD, z, y]; rfl
          simp [c1, c2, c3, noDk, isiB, isiN, tyN]
          exact ⟨ws, _, _, fun x hx => how x (List.mem_cons_of_mem _ hx), rfl, rfl, rfl⟩
      · rintro env S ⟨ws, o6', o8', how, hx, rfl, rfl⟩
        cases ws with
        | cons _ _ => cases hx
        | nil =>
          obtain ⟨j2, hj2⟩ : ∃ j : Int, j = v.layers.length := ⟨_, rfl⟩
          have ej2 : ∀ S, bLen [.tup (v.layers.map Layer.d)] S = some (.int j2, S) := fun S => by rw [hj2]; simp
          have ll := vok.len
          simp [-bLen_tup, e6, ej2, items_rng (show smallI j2 from ⟨by omega, by omega⟩)]
          refine wp_forQ (I := L3 ns t3 W s (some (.loc 0)) (some (.loc 2)) v done rest) ?_ ?_ ?_ _ _ _ ⟨[], v.layers, acc, _, i, _, _, _, _, rfl, by rw [hj2]; simp, by simpa [urS] using ha, at_app hJ _, rfl, rfl⟩
          · intros; exact still_nil _
          · rintro x xs env S ⟨d2, r2, acc, J, i, o6, o7, o8, o9, hl, hx, ha, hJ, rfl, rfl⟩
            cases r2 with
            | nil => cases hx
            | cons l r2 =>
              rw [rng_map] at hx
              cases hx
              refine ⟨_, rfl, ?_⟩
              have lok := vok.layers l (by rw [hl]; simp)
              obtain ⟨c1, c2⟩ := chs_words lok
              have c3 : ∀ w ∈ l.chs.map (·.1), w.length ≤ 100 := fun w hm => word_len (words7 lok.words w hm)
              have hat2 : atI (v.layers.map Layer.d) (d2.length : Int) = some l.d := atI_nat (by rw [hl]; simp)
              have ei2 : ∀ S, iop (.tup (v.layers.map Layer.d)) (.int d2.length) S = some (l.d, S) := fun S => by rw [iop_tup, hat2]; rfl
              simp [-iop_tup, e6, ei2]
              refine c_law_shown (k := k + 7) (W := W ++ J) c1 c2 c3 ?_
              simp [-iop_tup, e6, ei2]
              have zc := fun Q h => c_shown_channels (k := k + 6) (sc := ns.map .int) (t := t3) (l := l) (Q := Q) (W := W ++ (J ++ [.lst ((Gn.shown l).map fun s => sS s)])) c1 c2 h
              refine zc _ ?_
              have rt := repr_nc (Nc.tup (ds := (Gn.shown l).map fun s => sS s) (n := 1) (w := 100) (strs_nc fun w hw => by have := ord_len (shown_ord w hw); omega)) (by omega) (by
                have : (Gn.shown l).length ≤ 7 := by unfold Gn.shown; exact Nat.le_trans (List.length_filter_le ..) (by decide)
                simp; omega)
              simp [rt]
              have ls : (Gn.shown l).length ≤ 7 := by unfold Gn.shown; exact Nat.le_trans (List.length_filter_le ..) (by decide)
              have lJ := fun K => getL_at (at_app hJ K)
              have mJ := fun K => getM_at (at_app hJ K)
              refine wp_lc_pure (l := Gn.shown l) (S0 := tp (ns.map .int) t3 ++ (W ++ (J ++ [.lst ((Gn.shown l).map fun s => sS s)]))) (fun s => sS s) (fun w => !rd v w) (fun w => .tup [.int done.length, .int d2.length, sS w]) (by simp) (by simp) (fun acc => still_one (by simp)) (by rw [sizeLine_eq]; omega) (fun w hw acc => ⟨_, rfl, ?_⟩) ?_
              · have c2 := fun S => law_can_eq (k := k + 7) (S := S) vok (shown_ord w hw)
                simp [wipeE, Tg.slots, c2]
              · have la := lim _ _ ha
                have lu : ((Gn.shown l).filter fun w => !rd v w).length ≤ 7 := Nat.le_trans (List.length_filter_le ..) ls
                have lsz : acc.length + ((Gn.shown l).filter fun w => !rd v w).length ≤ sizeLine := by rw [sizeLine_eq]; omega
                simp [mJ, lsz]
                refine ⟨d2 ++ [l], r2, acc ++ urL v done.length d2.length l, J ++ [.lst ((Gn.shown l).map fun s => sS s), .lst (urL v done.length d2.length l), .lst (acc ++ urL v done.length d2.length l)], J.length + 2, _, _, _, _, by rw [hl]; simp, by simp, by simpa [urV] using ha, ?_, rfl, rfl⟩
                rw [get_appS]; rfl
          · rintro env S ⟨d2, r2, acc, J, i, o6, o7, o8, o9, hl, hx, ha, hJ, rfl, rfl⟩
            cases r2 with
            | cons _ _ => rw [rng_map] at hx; cases hx
            | nil =>
              simp
              exact ⟨done ++ [v], rest, acc, J, i, _, _, _, _, _, _, by rw [hv]; simp, by simp, by simpa [urV] using ha, hJ, rfl, rfl⟩
  · rintro env S ⟨done, rest, acc, J, i, o4, o5, o6, o7, o8, o9, hv, hx, ha, hJ, rfl, rfl⟩
    cases rest with
    | cons _ _ => rw [rng_map] at hx; cases hx
    | nil =>
      simp [urS] at ha
      subst ha
      simp
      refine c_unread (k := k + 5) hs hm ?_
      have rt := repr_nc (Nc.tup (ds := urS 0 s.views) (n := 1) (w := 200) (urS_nc 0 s.views hs.views (by omega) (by omega))) (by omega) (by omega)
      simp [rt, getL_at hJ]
      exact pre _ _
theorem law_holds (ns : List Int) (k : Nat) : ∃ S', callF tab G (k + 9) "law" [.loc 0] [.ro (ns.map D.int)] = some (.bl true, S') := by
  have : wp (callF tab G (k + 9) "law" [.loc 0] [.ro (ns.map D.int)]) fun d _ => d = .bl true := by
    rw [callF_succ (by decide) rfl]
    refine wp_run rfl rfl ?_
    simp [d_law, start']
    rw [callF_succ (by decide) rfl]
    refine tape_ok _ ns fun t ht => ?_
    have := law_mid ns k [] ht
    simpa [d_law] using this
  obtain ⟨d, S', e, rfl⟩ := this
  exact ⟨S', e⟩
end
end K79

set_option Elab.async false
set_option linter.all false
set_option maxRecDepth 100000
namespace Cs
open PySem PySem.Spec PyProof.Rows L2
variable [Sct]
/-! ### tables of the text's top: what their look-ups give -/
def valRel : D → Value → Bool
  | .non, .none => true
  | .bl b, .bool c => b == c
  | .int i, .int j _ => i == j
  | .str s, .str t _ => s == t
  | _, _ => false
theorem valRel_ok {K : PySem.W.Frag} {d : D} {u : Value} (h : valRel d u = true) : ∃ vv, RelV vv u ∧ ∀ H ρ, Rp K H ρ d vv := by
  cases d <;> cases u <;> simp only [valRel, beq_iff_eq] at h <;> first | cases h | skip
  · exact ⟨.non, rfl, fun _ _ => rfl⟩
  · exact ⟨.bl _, rfl, fun _ _ => rfl⟩
  · exact ⟨.int _, ⟨_, rfl⟩, fun _ _ => rfl⟩
  · exact ⟨.str _, ⟨_, rfl⟩, fun _ _ => rfl⟩
def dictRel : List DictEntry → List D → Bool
  | [], [] => true
  | e :: es, .tup [.str z, d] :: r => e.key.isStr z && valRel d e.val && dictRel es r
  | _, _ => false
theorem isStr_iff {v : Value} {z : Str} (h : v.isStr z = true) (y : Str) : v.isStr y = decide (z = y) := by
  cases v <;> simp only [Value.isStr] at h ⊢ <;> first | cases h | skip
  have : _ = z := eq_of_beq h
  subst this
  rw [Bool.eq_iff_iff]; simp
theorem isStr_noRef {e : DictEntry} {z : Str} (h : e.key.isStr z = true) : e.refKey = false := by
  unfold DictEntry.refKey
  cases hk : e.key <;> rw [hk] at h <;> first | rfl | (simp only [Value.isStr] at h; cases h)
theorem dictRel_noRef : ∀ {es : List DictEntry} {r : List D}, dictRel es r = true → es.any (·.refKey) = false
  | [], [], _ => rfl
  | [], _ :: _, h => by simp [dictRel] at h
  | e :: es, d :: r, h => by
    unfold dictRel at h
    split at h
    · rename_i h1 h2; cases h1
    · rename_i e' es' z d' r' h1 h2
      cases h1; cases h2
      simp only [Bool.and_eq_true] at h
      rw [List.any_cons, isStr_noRef h.1.1, dictRel_noRef h.2]; rfl
    · cases h
  | e :: es, [], h => by simp [dictRel] at h
theorem dictRel_at {K : PySem.W.Frag} (y : Str) : ∀ {es : List DictEntry} {r : List D}, dictRel es r = true →
    (tabAt (.tup r) y).isSome = (es.find? (·.key.isStr y)).isSome ∧ ∀ v, tabAt (.tup r) y = some v → ∃ e vv, es.find? (·.key.isStr y) = some e ∧ RelV vv e.val ∧ ∀ H ρ, Rp K H ρ v vv
  | [], [], _ => ⟨rfl, fun v e => by simp [tabAt] at e⟩
  | [], _ :: _, h => by simp [dictRel] at h
  | e :: es, [], h => by simp [dictRel] at h
  | e :: es, d :: r, h => by
    unfold dictRel at h
    split at h
    · rename_i h1 h2; cases h1
    · rename_i e' es' z d' r' h1 h2
      cases h1; cases h2
      simp only [Bool.and_eq_true] at h
      have ih := dictRel_at (K := K) y (es := es) (r := r) h.2
      have q := isStr_iff h.1.1 y
      rw [List.find?_cons, q]
      by_cases c : z = y
      · subst c
        simp only [decide_true]
        refine ⟨by simp [tabAt], fun v ev => ?_⟩
        have : v = d' := by simpa [tabAt] using ev.symm
        subst this
        obtain ⟨vv, h1, h2⟩ := valRel_ok (K := K) h.1.2
        exact ⟨e, vv, rfl, h1, h2⟩
      · simp only [c, decide_false]
        have e1 : tabAt (.tup (.tup [.str z, d'] :: r)) y = tabAt (.tup r) y := by simp [tabAt, c]
        rw [e1]
        exact ih
    · cases h
theorem dict_says {K : PySem.W.Frag} {d : Addr} {es : Array DictEntry} {n : Nat} {r : List D} (hl : K.lookup d = some ⟨.type "dict", none, .dict es n, #[]⟩) (h : dictRel es.toList r = true) :
    ∀ z : Str, ∃ r', PySem.W.nsIn K d z = some r' ∧ (tabAt (.tup r) z).isSome = r'.isSome ∧ ∀ v, tabAt (.tup r) z = some v → ∃ u vv, r' = some u ∧ RelV vv u ∧ ∀ H ρ, Rp K H ρ v vv := by
  intro z
  obtain ⟨h1, h2⟩ := dictRel_at (K := K) z h
  have e : PySem.W.nsIn K d z = some ((es.toList.find? (·.key.isStr z)).map (·.val)) := by
    unfold PySem.W.nsIn
    rw [hl]
    simp only
    cases hf : es.toList.find? (·.key.isStr z) with
    | some e => rfl
    | none => simp only [dictRel_noRef h]; rfl
  refine ⟨_, e, by rw [h1]; cases es.toList.find? (·.key.isStr z) <;> rfl, fun v ev => ?_⟩
  obtain ⟨en, vv, h3, h4, h5⟩ := h2 v ev
  exact ⟨en.val, vv, by rw [h3]; rfl, h4, h5⟩
end Cs
namespace Cs
open PySem PySem.Spec PyProof.Rows L2
variable [Sct]
def flatV : D → V → Bool
  | .non, .non => true
  | .bl b, .bl c => b == c
  | .int i, .int j => i == j
  | .str s, .str t => s == t
  | _, _ => false
def flatRel : List D → List V → Bool
  | [], [] => true
  | d :: ds, v :: vs => flatV d v && flatRel ds vs
  | _, _ => false
theorem flatV_ok {K : PySem.W.Frag} {H : Hp} {ρ : List Addr} {d : D} {v : V} (h : flatV d v = true) : Rp K H ρ d v := by
  cases d <;> cases v <;> simp only [flatV, beq_iff_eq] at h <;> first | cases h | skip
  all_goals first | rfl | (subst h; rfl)
theorem flatRel_ok {K : PySem.W.Frag} {H : Hp} {ρ : List Addr} : ∀ {ds : List D} {vs : List V}, flatRel ds vs = true → RpL K H ρ ds vs
  | [], [], _ => rfl
  | [], _ :: _, h => by cases h
  | _ :: _, [], h => by cases h
  | d :: ds, v :: vs, h => by
    simp only [flatRel, Bool.and_eq_true] at h
    exact ⟨v, vs, rfl, flatV_ok h.1, flatRel_ok h.2⟩
theorem tup_says {K : PySem.W.Frag} {g : Addr} {gi : Array Value} {gn : Nat} {gs : Array (Option Value)} {gv : List V} {ds : List D} (md : Sct.md ≠ .trk) (gl : K.lookup g = some ⟨.type "tuple", none, .seq gi gn, gs⟩) (gh : He.relAll gv gi.toList = true) (gz : gi.size ≤ sizeLine) (hf : flatRel ds gv = true) :
    ∀ H ρ, Rp K H ρ (.tup ds) (.ref g) := fun H ρ =>
  ⟨g, gv, rfl, ⟨.inr ⟨_, gi, gn, gl, rfl, rfl, gz, He.relAll_ok gh⟩, fun e => absurd e md, fun _ => ⟨_, .inr gl, rfl⟩⟩, flatRel_ok hf⟩
end Cs

set_option Elab.async false
set_option linter.all false
set_option maxRecDepth 100000
namespace K79
open PySem PySem.Spec PyProof.Rows L2 Cs
abbrev gv0 : List V := [.str "x", .str "x2", .str "y", .str "y2", .str "color", .str "text", .str "detail"]
abbrev gd0 : List D := [.str "x", .str "x2", .str "y", .str "y2", .str "color", .str "text", .str "detail"]
abbrev gt0 : List D := [.tup [.str "x", .int 3], .tup [.str "x2", .int 3], .tup [.str "y", .int 4], .tup [.str "y2", .int 4], .tup [.str "color", .int 5]]
end K79
namespace K79
open PySem PySem.Spec PyProof.Rows L2 Cs
set_option maxHeartbeats 4000000 in
theorem all_mk {l : PySem.W.OpenLaw} {w : World} {K : PySem.W.Frag} {h : Heap} {mg : Str → Option Value} {fa : Addr} (X : K.In h) (G' : h.Ns mainGlobals mg) (hfa : mg "law" = some (.ref fa))
    {f0 : Addr} {o0 n0 : Option Addr} {s0 : Array (Option Value)} {p0 q0 r0 t0 u0 v0 : Value}
    (a0 : PySem.W.nsIn K mainGlobals "shown_columns" = some (some (.ref f0)))
    (l0 : K.lookup f0 = some ⟨p0, o0, .func (PySem.W.fnOf "shown_columns" "shown_columns" (defArgs (topS 3)) (defBody (topS 3)) (defScope (topS 3)) .none q0 r0 t0 n0 u0 v0), s0⟩)
    (c0 : PySem.W.codeIn K u0 "shown_columns" = true) (k0 : PySem.W.keepIn K (.ref f0) = true)
    {f1 : Addr} {o1 n1 : Option Addr} {s1 : Array (Option Value)} {p1 q1 r1 t1 u1 v1 : Value}
    (a1 : PySem.W.nsIn K mainGlobals "shown_channels" = some (some (.ref f1)))
    (l1 : K.lookup f1 = some ⟨p1, o1, .func (PySem.W.fnOf "shown_channels" "shown_channels" (defArgs (topS 4)) (defBody (topS 4)) (defScope (topS 4)) .none q1 r1 t1 n1 u1 v1), s1⟩)
    (c1 : PySem.W.codeIn K u1 "shown_channels" = true) (k1 : PySem.W.keepIn K (.ref f1) = true)
    {f2 : Addr} {o2 n2 : Option Addr} {s2 : Array (Option Value)} {p2 q2 r2 t2 u2 v2 : Value}
    (a2 : PySem.W.nsIn K mainGlobals "scale_of" = some (some (.ref f2)))
    (l2 : K.lookup f2 = some ⟨p2, o2, .func (PySem.W.fnOf "scale_of" "scale_of" (defArgs (topS 5)) (defBody (topS 5)) (defScope (topS 5)) .none q2 r2 t2 n2 u2 v2), s2⟩)
    (c2 : PySem.W.codeIn K u2 "scale_of" = true) (k2 : PySem.W.keepIn K (.ref f2) = true)
    {f3 : Addr} {o3 n3 : Option Addr} {s3 : Array (Option Value)} {p3 q3 r3 t3 u3 v3 : Value}
    (a3 : PySem.W.nsIn K mainGlobals "is_declared" = some (some (.ref f3)))
    (l3 : K.lookup f3 = some ⟨p3, o3, .func (PySem.W.fnOf "is_declared" "is_declared" (defArgs (topS 6)) (defBody (topS 6)) (defScope (topS 6)) .none q3 r3 t3 n3 u3 v3), s3⟩)
    (c3 : PySem.W.codeIn K u3 "is_declared" = true) (k3 : PySem.W.keepIn K (.ref f3) = true)
    {f4 : Addr} {o4 n4 : Option Addr} {s4 : Array (Option Value)} {p4 q4 r4 t4 u4 v4 : Value}
    (a4 : PySem.W.nsIn K mainGlobals "can_read" = some (some (.ref f4)))
    (l4 : K.lookup f4 = some ⟨p4, o4, .func (PySem.W.fnOf "can_read" "can_read" (defArgs (topS 7)) (defBody (topS 7)) (defScope (topS 7)) .none q4 r4 t4 n4 u4 v4), s4⟩)
    (c4 : PySem.W.codeIn K u4 "can_read" = true) (k4 : PySem.W.keepIn K (.ref f4) = true)
    {f5 : Addr} {o5 n5 : Option Addr} {s5 : Array (Option Value)} {p5 q5 r5 t5 u5 v5 : Value}
    (a5 : PySem.W.nsIn K mainGlobals "unread" = some (some (.ref f5)))
    (l5 : K.lookup f5 = some ⟨p5, o5, .func (PySem.W.fnOf "unread" "unread" (defArgs (topS 8)) (defBody (topS 8)) (defScope (topS 8)) .none q5 r5 t5 n5 u5 v5), s5⟩)
    (c5 : PySem.W.codeIn K u5 "unread" = true) (k5 : PySem.W.keepIn K (.ref f5) = true)
    {f6 : Addr} {o6 n6 : Option Addr} {s6 : Array (Option Value)} {p6 q6 r6 t6 u6 v6 : Value}
    (a6 : PySem.W.nsIn K mainGlobals "_law_tape" = some (some (.ref f6)))
    (l6 : K.lookup f6 = some ⟨p6, o6, .func (PySem.W.fnOf "_law_tape" "_law_tape" (defArgs (topS 10)) (defBody (topS 10)) (defScope (topS 10)) .none q6 r6 t6 n6 u6 v6), s6⟩)
    (c6 : PySem.W.codeIn K u6 "_law_tape" = true) (k6 : PySem.W.keepIn K (.ref f6) = true)
    {f7 : Addr} {o7 n7 : Option Addr} {s7 : Array (Option Value)} {p7 q7 r7 t7 u7 v7 : Value}
    (a7 : PySem.W.nsIn K mainGlobals "_law_draw" = some (some (.ref f7)))
    (l7 : K.lookup f7 = some ⟨p7, o7, .func (PySem.W.fnOf "_law_draw" "_law_draw" (defArgs (topS 11)) (defBody (topS 11)) (defScope (topS 11)) .none q7 r7 t7 n7 u7 v7), s7⟩)
    (c7 : PySem.W.codeIn K u7 "_law_draw" = true) (k7 : PySem.W.keepIn K (.ref f7) = true)
    {f8 : Addr} {o8 n8 : Option Addr} {s8 : Array (Option Value)} {p8 q8 r8 t8 u8 v8 : Value}
    (a8 : PySem.W.nsIn K mainGlobals "_law_word" = some (some (.ref f8)))
    (l8 : K.lookup f8 = some ⟨p8, o8, .func (PySem.W.fnOf "_law_word" "_law_word" (defArgs (topS 12)) (defBody (topS 12)) (defScope (topS 12)) .none q8 r8 t8 n8 u8 v8), s8⟩)
    (c8 : PySem.W.codeIn K u8 "_law_word" = true) (k8 : PySem.W.keepIn K (.ref f8) = true)
    {f9 : Addr} {o9 n9 : Option Addr} {s9 : Array (Option Value)} {p9 q9 r9 t9 u9 v9 : Value}
    (a9 : PySem.W.nsIn K mainGlobals "_law_lowest" = some (some (.ref f9)))
    (l9 : K.lookup f9 = some ⟨p9, o9, .func (PySem.W.fnOf "_law_lowest" "_law_lowest" (defArgs (topS 13)) (defBody (topS 13)) (defScope (topS 13)) .none q9 r9 t9 n9 u9 v9), s9⟩)
    (c9 : PySem.W.codeIn K u9 "_law_lowest" = true) (k9 : PySem.W.keepIn K (.ref f9) = true)
    {f10 : Addr} {o10 n10 : Option Addr} {s10 : Array (Option Value)} {p10 q10 r10 t10 u10 v10 : Value}
    (a10 : PySem.W.nsIn K mainGlobals "_law_number" = some (some (.ref f10)))
    (l10 : K.lookup f10 = some ⟨p10, o10, .func (PySem.W.fnOf "_law_number" "_law_number" (defArgs (topS 14)) (defBody (topS 14)) (defScope (topS 14)) .none q10 r10 t10 n10 u10 v10), s10⟩)
    (c10 : PySem.W.codeIn K u10 "_law_number" = true) (k10 : PySem.W.keepIn K (.ref f10) = true)
    {f11 : Addr} {o11 n11 : Option Addr} {s11 : Array (Option Value)} {p11 q11 r11 t11 u11 v11 : Value}
    (a11 : PySem.W.nsIn K mainGlobals "_law_cell" = some (some (.ref f11)))
    (l11 : K.lookup f11 = some ⟨p11, o11, .func (PySem.W.fnOf "_law_cell" "_law_cell" (defArgs (topS 15)) (defBody (topS 15)) (defScope (topS 15)) .none q11 r11 t11 n11 u11 v11), s11⟩)
    (c11 : PySem.W.codeIn K u11 "_law_cell" = true) (k11 : PySem.W.keepIn K (.ref f11) = true)
    {f12 : Addr} {o12 n12 : Option Addr} {s12 : Array (Option Value)} {p12 q12 r12 t12 u12 v12 : Value}
    (a12 : PySem.W.nsIn K mainGlobals "_law_cells" = some (some (.ref f12)))
    (l12 : K.lookup f12 = some ⟨p12, o12, .func (PySem.W.fnOf "_law_cells" "_law_cells" (defArgs (topS 16)) (defBody (topS 16)) (defScope (topS 16)) .none q12 r12 t12 n12 u12 v12), s12⟩)
    (c12 : PySem.W.codeIn K u12 "_law_cells" = true) (k12 : PySem.W.keepIn K (.ref f12) = true)
    {f13 : Addr} {o13 n13 : Option Addr} {s13 : Array (Option Value)} {p13 q13 r13 t13 u13 v13 : Value}
    (a13 : PySem.W.nsIn K mainGlobals "_law_columns" = some (some (.ref f13)))
    (l13 : K.lookup f13 = some ⟨p13, o13, .func (PySem.W.fnOf "_law_columns" "_law_columns" (defArgs (topS 17)) (defBody (topS 17)) (defScope (topS 17)) .none q13 r13 t13 n13 u13 v13), s13⟩)
    (c13 : PySem.W.codeIn K u13 "_law_columns" = true) (k13 : PySem.W.keepIn K (.ref f13) = true)
    {f14 : Addr} {o14 n14 : Option Addr} {s14 : Array (Option Value)} {p14 q14 r14 t14 u14 v14 : Value}
    (a14 : PySem.W.nsIn K mainGlobals "_law_axis" = some (some (.ref f14)))
    (l14 : K.lookup f14 = some ⟨p14, o14, .func (PySem.W.fnOf "_law_axis" "_law_axis" (defArgs (topS 18)) (defBody (topS 18)) (defScope (topS 18)) .none q14 r14 t14 n14 u14 v14), s14⟩)
    (c14 : PySem.W.codeIn K u14 "_law_axis" = true) (k14 : PySem.W.keepIn K (.ref f14) = true)
    {f15 : Addr} {o15 n15 : Option Addr} {s15 : Array (Option Value)} {p15 q15 r15 t15 u15 v15 : Value}
    (a15 : PySem.W.nsIn K mainGlobals "_law_ends" = some (some (.ref f15)))
    (l15 : K.lookup f15 = some ⟨p15, o15, .func (PySem.W.fnOf "_law_ends" "_law_ends" (defArgs (topS 19)) (defBody (topS 19)) (defScope (topS 19)) .none q15 r15 t15 n15 u15 v15), s15⟩)
    (c15 : PySem.W.codeIn K u15 "_law_ends" = true) (k15 : PySem.W.keepIn K (.ref f15) = true)
    {f16 : Addr} {o16 n16 : Option Addr} {s16 : Array (Option Value)} {p16 q16 r16 t16 u16 v16 : Value}
    (a16 : PySem.W.nsIn K mainGlobals "_law_domain" = some (some (.ref f16)))
    (l16 : K.lookup f16 = some ⟨p16, o16, .func (PySem.W.fnOf "_law_domain" "_law_domain" (defArgs (topS 20)) (defBody (topS 20)) (defScope (topS 20)) .none q16 r16 t16 n16 u16 v16), s16⟩)
    (c16 : PySem.W.codeIn K u16 "_law_domain" = true) (k16 : PySem.W.keepIn K (.ref f16) = true)
    {f17 : Addr} {o17 n17 : Option Addr} {s17 : Array (Option Value)} {p17 q17 r17 t17 u17 v17 : Value}
    (a17 : PySem.W.nsIn K mainGlobals "_law_scale" = some (some (.ref f17)))
    (l17 : K.lookup f17 = some ⟨p17, o17, .func (PySem.W.fnOf "_law_scale" "_law_scale" (defArgs (topS 21)) (defBody (topS 21)) (defScope (topS 21)) .none q17 r17 t17 n17 u17 v17), s17⟩)
    (c17 : PySem.W.codeIn K u17 "_law_scale" = true) (k17 : PySem.W.keepIn K (.ref f17) = true)
    {f18 : Addr} {o18 n18 : Option Addr} {s18 : Array (Option Value)} {p18 q18 r18 t18 u18 v18 : Value}
    (a18 : PySem.W.nsIn K mainGlobals "_law_source" = some (some (.ref f18)))
    (l18 : K.lookup f18 = some ⟨p18, o18, .func (PySem.W.fnOf "_law_source" "_law_source" (defArgs (topS 22)) (defBody (topS 22)) (defScope (topS 22)) .none q18 r18 t18 n18 u18 v18), s18⟩)
    (c18 : PySem.W.codeIn K u18 "_law_source" = true) (k18 : PySem.W.keepIn K (.ref f18) = true)
    {f19 : Addr} {o19 n19 : Option Addr} {s19 : Array (Option Value)} {p19 q19 r19 t19 u19 v19 : Value}
    (a19 : PySem.W.nsIn K mainGlobals "_law_words" = some (some (.ref f19)))
    (l19 : K.lookup f19 = some ⟨p19, o19, .func (PySem.W.fnOf "_law_words" "_law_words" (defArgs (topS 23)) (defBody (topS 23)) (defScope (topS 23)) .none q19 r19 t19 n19 u19 v19), s19⟩)
    (c19 : PySem.W.codeIn K u19 "_law_words" = true) (k19 : PySem.W.keepIn K (.ref f19) = true)
    {f20 : Addr} {o20 n20 : Option Addr} {s20 : Array (Option Value)} {p20 q20 r20 t20 u20 v20 : Value}
    (a20 : PySem.W.nsIn K mainGlobals "_law_channels" = some (some (.ref f20)))
    (l20 : K.lookup f20 = some ⟨p20, o20, .func (PySem.W.fnOf "_law_channels" "_law_channels" (defArgs (topS 24)) (defBody (topS 24)) (defScope (topS 24)) .none q20 r20 t20 n20 u20 v20), s20⟩)
    (c20 : PySem.W.codeIn K u20 "_law_channels" = true) (k20 : PySem.W.keepIn K (.ref f20) = true)
    {f21 : Addr} {o21 n21 : Option Addr} {s21 : Array (Option Value)} {p21 q21 r21 t21 u21 v21 : Value}
    (a21 : PySem.W.nsIn K mainGlobals "_law_keys" = some (some (.ref f21)))
    (l21 : K.lookup f21 = some ⟨p21, o21, .func (PySem.W.fnOf "_law_keys" "_law_keys" (defArgs (topS 25)) (defBody (topS 25)) (defScope (topS 25)) .none q21 r21 t21 n21 u21 v21), s21⟩)
    (c21 : PySem.W.codeIn K u21 "_law_keys" = true) (k21 : PySem.W.keepIn K (.ref f21) = true)
    {f22 : Addr} {o22 n22 : Option Addr} {s22 : Array (Option Value)} {p22 q22 r22 t22 u22 v22 : Value}
    (a22 : PySem.W.nsIn K mainGlobals "_law_transforms" = some (some (.ref f22)))
    (l22 : K.lookup f22 = some ⟨p22, o22, .func (PySem.W.fnOf "_law_transforms" "_law_transforms" (defArgs (topS 26)) (defBody (topS 26)) (defScope (topS 26)) .none q22 r22 t22 n22 u22 v22), s22⟩)
    (c22 : PySem.W.codeIn K u22 "_law_transforms" = true) (k22 : PySem.W.keepIn K (.ref f22) = true)
    {f23 : Addr} {o23 n23 : Option Addr} {s23 : Array (Option Value)} {p23 q23 r23 t23 u23 v23 : Value}
    (a23 : PySem.W.nsIn K mainGlobals "_law_first_transform" = some (some (.ref f23)))
    (l23 : K.lookup f23 = some ⟨p23, o23, .func (PySem.W.fnOf "_law_first_transform" "_law_first_transform" (defArgs (topS 27)) (defBody (topS 27)) (defScope (topS 27)) .none q23 r23 t23 n23 u23 v23), s23⟩)
    (c23 : PySem.W.codeIn K u23 "_law_first_transform" = true) (k23 : PySem.W.keepIn K (.ref f23) = true)
    {f24 : Addr} {o24 n24 : Option Addr} {s24 : Array (Option Value)} {p24 q24 r24 t24 u24 v24 : Value}
    (a24 : PySem.W.nsIn K mainGlobals "_law_stacked" = some (some (.ref f24)))
    (l24 : K.lookup f24 = some ⟨p24, o24, .func (PySem.W.fnOf "_law_stacked" "_law_stacked" (defArgs (topS 28)) (defBody (topS 28)) (defScope (topS 28)) .none q24 r24 t24 n24 u24 v24), s24⟩)
    (c24 : PySem.W.codeIn K u24 "_law_stacked" = true) (k24 : PySem.W.keepIn K (.ref f24) = true)
    {f25 : Addr} {o25 n25 : Option Addr} {s25 : Array (Option Value)} {p25 q25 r25 t25 u25 v25 : Value}
    (a25 : PySem.W.nsIn K mainGlobals "_law_tag" = some (some (.ref f25)))
    (l25 : K.lookup f25 = some ⟨p25, o25, .func (PySem.W.fnOf "_law_tag" "_law_tag" (defArgs (topS 29)) (defBody (topS 29)) (defScope (topS 29)) .none q25 r25 t25 n25 u25 v25), s25⟩)
    (c25 : PySem.W.codeIn K u25 "_law_tag" = true) (k25 : PySem.W.keepIn K (.ref f25) = true)
    {f26 : Addr} {o26 n26 : Option Addr} {s26 : Array (Option Value)} {p26 q26 r26 t26 u26 v26 : Value}
    (a26 : PySem.W.nsIn K mainGlobals "_law_layer" = some (some (.ref f26)))
    (l26 : K.lookup f26 = some ⟨p26, o26, .func (PySem.W.fnOf "_law_layer" "_law_layer" (defArgs (topS 30)) (defBody (topS 30)) (defScope (topS 30)) .none q26 r26 t26 n26 u26 v26), s26⟩)
    (c26 : PySem.W.codeIn K u26 "_law_layer" = true) (k26 : PySem.W.keepIn K (.ref f26) = true)
    {f27 : Addr} {o27 n27 : Option Addr} {s27 : Array (Option Value)} {p27 q27 r27 t27 u27 v27 : Value}
    (a27 : PySem.W.nsIn K mainGlobals "_law_view" = some (some (.ref f27)))
    (l27 : K.lookup f27 = some ⟨p27, o27, .func (PySem.W.fnOf "_law_view" "_law_view" (defArgs (topS 31)) (defBody (topS 31)) (defScope (topS 31)) .none q27 r27 t27 n27 u27 v27), s27⟩)
    (c27 : PySem.W.codeIn K u27 "_law_view" = true) (k27 : PySem.W.keepIn K (.ref f27) = true)
    {f28 : Addr} {o28 n28 : Option Addr} {s28 : Array (Option Value)} {p28 q28 r28 t28 u28 v28 : Value}
    (a28 : PySem.W.nsIn K mainGlobals "_law_spec" = some (some (.ref f28)))
    (l28 : K.lookup f28 = some ⟨p28, o28, .func (PySem.W.fnOf "_law_spec" "_law_spec" (defArgs (topS 32)) (defBody (topS 32)) (defScope (topS 32)) .none q28 r28 t28 n28 u28 v28), s28⟩)
    (c28 : PySem.W.codeIn K u28 "_law_spec" = true) (k28 : PySem.W.keepIn K (.ref f28) = true)
    {f29 : Addr} {o29 n29 : Option Addr} {s29 : Array (Option Value)} {p29 q29 r29 t29 u29 v29 : Value}
    (a29 : PySem.W.nsIn K mainGlobals "_law_can_read" = some (some (.ref f29)))
    (l29 : K.lookup f29 = some ⟨p29, o29, .func (PySem.W.fnOf "_law_can_read" "_law_can_read" (defArgs (topS 33)) (defBody (topS 33)) (defScope (topS 33)) .none q29 r29 t29 n29 u29 v29), s29⟩)
    (c29 : PySem.W.codeIn K u29 "_law_can_read" = true) (k29 : PySem.W.keepIn K (.ref f29) = true)
    {f30 : Addr} {o30 n30 : Option Addr} {s30 : Array (Option Value)} {p30 q30 r30 t30 u30 v30 : Value}
    (a30 : PySem.W.nsIn K mainGlobals "_law_shown" = some (some (.ref f30)))
    (l30 : K.lookup f30 = some ⟨p30, o30, .func (PySem.W.fnOf "_law_shown" "_law_shown" (defArgs (topS 34)) (defBody (topS 34)) (defScope (topS 34)) .none q30 r30 t30 n30 u30 v30), s30⟩)
    (c30 : PySem.W.codeIn K u30 "_law_shown" = true) (k30 : PySem.W.keepIn K (.ref f30) = true)
    {f31 : Addr} {o31 n31 : Option Addr} {s31 : Array (Option Value)} {p31 q31 r31 t31 u31 v31 : Value}
    (a31 : PySem.W.nsIn K mainGlobals "law" = some (some (.ref f31)))
    (l31 : K.lookup f31 = some ⟨p31, o31, .func (PySem.W.fnOf "law" "law" (defArgs (topS 35)) (defBody (topS 35)) (defScope (topS 35)) .none q31 r31 t31 n31 u31 v31), s31⟩)
    (c31 : PySem.W.codeIn K u31 "law" = true) (k31 : PySem.W.keepIn K (.ref f31) = true)
    (z0 : PySem.W.nsIn K mainGlobals "len" = some none)
    (z1 : PySem.W.nsIn K mainGlobals "abs" = some none)
    (z2 : PySem.W.nsIn K mainGlobals "max" = some none)
    (z3 : PySem.W.nsIn K mainGlobals "min" = some none)
    (z4 : PySem.W.nsIn K mainGlobals "all" = some none)
    (z5 : PySem.W.nsIn K mainGlobals "any" = some none)
    (z6 : PySem.W.nsIn K mainGlobals "repr" = some none)
    (z7 : PySem.W.nsIn K mainGlobals "sorted" = some none)
    (z8 : PySem.W.nsIn K mainGlobals "int" = some none)
    (z9 : PySem.W.nsIn K mainGlobals "list" = some none)
    (z10 : PySem.W.nsIn K mainGlobals "tuple" = some none)
    (z11 : PySem.W.nsIn K mainGlobals "dict" = some none)
    (z12 : PySem.W.nsIn K mainGlobals "range" = some none)
    (z13 : PySem.W.nsIn K mainGlobals "reversed" = some none)
    (z14 : PySem.W.nsIn K mainGlobals "isinstance" = some none)
    (z15 : PySem.W.nsIn K mainGlobals "zip" = some none)
    (z16 : PySem.W.nsIn K mainGlobals "enumerate" = some none)
    (z17 : PySem.W.nsIn K mainGlobals "bool" = some none)
    (z18 : PySem.W.nsIn K mainGlobals "str" = some none)
    {g0 : Addr} {gs0 : Array (Option Value)} {gi0 : Array Value} {gn0 : Nat}
    (ga0 : PySem.W.nsIn K mainGlobals "ORDER" = some (some (.ref g0))) (gl0 : K.lookup g0 = some ⟨.type "tuple", none, .seq gi0 gn0, gs0⟩)
    (gh0 : He.relAll gv0 gi0.toList = true) (gz0 : gi0.size ≤ sizeLine)
    {d0 : Addr} {des0 : Array DictEntry} {dn0 : Nat} (da0 : PySem.W.nsIn K mainGlobals "PLACES" = some (some (.ref d0))) (dl0 : K.lookup d0 = some ⟨.type "dict", none, .dict des0 dn0, #[]⟩) (dk0 : PySem.W.KeysLit w.params des0.toList) (dm0 : (d0 == sysModules) = false) (dv0 : dictRel des0.toList gt0 = true)
    : ∃ fd : FuncData, (∀ (s : Shared) (v : Value), BindsTo s fd ⟨[v], []⟩ [("_law_script", v)]) ∧ ∀ base : Heap, K.In base → base.Ns mainGlobals mg → FnG l.prog w K mg base 9 fa fd ["_law_script"] (spF K 1 (callF tab K79.G 9 "law")) := by
  have F0 := fun_mk (st := topS 3) l0 c0 k0
  have b0 := F0.binds (ps := ["layer"]) fun _ _ _ _ _ _ us hl => match us, hl with | [_], _ => rfl
  have F1 := fun_mk (st := topS 4) l1 c1 k1
  have b1 := F1.binds (ps := ["layer"]) fun _ _ _ _ _ _ us hl => match us, hl with | [_], _ => rfl
  have F2 := fun_mk (st := topS 5) l2 c2 k2
  have b2 := F2.binds (ps := ["spec", "number", "channel"]) fun _ _ _ _ _ _ us hl => match us, hl with | [_, _, _], _ => rfl
  have F3 := fun_mk (st := topS 6) l3 c3 k3
  have b3 := F3.binds (ps := ["scale"]) fun _ _ _ _ _ _ us hl => match us, hl with | [_], _ => rfl
  have F4 := fun_mk (st := topS 7) l4 c4 k4
  have b4 := F4.binds (ps := ["spec", "number", "channel"]) fun _ _ _ _ _ _ us hl => match us, hl with | [_, _, _], _ => rfl
  have F5 := fun_mk (st := topS 8) l5 c5 k5
  have b5 := F5.binds (ps := ["spec"]) fun _ _ _ _ _ _ us hl => match us, hl with | [_], _ => rfl
  have F6 := fun_mk (st := topS 10) l6 c6 k6
  have b6 := F6.binds (ps := ["_law_script"]) fun _ _ _ _ _ _ us hl => match us, hl with | [_], _ => rfl
  have F7 := fun_mk (st := topS 11) l7 c7 k7
  have b7 := F7.binds (ps := ["_law_tape_here", "_law_many"]) fun _ _ _ _ _ _ us hl => match us, hl with | [_, _], _ => rfl
  have F8 := fun_mk (st := topS 12) l8 c8 k8
  have b8 := F8.binds (ps := ["_law_tape_here"]) fun _ _ _ _ _ _ us hl => match us, hl with | [_], _ => rfl
  have F9 := fun_mk (st := topS 13) l9 c9 k9
  have b9 := F9.binds (ps := ["_law_n", "_law_d"]) fun _ _ _ _ _ _ us hl => match us, hl with | [_, _], _ => rfl
  have F10 := fun_mk (st := topS 14) l10 c10 k10
  have b10 := F10.binds (ps := ["_law_tape_here"]) fun _ _ _ _ _ _ us hl => match us, hl with | [_], _ => rfl
  have F11 := fun_mk (st := topS 15) l11 c11 k11
  have b11 := F11.binds (ps := ["_law_tape_here", "_law_kind"]) fun _ _ _ _ _ _ us hl => match us, hl with | [_, _], _ => rfl
  have F12 := fun_mk (st := topS 16) l12 c12 k12
  have b12 := F12.binds (ps := ["_law_tape_here", "_law_kind", "_law_many"]) fun _ _ _ _ _ _ us hl => match us, hl with | [_, _, _], _ => rfl
  have F13 := fun_mk (st := topS 17) l13 c13 k13
  have b13 := F13.binds (ps := ["_law_tape_here"]) fun _ _ _ _ _ _ us hl => match us, hl with | [_], _ => rfl
  have F14 := fun_mk (st := topS 18) l14 c14 k14
  have b14 := F14.binds (ps := ["_law_tape_here"]) fun _ _ _ _ _ _ us hl => match us, hl with | [_], _ => rfl
  have F15 := fun_mk (st := topS 19) l15 c15 k15
  have b15 := F15.binds (ps := ["_law_tape_here"]) fun _ _ _ _ _ _ us hl => match us, hl with | [_], _ => rfl
  have F16 := fun_mk (st := topS 20) l16 c16 k16
  have b16 := F16.binds (ps := ["_law_tape_here", "_law_kind"]) fun _ _ _ _ _ _ us hl => match us, hl with | [_, _], _ => rfl
  have F17 := fun_mk (st := topS 21) l17 c17 k17
  have b17 := F17.binds (ps := ["_law_tape_here", "_law_kind"]) fun _ _ _ _ _ _ us hl => match us, hl with | [_, _], _ => rfl
  have F18 := fun_mk (st := topS 22) l18 c18 k18
  have b18 := F18.binds (ps := ["_law_tape_here", "_law_columns_here", "_law_kind"]) fun _ _ _ _ _ _ us hl => match us, hl with | [_, _, _], _ => rfl
  have F19 := fun_mk (st := topS 23) l19 c19 k19
  have b19 := F19.binds (ps := ["_law_tape_here", "_law_mark", "_law_kinds"]) fun _ _ _ _ _ _ us hl => match us, hl with | [_, _, _], _ => rfl
  have F20 := fun_mk (st := topS 24) l20 c20 k20
  have b20 := F20.binds (ps := ["_law_tape_here", "_law_mark", "_law_kinds", "_law_columns_here"]) fun _ _ _ _ _ _ us hl => match us, hl with | [_, _, _, _], _ => rfl
  have F21 := fun_mk (st := topS 25) l21 c21 k21
  have b21 := F21.binds (ps := ["_law_tape_here", "_law_columns_here"]) fun _ _ _ _ _ _ us hl => match us, hl with | [_, _], _ => rfl
  have F22 := fun_mk (st := topS 26) l22 c22 k22
  have b22 := F22.binds (ps := ["_law_tape_here", "_law_columns_here"]) fun _ _ _ _ _ _ us hl => match us, hl with | [_, _], _ => rfl
  have F23 := fun_mk (st := topS 27) l23 c23 k23
  have b23 := F23.binds (ps := ["_law_tape_here", "_law_columns_here"]) fun _ _ _ _ _ _ us hl => match us, hl with | [_, _], _ => rfl
  have F24 := fun_mk (st := topS 28) l24 c24 k24
  have b24 := F24.binds (ps := ["_law_channels_here", "_law_kinds"]) fun _ _ _ _ _ _ us hl => match us, hl with | [_, _], _ => rfl
  have F25 := fun_mk (st := topS 29) l25 c25 k25
  have b25 := F25.binds (ps := ["_law_tape_here", "_law_mark", "_law_columns_here", "_law_layers"]) fun _ _ _ _ _ _ us hl => match us, hl with | [_, _, _, _], _ => rfl
  have F26 := fun_mk (st := topS 30) l26 c26 k26
  have b26 := F26.binds (ps := ["_law_tape_here", "_law_tables", "_law_kinds", "_law_layers"]) fun _ _ _ _ _ _ us hl => match us, hl with | [_, _, _, _], _ => rfl
  have F27 := fun_mk (st := topS 31) l27 c27 k27
  have b27 := F27.binds (ps := ["_law_tape_here", "_law_name", "_law_tables", "_law_layers"]) fun _ _ _ _ _ _ us hl => match us, hl with | [_, _, _, _], _ => rfl
  have F28 := fun_mk (st := topS 32) l28 c28 k28
  have b28 := F28.binds (ps := ["_law_tape_here", "_law_views", "_law_layers"]) fun _ _ _ _ _ _ us hl => match us, hl with | [_, _, _], _ => rfl
  have F29 := fun_mk (st := topS 33) l29 c29 k29
  have b29 := F29.binds (ps := ["_law_view_here", "_law_channel"]) fun _ _ _ _ _ _ us hl => match us, hl with | [_, _], _ => rfl
  have F30 := fun_mk (st := topS 34) l30 c30 k30
  have b30 := F30.binds (ps := ["_law_layer_here"]) fun _ _ _ _ _ _ us hl => match us, hl with | [_], _ => rfl
  have F31 := fun_mk (st := topS 35) l31 c31 k31
  have b31 := F31.binds (ps := ["_law_script"]) fun _ _ _ _ _ _ us hl => match us, hl with | [_], _ => rfl
  have tp : Top w K mg ents gs ds K79.G false := by
    refine ⟨fun e he => ?_, fun g hg => ?_, fun f hf => ?_, fun g hg => ?_, fun hg => ?_⟩
    · simp only [List.mem_cons, List.not_mem_nil, or_false] at he
      rcases he with rfl | rfl | rfl | rfl | rfl | rfl | rfl | rfl | rfl | rfl | rfl | rfl | rfl | rfl | rfl | rfl | rfl | rfl | rfl | rfl | rfl | rfl | rfl | rfl | rfl | rfl | rfl | rfl | rfl | rfl | rfl | rfl
      · exact ⟨f0, _, PySem.W.mg_of X G' a0, F0, b0⟩
      · exact ⟨f1, _, PySem.W.mg_of X G' a1, F1, b1⟩
      · exact ⟨f2, _, PySem.W.mg_of X G' a2, F2, b2⟩
      · exact ⟨f3, _, PySem.W.mg_of X G' a3, F3, b3⟩
      · exact ⟨f4, _, PySem.W.mg_of X G' a4, F4, b4⟩
      · exact ⟨f5, _, PySem.W.mg_of X G' a5, F5, b5⟩
      · exact ⟨f6, _, PySem.W.mg_of X G' a6, F6, b6⟩
      · exact ⟨f7, _, PySem.W.mg_of X G' a7, F7, b7⟩
      · exact ⟨f8, _, PySem.W.mg_of X G' a8, F8, b8⟩
      · exact ⟨f9, _, PySem.W.mg_of X G' a9, F9, b9⟩
      · exact ⟨f10, _, PySem.W.mg_of X G' a10, F10, b10⟩
      · exact ⟨f11, _, PySem.W.mg_of X G' a11, F11, b11⟩
      · exact ⟨f12, _, PySem.W.mg_of X G' a12, F12, b12⟩
      · exact ⟨f13, _, PySem.W.mg_of X G' a13, F13, b13⟩
      · exact ⟨f14, _, PySem.W.mg_of X G' a14, F14, b14⟩
      · exact ⟨f15, _, PySem.W.mg_of X G' a15, F15, b15⟩
      · exact ⟨f16, _, PySem.W.mg_of X G' a16, F16, b16⟩
      · exact ⟨f17, _, PySem.W.mg_of X G' a17, F17, b17⟩
      · exact ⟨f18, _, PySem.W.mg_of X G' a18, F18, b18⟩
      · exact ⟨f19, _, PySem.W.mg_of X G' a19, F19, b19⟩
      · exact ⟨f20, _, PySem.W.mg_of X G' a20, F20, b20⟩
      · exact ⟨f21, _, PySem.W.mg_of X G' a21, F21, b21⟩
      · exact ⟨f22, _, PySem.W.mg_of X G' a22, F22, b22⟩
      · exact ⟨f23, _, PySem.W.mg_of X G' a23, F23, b23⟩
      · exact ⟨f24, _, PySem.W.mg_of X G' a24, F24, b24⟩
      · exact ⟨f25, _, PySem.W.mg_of X G' a25, F25, b25⟩
      · exact ⟨f26, _, PySem.W.mg_of X G' a26, F26, b26⟩
      · exact ⟨f27, _, PySem.W.mg_of X G' a27, F27, b27⟩
      · exact ⟨f28, _, PySem.W.mg_of X G' a28, F28, b28⟩
      · exact ⟨f29, _, PySem.W.mg_of X G' a29, F29, b29⟩
      · exact ⟨f30, _, PySem.W.mg_of X G' a30, F30, b30⟩
      · exact ⟨f31, _, PySem.W.mg_of X G' a31, F31, b31⟩
    · simp only [List.mem_cons, List.not_mem_nil, or_false] at hg
      rcases hg with rfl
      · exact ⟨_, .ref g0, .tup gd0, PySem.W.mg_of X G' ga0, rfl, rfl, tup_says (by decide) gl0 gh0 gz0 (by decide +kernel)⟩
    · simp only [bltAll, bltFns, bltTys, isiTys, List.cons_append, List.nil_append, List.mem_cons, List.not_mem_nil, or_false] at hf
      rcases hf with rfl | rfl | rfl | rfl | rfl | rfl | rfl | rfl | rfl | rfl | rfl | rfl | rfl | rfl | rfl | rfl | rfl | rfl | rfl | rfl | rfl | rfl
      · exact PySem.W.mg_none_of X G' z0
      · exact PySem.W.mg_none_of X G' z1
      · exact PySem.W.mg_none_of X G' z2
      · exact PySem.W.mg_none_of X G' z3
      · exact PySem.W.mg_none_of X G' z4
      · exact PySem.W.mg_none_of X G' z5
      · exact PySem.W.mg_none_of X G' z6
      · exact PySem.W.mg_none_of X G' z7
      · exact PySem.W.mg_none_of X G' z8
      · exact PySem.W.mg_none_of X G' z9
      · exact PySem.W.mg_none_of X G' z10
      · exact PySem.W.mg_none_of X G' z11
      · exact PySem.W.mg_none_of X G' z12
      · exact PySem.W.mg_none_of X G' z13
      · exact PySem.W.mg_none_of X G' z14
      · exact PySem.W.mg_none_of X G' z15
      · exact PySem.W.mg_none_of X G' z16
      · exact PySem.W.mg_none_of X G' z17
      · exact PySem.W.mg_none_of X G' z18
      · exact PySem.W.mg_none_of X G' z10
      · exact PySem.W.mg_none_of X G' z8
      · exact PySem.W.mg_none_of X G' z9
    · simp only [List.mem_cons, List.not_mem_nil, or_false] at hg
      rcases hg with rfl
      · exact ⟨d0, des0, dn0, .tup gt0, PySem.W.mg_of X G' da0, ⟨dl0, dk0, dm0⟩, rfl, dict_says dl0 dv0⟩
    · cases hg
  have hl := l31
  have e := hfa.symm.trans (PySem.W.mg_of X G' a31)
  cases e
  refine ⟨PySem.W.fnOf "law" "law" (defArgs (topS 35)) (defBody (topS 35)) (defScope (topS 35)) .none q31 r31 t31 n31 u31 v31, fun s v => .of_eq rfl, fun base hK hG => ?_⟩
  obtain ⟨a', fd', h1, h2, h3, h4⟩ := entry_ok (P := l.prog) (w := w) (base := base) tp tab fs fsOk entsOk 9 ed_law (by simp)
  have e := h1.symm.trans hfa
  cases e
  obtain ⟨oc, od, kV, doc, pm, an, cdv, ct, osl, rfl, lk, hcd⟩ := h2.ex
  have e := lk.symm.trans hl
  cases e
  exact h4
end K79
open PySem PySem.W PyProof.Rows
set_option maxHeartbeats 0 in
theorem PySem.Challenge.cw_chartspec_k79_channels_that_can_be_read_holds : PySem.Challenge.rw_chartspec_k79_channels_that_can_be_read.Holds := by
  w_on; o_law; k_head; (case hw => w_witness2)
  k_fill
  refine Cs.walkG (l := PySem.Challenge.rw_chartspec_k79_channels_that_can_be_read) (n := 63) (k := 9) (x := "_law_script") (C := Cs.callF K79.tab K79.G 9 "law") rfl (by decide) rfl ⟨rfl, by decide, by decide⟩ (fun w h Y => PySem.W.kIn_of Y) ?F (fun ns _ => K79.law_holds ns 0)
  case F =>
    intro w mg fa h KX G' hmg
    refine' K79.all_mk KX G' hmg ?a0 ?l0 ?c0 ?k0 ?a1 ?l1 ?c1 ?k1 ?a2 ?l2 ?c2 ?k2 ?a3 ?l3 ?c3 ?k3 ?a4 ?l4 ?c4 ?k4 ?a5 ?l5 ?c5 ?k5 ?a6 ?l6 ?c6 ?k6 ?a7 ?l7 ?c7 ?k7 ?a8 ?l8 ?c8 ?k8 ?a9 ?l9 ?c9 ?k9 ?a10 ?l10 ?c10 ?k10 ?a11 ?l11 ?c11 ?k11 ?a12 ?l12 ?c12 ?k12 ?a13 ?l13 ?c13 ?k13 ?a14 ?l14 ?c14 ?k14 ?a15 ?l15 ?c15 ?k15 ?a16 ?l16 ?c16 ?k16 ?a17 ?l17 ?c17 ?k17 ?a18 ?l18 ?c18 ?k18 ?a19 ?l19 ?c19 ?k19 ?a20 ?l20 ?c20 ?k20 ?a21 ?l21 ?c21 ?k21 ?a22 ?l22 ?c22 ?k22 ?a23 ?l23 ?c23 ?k23 ?a24 ?l24 ?c24 ?k24 ?a25 ?l25 ?c25 ?k25 ?a26 ?l26 ?c26 ?k26 ?a27 ?l27 ?c27 ?k27 ?a28 ?l28 ?c28 ?k28 ?a29 ?l29 ?c29 ?k29 ?a30 ?l30 ?c30 ?k30 ?a31 ?l31 ?c31 ?k31 ?z0 ?z1 ?z2 ?z3 ?z4 ?z5 ?z6 ?z7 ?z8 ?z9 ?z10 ?z11 ?z12 ?z13 ?z14 ?z15 ?z16 ?z17 ?z18 ?ga0 ?gl0 ?gh0 ?gz0 ?da0 ?dl0 ?dk0 ?dm0 ?dv0
    (case a0 => k_is)
    (case l0 => k_is)
    (case c0 => k_is)
    (case k0 => k_is)
    (case a1 => k_is)
    (case l1 => k_is)
    (case c1 => k_is)
    (case k1 => k_is)
    (case a2 => k_is)
    (case l2 => k_is)
    (case c2 => k_is)
    (case k2 => k_is)
    (case a3 => k_is)
    (case l3 => k_is)
    (case c3 => k_is)
    (case k3 => k_is)
    (case a4 => k_is)
    (case l4 => k_is)
    (case c4 => k_is)
    (case k4 => k_is)
    (case a5 => k_is)
    (case l5 => k_is)
    (case c5 => k_is)
    (case k5 => k_is)
    (case a6 => k_is)
    (case l6 => k_is)
    (case c6 => k_is)
    (case k6 => k_is)
    (case a7 => k_is)
    (case l7 => k_is)
    (case c7 => k_is)
    (case k7 => k_is)
    (case a8 => k_is)
    (case l8 => k_is)
    (case c8 => k_is)
    (case k8 => k_is)
    (case a9 => k_is)
    (case l9 => k_is)
    (case c9 => k_is)
    (case k9 => k_is)
    (case a10 => k_is)
    (case l10 => k_is)
    (case c10 => k_is)
    (case k10 => k_is)
    (case a11 => k_is)
    (case l11 => k_is)
    (case c11 => k_is)
    (case k11 => k_is)
    (case a12 => k_is)
    (case l12 => k_is)
    (case c12 => k_is)
    (case k12 => k_is)
    (case a13 => k_is)
    (case l13 => k_is)
    (case c13 => k_is)
    (case k13 => k_is)
    (case a14 => k_is)
    (case l14 => k_is)
    (case c14 => k_is)
    (case k14 => k_is)
    (case a15 => k_is)
    (case l15 => k_is)
    (case c15 => k_is)
    (case k15 => k_is)
    (case a16 => k_is)
    (case l16 => k_is)
    (case c16 => k_is)
    (case k16 => k_is)
    (case a17 => k_is)
    (case l17 => k_is)
    (case c17 => k_is)
    (case k17 => k_is)
    (case a18 => k_is)
    (case l18 => k_is)
    (case c18 => k_is)
    (case k18 => k_is)
    (case a19 => k_is)
    (case l19 => k_is)
    (case c19 => k_is)
    (case k19 => k_is)
    (case a20 => k_is)
    (case l20 => k_is)
    (case c20 => k_is)
    (case k20 => k_is)
    (case a21 => k_is)
    (case l21 => k_is)
    (case c21 => k_is)
    (case k21 => k_is)
    (case a22 => k_is)
    (case l22 => k_is)
    (case c22 => k_is)
    (case k22 => k_is)
    (case a23 => k_is)
    (case l23 => k_is)
    (case c23 => k_is)
    (case k23 => k_is)
    (case a24 => k_is)
    (case l24 => k_is)
    (case c24 => k_is)
    (case k24 => k_is)
    (case a25 => k_is)
    (case l25 => k_is)
    (case c25 => k_is)
    (case k25 => k_is)
    (case a26 => k_is)
    (case l26 => k_is)
    (case c26 => k_is)
    (case k26 => k_is)
    (case a27 => k_is)
    (case l27 => k_is)
    (case c27 => k_is)
    (case k27 => k_is)
    (case a28 => k_is)
    (case l28 => k_is)
    (case c28 => k_is)
    (case k28 => k_is)
    (case a29 => k_is)
    (case l29 => k_is)
    (case c29 => k_is)
    (case k29 => k_is)
    (case a30 => k_is)
    (case l30 => k_is)
    (case c30 => k_is)
    (case k30 => k_is)
    (case a31 => k_is)
    (case l31 => k_is)
    (case c31 => k_is)
    (case k31 => k_is)
    (case z0 => k_is)
    (case z1 => k_is)
    (case z2 => k_is)
    (case z3 => k_is)
    (case z4 => k_is)
    (case z5 => k_is)
    (case z6 => k_is)
    (case z7 => k_is)
    (case z8 => k_is)
    (case z9 => k_is)
    (case z10 => k_is)
    (case z11 => k_is)
    (case z12 => k_is)
    (case z13 => k_is)
    (case z14 => k_is)
    (case z15 => k_is)
    (case z16 => k_is)
    (case z17 => k_is)
    (case z18 => k_is)
    (case ga0 => k_is)
    (case gl0 => k_is)
    (case da0 => k_is)
    (case dl0 => k_is)
    (case dk0 => k_keys)
    (case dm0 => rfl)
    (case dv0 => rfl)
    (case gh0 => decide +kernel)
    (case gz0 => decide +kernel)
