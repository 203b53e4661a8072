import PyProof.Rows.All
import Wide.All
import OpenK.AllK
import Wide.FinOn
import HandS.ForMost
import HandS.Flow
import HandS.Wide
import HandS.Style
import HandS.Gcd
import HandS.TupAny
import HandS.IsInst
import HandS.Deep
import PySem.Challenge.RW_chartspec_k80_simplest_fractions
import PyProof.ReprLen
import HandS.HeadHook2
set_option Elab.async false
set_option linter.all false
set_option maxRecDepth 100000
namespace Cs
open PySem PySem.Spec PyProof.Rows L2

/-- a value as data; lists and dicts by their place in the store -/
inductive D where
  | non | bl (b : Bool) | int (i : Int) | str (s : Str) | tup (xs : List D) | loc (n : Nat)
deriving Inhabited

/-- what stands at a place of the store: a list, a list that is only read -/
inductive SO where
  | lst (xs : List D) | ro (xs : List D)
deriving Inhabited
abbrev Sto := List SO
abbrev Ev := List (Option D)

mutual
def Rp (K : PySem.W.Frag) (H : Hp) (ρ : List Addr) : D → V → Prop
  | .non, v => v = .non
  | .bl b, v => v = .bl b
  | .int i, v => v = .int i
  | .str s, v => v = .str s
  | .tup ds, v => ∃ a vs, v = .ref a ∧ SqT K H a vs ∧ RpL K H ρ ds vs
  | .loc n, v => ∃ a, v = .ref a ∧ ρ[n]? = some a
def RpL (K : PySem.W.Frag) (H : Hp) (ρ : List Addr) : List D → List V → Prop
  | [], vs => vs = []
  | d :: ds, vs => ∃ v r, vs = v :: r ∧ Rp K H ρ d v ∧ RpL K H ρ ds r
end

/-- tuples and read-only things persist -/
structure Mono (H H' : Hp) : Prop where
  tup : ∀ b xs, H b = some (.tup xs) → H' b = some (.tup xs)
  frz : ∀ b o u, H b = some (.frz o u) → H' b = some (.frz o u)
theorem Mono.refl {H : Hp} : Mono H H := ⟨fun _ _ e => e, fun _ _ _ e => e⟩
theorem Mono.trans {A B C : Hp} (h : Mono A B) (k : Mono B C) : Mono A C := ⟨fun b x e => k.tup b x (h.tup b x e), fun b o u e => k.frz b o u (h.frz b o u e)⟩
theorem Mono.sqT {K : PySem.W.Frag} {H H' : Hp} {a : Addr} {xs : List V} (m : Mono H H') (h : SqT K H a xs) : SqT K H' a xs := by
  rcases h with (h | ⟨o, h⟩) | h
  · exact .inl (.inl (m.tup _ _ h))
  · exact .inl (.inr ⟨o, m.frz _ _ _ h⟩)
  · exact .inr h
theorem Mono.new {H : Hp} {p : Addr} {o : HO} (h : H p = none) : Mono H (upd H p o) :=
  ⟨fun b xs e => by rw [upd_ne (ne_of_none e h)]; exact e, fun b o u e => by rw [upd_ne (ne_of_none e h)]; exact e⟩
theorem Mono.lst {H : Hp} {p : Addr} {xs : List V} {o : HO} (h : H p = some (.lst xs)) : Mono H (upd H p o) :=
  ⟨fun b ys e => by rw [upd_ne (ne_of e h (by intro z; cases z))]; exact e, fun b o u e => by rw [upd_ne (ne_of e h (by intro z; cases z))]; exact e⟩

theorem pre_get {α : Type} {l l' : List α} (h : l <+: l') {i : Nat} {a : α} (e : l[i]? = some a) : l'[i]? = some a := by
  obtain ⟨t, rfl⟩ := h
  rw [List.getElem?_append_left (List.getElem?_eq_some_iff.mp e).1]; exact e

mutual
theorem Rp.mono {K : PySem.W.Frag} {H H' : Hp} {ρ ρ' : List Addr} (m : Mono H H') (p : ρ <+: ρ') : ∀ (d : D) (v : V), Rp K H ρ d v → Rp K H' ρ' d v
  | .non, _, h => h
  | .bl _, _, h => h
  | .int _, _, h => h
  | .str _, _, h => h
  | .tup ds, v, h => by
    obtain ⟨a, vs, e, hs, hr⟩ := h
    exact ⟨a, vs, e, m.sqT hs, RpL.mono m p ds vs hr⟩
  | .loc n, v, h => by
    obtain ⟨a, e, h⟩ := h
    exact ⟨a, e, pre_get p h⟩
theorem RpL.mono {K : PySem.W.Frag} {H H' : Hp} {ρ ρ' : List Addr} (m : Mono H H') (p : ρ <+: ρ') : ∀ (ds : List D) (vs : List V), RpL K H ρ ds vs → RpL K H' ρ' ds vs
  | [], _, h => h
  | d :: ds, vs, h => by
    obtain ⟨v, r, e, h1, h2⟩ := h
    exact ⟨v, r, e, Rp.mono m p d v h1, RpL.mono m p ds r h2⟩
end
end Cs

set_option Elab.async false
set_option linter.all false
set_option maxRecDepth 100000
namespace Cs
open PySem PySem.Spec PyProof.Rows L2

/-! ### the store held -/
def SqF (K : PySem.W.Frag) (H : Hp) (a : Addr) (xs : List V) : Prop :=
  (∃ o, H a = some (.frz o (.lst xs))) ∨
    ∃ (o : Obj) (its : Array Value) (n : Nat), K.lookup a = some o ∧ o.cls = .type "list" ∧ o.dict = none ∧ o.data = .seq its n ∧ its.size ≤ sizeLine ∧ Vals xs its.toList
theorem SqF.l {K : PySem.W.Frag} {H : Hp} {a : Addr} {xs : List V} (h : SqF K H a xs) : SqL K H a xs := by
  rcases h with h | h
  · exact .inl (.inr h)
  · exact .inr h
theorem SqF.mono {K : PySem.W.Frag} {H H' : Hp} {a : Addr} {xs : List V} (m : Mono H H') (h : SqF K H a xs) : SqF K H' a xs := by
  rcases h with ⟨o, h⟩ | h
  · exact .inl ⟨o, m.frz _ _ _ h⟩
  · exact .inr h
def SoR (K : PySem.W.Frag) (H : Hp) (ρ : List Addr) : SO → Addr → Prop
  | .lst ds, a => ∃ vs, H a = some (.lst vs) ∧ RpL K H ρ ds vs
  | .ro ds, a => ∃ vs, SqF K H a vs ∧ RpL K H ρ ds vs
def SO.mut : SO → Bool
  | .lst _ => true
  | _ => false
structure Sr (K : PySem.W.Frag) (H : Hp) (ρ : List Addr) (S : Sto) : Prop where
  len : ρ.length = S.length
  at_ : ∀ (n : Nat) so, S[n]? = some so → ∃ a, ρ[n]? = some a ∧ SoR K H ρ so a
  inj : ∀ (n m : Nat) so so' a, S[n]? = some so → S[m]? = some so' → so.mut = true → so'.mut = true → ρ[n]? = some a → ρ[m]? = some a → n = m

section
variable {K : PySem.W.Frag} {H H' : Hp} {ρ ρ' : List Addr} {S : Sto}
theorem SoR.mono {so : SO} {a : Addr} (m : Mono H H') (p : ρ <+: ρ') (hl : ∀ xs, H a = some (.lst xs) → H' a = some (.lst xs)) (h : SoR K H ρ so a) : SoR K H' ρ' so a := by
  cases so with
  | lst ds =>
    obtain ⟨vs, e, r⟩ := h
    exact ⟨vs, hl _ e, RpL.mono m p ds vs r⟩
  | ro ds =>
    obtain ⟨vs, e, r⟩ := h
    exact ⟨vs, e.mono m, RpL.mono m p ds vs r⟩
/-- nothing of the store changed -/
theorem Sr.keep (h : Sr K H ρ S) (m : Mono H H') (hl : ∀ a xs, H a = some (.lst xs) → H' a = some (.lst xs)) : Sr K H' ρ S := by
  refine ⟨h.len, fun n so e => ?_, h.inj⟩
  obtain ⟨a, ea, r⟩ := h.at_ n so e
  exact ⟨a, ea, r.mono m (List.prefix_refl _) (hl a)⟩
theorem Sr.addr (h : Sr K H ρ S) {n : Nat} {so : SO} (e : S[n]? = some so) : ∃ a, ρ[n]? = some a ∧ SoR K H ρ so a := h.at_ n so e
theorem Sr.newT (h : Sr K H ρ S) {p : Addr} {o : HO} (hp : H p = none) : Sr K (upd H p o) ρ S :=
  h.keep (Mono.new hp) fun a xs e => by rw [upd_ne (ne_of_none e hp)]; exact e
theorem SoR.some_of {so : SO} {a : Addr} (h : SoR K H ρ so a) (hm : so.mut = true) : ∃ xs, H a = some (.lst xs) := by
  cases so with
  | lst ds => obtain ⟨vs, e, _⟩ := h; exact ⟨vs, e⟩
  | ro ds => cases hm
theorem Sr.newL (h : Sr K H ρ S) {p : Addr} {ds : List D} {vs : List V} (hp : H p = none) (r : RpL K H ρ ds vs) : Sr K (upd H p (.lst vs)) (ρ ++ [p]) (S ++ [.lst ds]) := by
  have pr : ρ <+: ρ ++ [p] := ⟨[p], rfl⟩
  have m : Mono H (upd H p (.lst vs)) := Mono.new hp
  have last : ∀ {n : Nat} {so : SO}, (S ++ [.lst ds])[n]? = some so → (n < S.length ∧ S[n]? = some so) ∨ (n = S.length ∧ so = .lst ds) := by
    intro n so e
    rcases Nat.lt_trichotomy n S.length with q | q | q
    · rw [List.getElem?_append_left q] at e; exact .inl ⟨q, e⟩
    · subst q; simp at e; exact .inr ⟨rfl, e.symm⟩
    · rw [List.getElem?_eq_none (by simp; omega)] at e; cases e
  have pl : (ρ ++ [p])[S.length]? = some p := by rw [← h.len]; simp
  refine ⟨by simp [h.len], fun n so e => ?_, fun n m' so so' a e e' hm hm' ea ea' => ?_⟩
  · rcases last e with ⟨_, e⟩ | ⟨rfl, rfl⟩
    · obtain ⟨a, ea, r'⟩ := h.at_ n so e
      exact ⟨a, pre_get pr ea, r'.mono m pr fun xs q => by rw [upd_ne (ne_of_none q hp)]; exact q⟩
    · exact ⟨p, pl, vs, upd_same, RpL.mono m pr ds vs r⟩
  · have old : ∀ {n : Nat} {so : SO}, S[n]? = some so → so.mut = true → (ρ ++ [p])[n]? = some a → ρ[n]? = some a ∧ a ≠ p := by
      intro n so e hm ea
      obtain ⟨b, eb, rb⟩ := h.at_ n so e
      have q := pre_get pr eb
      rw [ea] at q
      have q' : a = b := Option.some.inj q
      subst q'
      obtain ⟨xs, ex⟩ := rb.some_of hm
      exact ⟨eb, ne_of_none ex hp⟩
    rcases last e with ⟨_, e⟩ | ⟨rfl, rfl⟩
    · obtain ⟨q1, q2⟩ := old e hm ea
      rcases last e' with ⟨_, e'⟩ | ⟨rfl, rfl⟩
      · obtain ⟨q1', _⟩ := old e' hm' ea'
        exact h.inj n m' so so' a e e' hm hm' q1 q1'
      · rw [pl] at ea'
        exact absurd (Option.some.inj ea').symm q2
    · rcases last e' with ⟨_, e'⟩ | ⟨rfl, rfl⟩
      · obtain ⟨_, q2⟩ := old e' hm' ea'
        rw [pl] at ea
        exact absurd (Option.some.inj ea).symm q2
      · rfl
theorem Sr.write (h : Sr K H ρ S) {n : Nat} {xs ds : List D} {vs : List V} {a : Addr} (e : S[n]? = some (.lst xs)) (ea : ρ[n]? = some a) (r : RpL K H ρ ds vs) :
    Sr K (upd H a (.lst vs)) ρ (S.set n (.lst ds)) ∧ Mono H (upd H a (.lst vs)) := by
  obtain ⟨b, eb, us, hb, rb⟩ := h.at_ n _ e
  rw [ea] at eb; cases eb
  have m : Mono H (upd H a (.lst vs)) := Mono.lst hb
  have hn : n < S.length := (List.getElem?_eq_some_iff.mp e).1
  have at' : ∀ {k : Nat} {so : SO}, (S.set n (.lst ds))[k]? = some so → (k = n ∧ so = .lst ds) ∨ (k ≠ n ∧ S[k]? = some so) := by
    intro k so q
    by_cases z : k = n
    · subst z; rw [List.getElem?_set_self hn] at q; exact .inl ⟨rfl, (Option.some.inj q).symm⟩
    · rw [List.getElem?_set_ne (Ne.symm z)] at q; exact .inr ⟨z, q⟩
  refine ⟨⟨by simp [h.len], fun k so q => ?_, fun k l so so' b q q' hm hm' eb eb' => ?_⟩, m⟩
  · rcases at' q with ⟨rfl, rfl⟩ | ⟨z, q⟩
    · exact ⟨a, ea, vs, upd_same, RpL.mono m (List.prefix_refl _) ds vs r⟩
    · obtain ⟨b, eb, rb⟩ := h.at_ k so q
      refine ⟨b, eb, ?_⟩
      cases so with
      | lst ys =>
        obtain ⟨ws, ew, rw'⟩ := rb
        have ne : b ≠ a := fun z' => by
          subst z'
          exact z (h.inj k n _ _ b q e rfl rfl eb ea)
        exact ⟨ws, by rw [upd_ne ne]; exact ew, RpL.mono m (List.prefix_refl _) ys ws rw'⟩
      | ro ys =>
        obtain ⟨ws, ew, rw'⟩ := rb
        exact ⟨ws, ew.mono m, RpL.mono m (List.prefix_refl _) ys ws rw'⟩
  · have back : ∀ {k : Nat} {so : SO}, (S.set n (.lst ds))[k]? = some so → so.mut = true → ∃ so0, S[k]? = some so0 ∧ so0.mut = true := by
      intro k so q hm
      rcases at' q with ⟨rfl, rfl⟩ | ⟨z, q⟩
      · exact ⟨_, e, rfl⟩
      · exact ⟨_, q, hm⟩
    obtain ⟨s0, q0, m0⟩ := back q hm
    obtain ⟨s1, q1, m1⟩ := back q' hm'
    exact h.inj k l s0 s1 b q0 q1 m0 m1 eb eb'
theorem RpL.length : ∀ {ds : List D} {vs : List V}, RpL K H ρ ds vs → ds.length = vs.length
  | [], _, h => by cases h; rfl
  | d :: ds, _, h => by
    obtain ⟨v, r, rfl, _, h2⟩ := h
    simp [RpL.length h2]
theorem RpL.get : ∀ {ds : List D} {vs : List V} {i : Nat} {d : D}, RpL K H ρ ds vs → ds[i]? = some d → ∃ v, vs[i]? = some v ∧ Rp K H ρ d v
  | [], _, _, _, _, e => by simp at e
  | d :: ds, _, 0, _, h, e => by
    obtain ⟨v, r, rfl, h1, _⟩ := h
    simp at e; subst e
    exact ⟨v, rfl, h1⟩
  | d :: ds, _, i + 1, _, h, e => by
    obtain ⟨v, r, rfl, _, h2⟩ := h
    simp at e
    obtain ⟨u, e1, q⟩ := RpL.get h2 e
    exact ⟨u, by simpa using e1, q⟩
theorem RpL.getV : ∀ {ds : List D} {vs : List V} {i : Nat} {v : V}, RpL K H ρ ds vs → vs[i]? = some v → ∃ d, ds[i]? = some d ∧ Rp K H ρ d v
  | [], _, _, _, h, e => by cases h; simp at e
  | d :: ds, _, 0, _, h, e => by
    obtain ⟨v, r, rfl, h1, _⟩ := h
    simp at e; subst e
    exact ⟨d, rfl, h1⟩
  | d :: ds, _, i + 1, _, h, e => by
    obtain ⟨v, r, rfl, _, h2⟩ := h
    simp at e
    obtain ⟨u, e1, q⟩ := RpL.getV h2 e
    exact ⟨u, by simpa using e1, q⟩
theorem RpL.append : ∀ {ds es : List D} {vs us : List V}, RpL K H ρ ds vs → RpL K H ρ es us → RpL K H ρ (ds ++ es) (vs ++ us)
  | [], _, _, _, h, k => by cases h; exact k
  | d :: ds, _, _, _, h, k => by
    obtain ⟨v, r, rfl, h1, h2⟩ := h
    exact ⟨v, _, rfl, h1, RpL.append h2 k⟩
theorem RpL.take : ∀ {ds : List D} {vs : List V} (n : Nat), RpL K H ρ ds vs → RpL K H ρ (ds.take n) (vs.take n)
  | [], _, n, h => by cases h; simp [RpL]
  | d :: ds, _, 0, h => by simp [RpL]
  | d :: ds, _, n + 1, h => by
    obtain ⟨v, r, rfl, h1, h2⟩ := h
    exact ⟨v, _, rfl, h1, RpL.take n h2⟩
theorem RpL.drop : ∀ {ds : List D} {vs : List V} (n : Nat), RpL K H ρ ds vs → RpL K H ρ (ds.drop n) (vs.drop n)
  | [], _, n, h => by cases h; simp [RpL]
  | d :: ds, _, 0, h => h
  | d :: ds, _, n + 1, h => by
    obtain ⟨v, r, rfl, h1, h2⟩ := h
    exact RpL.drop n h2
theorem RpL.set : ∀ {ds : List D} {vs : List V} (n : Nat) {d : D} {v : V}, RpL K H ρ ds vs → Rp K H ρ d v → RpL K H ρ (ds.set n d) (vs.set n v)
  | [], _, n, _, _, h, _ => by cases h; simp [RpL]
  | d :: ds, _, 0, _, _, h, k => by
    obtain ⟨v, r, rfl, h1, h2⟩ := h
    exact ⟨_, _, rfl, k, h2⟩
  | d :: ds, _, n + 1, _, _, h, k => by
    obtain ⟨v, r, rfl, h1, h2⟩ := h
    exact ⟨v, _, rfl, h1, RpL.set n h2 k⟩
theorem RpL.one {d : D} {v : V} (h : Rp K H ρ d v) : RpL K H ρ [d] [v] := ⟨v, [], rfl, h, rfl⟩
theorem RpL.reverse : ∀ {ds : List D} {vs : List V}, RpL K H ρ ds vs → RpL K H ρ ds.reverse vs.reverse
  | [], _, h => by cases h; exact rfl
  | d :: ds, _, h => by
    obtain ⟨v, r, rfl, h1, h2⟩ := h
    simp only [List.reverse_cons]
    exact (RpL.reverse h2).append (RpL.one h1)
theorem RpL.ints : ∀ {ns : List Int} {vs : List V}, RpL K H ρ (ns.map D.int) vs ↔ vs = ns.map V.int
  | [], vs => Iff.rfl
  | n :: ns, vs => by
    constructor
    · rintro ⟨v, r, rfl, h1, h2⟩
      rw [RpL.ints.mp h2]
      cases h1; rfl
    · rintro rfl
      exact ⟨_, _, rfl, rfl, RpL.ints.mpr rfl⟩
theorem RpL.strs : ∀ {ns : List Str} {vs : List V}, RpL K H ρ (ns.map D.str) vs ↔ vs = ns.map V.str
  | [], vs => Iff.rfl
  | n :: ns, vs => by
    constructor
    · rintro ⟨v, r, rfl, h1, h2⟩
      rw [RpL.strs.mp h2]
      cases h1; rfl
    · rintro rfl
      exact ⟨_, _, rfl, rfl, RpL.strs.mpr rfl⟩
theorem RpL.bls : ∀ {ns : List Bool} {vs : List V}, RpL K H ρ (ns.map D.bl) vs ↔ vs = ns.map V.bl
  | [], vs => Iff.rfl
  | n :: ns, vs => by
    constructor
    · rintro ⟨v, r, rfl, h1, h2⟩
      rw [RpL.bls.mp h2]
      cases h1; rfl
    · rintro rfl
      exact ⟨_, _, rfl, rfl, RpL.bls.mpr rfl⟩
end

/-! ### slots -/
structure EnvR (K : PySem.W.Frag) (H : Hp) (ρ : List Addr) (env : Ev) (σ : L2.St) : Prop where
  len : env.length = σ.length
  at_ : ∀ (i : Nat) d, env[i]? = some (some d) → ∃ v, σ[i]? = some (some v) ∧ Rp K H ρ d v
section
variable {K : PySem.W.Frag} {H H' : Hp} {ρ ρ' : List Addr} {env : Ev} {σ : L2.St}
theorem EnvR.mono (h : EnvR K H ρ env σ) (m : Mono H H') (p : ρ <+: ρ') : EnvR K H' ρ' env σ :=
  ⟨h.len, fun i d e => let ⟨v, e1, r⟩ := h.at_ i d e; ⟨v, e1, r.mono m p d v⟩⟩
theorem EnvR.set (h : EnvR K H ρ env σ) {i : Nat} {d : D} {v : V} (r : Rp K H ρ d v) : EnvR K H ρ (env.set i (some d)) (σ.set i (some v)) := by
  refine ⟨by simp [h.len], fun j d' e => ?_⟩
  by_cases z : j = i
  · subst z
    have hj : j < env.length := by
      have := (List.getElem?_eq_some_iff.mp e).1
      simpa using this
    rw [List.getElem?_set_self hj] at e
    cases e
    exact ⟨v, List.getElem?_set_self (by rw [← h.len]; exact hj), r⟩
  · rw [List.getElem?_set_ne (Ne.symm z)] at e
    obtain ⟨u, e1, r1⟩ := h.at_ j d' e
    exact ⟨u, by rw [List.getElem?_set_ne (Ne.symm z)]; exact e1, r1⟩
def wipeE (env : Ev) : List Nat → Ev
  | [] => env
  | v :: vs => (wipeE env vs).set v none
theorem EnvR.wipe (h : EnvR K H ρ env σ) : ∀ vs : List Nat, EnvR K H ρ (wipeE env vs) (wipe σ vs)
  | [] => h
  | v :: vs => by
    have ih := EnvR.wipe h vs
    unfold wipeE L2.wipe
    refine ⟨by simp [ih.len], fun j d e => ?_⟩
    by_cases z : j = v
    · subst z
      have hj : j < (wipeE env vs).length := by
        have := (List.getElem?_eq_some_iff.mp e).1
        simpa using this
      rw [List.getElem?_set_self hj] at e
      cases e
    · rw [List.getElem?_set_ne (Ne.symm z)] at e
      obtain ⟨u, e1, r1⟩ := ih.at_ j d e
      exact ⟨u, by rw [List.getElem?_set_ne (Ne.symm z)]; exact e1, r1⟩
end
end Cs

set_option Elab.async false
set_option linter.all false
set_option maxRecDepth 100000
namespace Cs
open PySem PySem.Spec PyProof.Rows L2

/-! ### the own trees -/
inductive Cn where
  | non | bl (b : Bool) | int (i : Int) | str (s : String)
deriving DecidableEq
inductive Bop where
  | add | sub | mul | fdiv | mod | pow
deriving DecidableEq
inductive Cop where
  | eq | ne | lt | le | gt | ge | isin | notin
deriving DecidableEq
/-- what a loop walks -/
inductive IK where
  | seq | rng | enum | rev | zip
deriving DecidableEq
inductive Tg where
  | v (i : Nat) | t (is : List Nat)
deriving DecidableEq
inductive E where
  | var (i : Nat)
  | cn (c : Cn)
  | glb (x : String)
  | bin (op : Bop) (a b : E)
  | neg (a : E)
  | cmp (op : Cop) (a b : E)
  | isN (a : E) | notN (a : E) | isB (a : E) (b : Bool) | isi (a : E) (T : String)
  | nt (a : E)
  | and (a b : E) | or (a b : E)
  | ife (c a b : E)
  | tup (es : List E) | lst (es : List E)
  | idx (a i : E)
  | slc (a lo hi : E)
  | call (f : String) (es : List E)
  | blt (f : String) (es : List E)
  | mth (m : String) (o : E) (es : List E)
  | lc (t : Tg) (k : IK) (es : List E) (c e : E)
  | lc2 (t : Tg) (k : IK) (es : List E) (c : E) (t1 : Tg) (k1 : IK) (es1 : List E) (c1 : E) (e : E)
  | tr (e : E)
inductive S where
  | set (i : Nat) (e : E)
  | setT (is : List Nat) (e : E)
  | par (i j : Nat) (a b : E)
  | setI (o k v : E)
  | ex (e : E)
  | ret (e : E)
  | iff (c : E) (a b : List S)
  | whl (c : E) (b : List S)
  | for_ (t : Tg) (k : IK) (es : List E) (b : List S)
  | brk | cont | pass

def Cn.d : Cn → D
  | .non => .non
  | .bl b => .bl b
  | .int i => .int i
  | .str s => .str (Str.ofString s)

/-! ### the evaluator -/
def bnd {α β : Type} (m : Option (α × Sto)) (f : α → Sto → Option (β × Sto)) : Option (β × Sto) :=
  match m with
  | some (a, S) => f a S
  | none => none
@[simp] theorem bnd_some {α β : Type} (a : α) (S : Sto) (f : α → Sto → Option (β × Sto)) : bnd (some (a, S)) f = f a S := rfl
@[simp] theorem bnd_none {α β : Type} (f : α → Sto → Option (β × Sto)) : bnd none f = none := rfl
theorem bnd_inv {α β : Type} {m : Option (α × Sto)} {f : α → Sto → Option (β × Sto)} {r : β × Sto} (h : bnd m f = some r) : ∃ a S, m = some (a, S) ∧ f a S = some r := by
  cases m with
  | none => cases h
  | some p => exact ⟨p.1, p.2, rfl, h⟩

abbrev Hn := String → List D → Sto → Option (D × Sto)
structure Cfg where
  C : Hn
  G : String → Option D

def getL (S : Sto) (n : Nat) : Option (List D) :=
  match S[n]? with
  | some (.lst xs) => some xs
  | some (.ro xs) => some xs
  | none => none
def getM (S : Sto) (n : Nat) : Option (List D) :=
  match S[n]? with
  | some (.lst xs) => some xs
  | _ => none

/-! data without places -/
mutual
def D.pure : D → Bool
  | .loc _ => false
  | .tup xs => D.pureL xs
  | _ => true
def D.pureL : List D → Bool
  | [] => true
  | d :: ds => d.pure && D.pureL ds
end
mutual
def D.und (n : Nat) : D → Prop
  | .loc m => m < n
  | .tup xs => D.undL n xs
  | _ => True
def D.undL (n : Nat) : List D → Prop
  | [] => True
  | d :: ds => D.und n d ∧ D.undL n ds
end
def SO.und (n : Nat) : SO → Prop
  | .lst xs => D.undL n xs
  | .ro xs => D.undL n xs
mutual
def D.py : D → PyData
  | .non => .none
  | .bl b => .bool b
  | .int i => .int i
  | .str s => .str s
  | .tup xs => .tuple (D.pyL xs)
  | .loc _ => .none
def D.pyL : List D → List PyData
  | [] => []
  | d :: ds => d.py :: D.pyL ds
end
/-- comparable: no places, proper texts, not too deep -/
def D.ok (d : D) : Prop := d.pure = true ∧ SeqAt.shaped d.py = true
def okL (ds : List D) : Prop := D.pureL ds = true ∧ SeqAt.shaped (.list (D.pyL ds)) = true

/-- a value to be compared: data, or a list of data -/
noncomputable def cmpd (S : Sto) : D → Option PyData
  | .loc n => match getL S n with
    | some xs => open Classical in if okL xs then some (.list (D.pyL xs)) else none
    | none => none
  | d => open Classical in if d.ok then some d.py else none

def truth (S : Sto) : D → Option Bool
  | .non => some false
  | .bl b => some b
  | .int i => some (i != 0)
  | .str s => if s.length ≤ sizeLine then some ((s.length : Int) != 0) else none
  | .tup xs => some (!xs.isEmpty)
  | .loc n => (getL S n).map fun xs => !xs.isEmpty
def isN : D → Bool
  | .non => true
  | _ => false

def mulOk (i j : Int) : Prop := i.natAbs.log2 + j.natAbs.log2 < 1000000
instance (i j : Int) : Decidable (mulOk i j) := by unfold mulOk; infer_instance
def divOk (j : Int) : Prop := 0 < j ∧ j.natAbs.log2 < 9000
instance (j : Int) : Decidable (divOk j) := by unfold divOk; infer_instance
def powOk (i j : Int) : Prop := 0 ≤ j ∧ j ≤ 1000000 ∧ i.natAbs < 2 ^ 64
instance (i j : Int) : Decidable (powOk i j) := by unfold powOk; infer_instance

def bop (op : Bop) (x y : D) (S : Sto) : Option (D × Sto) :=
  match op, x, y with
  | .add, .int i, .int j => some (.int (i + j), S)
  | .sub, .int i, .int j => some (.int (i - j), S)
  | .mul, .int i, .int j => if mulOk i j then some (.int (i * j), S) else none
  | .fdiv, .int i, .int j => if divOk j then some (.int (i / j), S) else none
  | .mod, .int i, .int j => if 0 < j then some (.int (i % j), S) else none
  | .pow, .int i, .int j => if powOk i j then some (.int (i ^ j.toNat), S) else none
  | .add, .str a, .str b => if a.length + b.length ≤ sizeLine then some (.str (a ++ b), S) else none
  | .add, .tup xs, .tup ys => if xs.length + ys.length ≤ sizeLine then some (.tup (xs ++ ys), S) else none
  | .add, .loc n, .loc m => match getM S n, getM S m with
    | some xs, some ys => if xs.length + ys.length ≤ sizeLine then some (.loc S.length, S ++ [.lst (xs ++ ys)]) else none
    | _, _ => none
  | _, _, _ => none

/-- two ints, two texts -/
def scD : D → D → Option Bool
  | .int i, .int j => some (decide (i = j))
  | .str a, .str b => some (decide (a = b))
  | _, _ => none
noncomputable def copEq (x y : D) (S : Sto) : Option Bool :=
  match scD x y with
  | some b => some b
  | none => match cmpd S x, cmpd S y with
    | some a, some b => some (PyData.eqv a b)
    | _, _ => none
noncomputable def cop (op : Cop) (x y : D) (S : Sto) : Option (D × Sto) :=
  match op with
  | .eq => (copEq x y S).map fun b => (.bl b, S)
  | .ne => (copEq x y S).map fun b => (.bl (!b), S)
  | .lt => match x, y with
    | .int i, .int j => some (.bl (decide (i < j)), S)
    | _, _ => none
  | .le => match x, y with
    | .int i, .int j => some (.bl (decide (i ≤ j)), S)
    | _, _ => none
  | .gt => match x, y with
    | .int i, .int j => some (.bl (decide (j < i)), S)
    | _, _ => none
  | .ge => match x, y with
    | .int i, .int j => some (.bl (decide (j ≤ i)), S)
    | _, _ => none
  | .isin => match cmpd S x, y with
    | some a, .tup ys => open Classical in if okL ys then some (.bl ((D.pyL ys).any fun z => PyData.eqv z a), S) else none
    | some a, .loc n => match getL S n with
      | some ys => open Classical in if okL ys then some (.bl ((D.pyL ys).any fun z => PyData.eqv z a), S) else none
      | none => none
    | _, _ => none
  | .notin => match cmpd S x, y with
    | some a, .tup ys => open Classical in if okL ys then some (.bl (!(D.pyL ys).any fun z => PyData.eqv z a), S) else none
    | some a, .loc n => match getL S n with
      | some ys => open Classical in if okL ys then some (.bl (!(D.pyL ys).any fun z => PyData.eqv z a), S) else none
      | none => none
    | _, _ => none

def iop (x i : D) (S : Sto) : Option (D × Sto) :=
  match x, i with
  | .tup xs, .int k => (atI xs k).map fun v => (v, S)
  | .loc n, .int k => match getL S n with
    | some xs => (atI xs k).map fun v => (v, S)
    | none => none
  | .str z, .int k => if z.length ≤ sizeLine then (atI z.cps.toList k).map fun c => (.str ⟨#[c]⟩, S) else none
  | _, _ => none

def isNonE : E → Bool
  | .cn .non => true | _ => false
/-- a slice's bound: left out, or an int -/
def bndE (e : E) (d : D) : Option (Option Int) := if isNonE e = true then some none else match d with
  | .int i => some (some i)
  | _ => none
def cutD (xs : List D) (lo hi : Option Int) : List D := (xs.drop (HT.sIx xs.length 0 lo)).take (HT.sIx xs.length xs.length hi - HT.sIx xs.length 0 lo)
def slop (x : D) (lo hi : Option Int) (S : Sto) : Option (D × Sto) :=
  match x with
  | .tup xs => some (.tup (cutD xs lo hi), S)
  | .loc n => match getL S n with
    | some xs => some (.loc S.length, S ++ [.lst (cutD xs lo hi)])
    | none => none
  | _ => none

/-! ### what a loop walks -/
def smallI (j : Int) : Prop := -(2 ^ 62) ≤ j ∧ j < 2 ^ 62
instance (j : Int) : Decidable (smallI j) := by unfold smallI; infer_instance
def rngD (lo : Int) (n : Nat) : List D := (List.range n).map fun i => D.int (lo + (i : Nat))
def enumD (lo : Nat) : List D → List D
  | [] => []
  | x :: xs => .tup [.int lo, x] :: enumD (lo + 1) xs
def zipD : List D → List D → List D
  | x :: xs, y :: ys => .tup [x, y] :: zipD xs ys
  | _, _ => []
/-- the items, and what must stand still meanwhile -/
abbrev Watch := List (Nat × List D)
def items (k : IK) (vs : List D) (S : Sto) : Option (List D × Watch) :=
  match k, vs with
  | .seq, [.tup ds] => some (ds, [])
  | .seq, [.loc n] => (getL S n).map fun ds => (ds, [(n, ds)])
  | .rng, [.int j] => if smallI j then some (rngD 0 j.toNat, []) else none
  | .rng, [.int i, .int j] => if smallI i ∧ smallI j then some (rngD i (j - i).toNat, []) else none
  | .rev, [.loc n] => (getL S n).map fun ds => (ds.reverse, [(n, ds)])
  | _, _ => none
def still (w : Watch) (S : Sto) : Prop := ∀ p ∈ w, getL S p.1 = some p.2

def asg (t : Tg) (d : D) (env : Ev) : Option Ev :=
  match t with
  | .v i => some (env.set i (some d))
  | .t is => match d with
    | .tup ds => if is.length = ds.length then some ((is.zip ds).foldl (fun e p => e.set p.1 (some p.2)) env) else none
    | _ => none
def Tg.slots : Tg → List Nat
  | .v i => [i]
  | .t is => is

section
variable (cond : Ev → Sto → Option (Bool × Sto)) (elt : Ev → Sto → Option (D × Sto))
/-- a comprehension's loop: the new list at n0 -/
noncomputable def lcL (w : Watch) (t : Tg) (n0 : Nat) (env : Ev) : List D → Sto → Option (Unit × Sto)
  | [], S => open Classical in if still w S then some ((), S) else none
  | x :: xs, S => open Classical in if still w S then
      match asg t x env with
      | none => none
      | some env1 => bnd (cond env1 S) fun k S1 =>
        if k = true then bnd (elt env1 S1) fun y S2 =>
          match getM S2 n0 with
          | some acc => if acc.length < sizeLine then lcL w t n0 env xs (S2.set n0 (.lst (acc ++ [y]))) else none
          | none => none
        else lcL w t n0 env xs S1
    else none
/-- two clauses: the outer loop -/
noncomputable def lc2L (inner : Ev → Sto → Option (Unit × Sto)) (w : Watch) (t : Tg) (env : Ev) : List D → Sto → Option (Unit × Sto)
  | [], S => open Classical in if still w S then some ((), S) else none
  | x :: xs, S => open Classical in if still w S then
      match asg t x env with
      | none => none
      | some env1 => bnd (cond env1 S) fun k S1 => if k = true then bnd (inner env1 S1) fun _ S2 => lc2L inner w t env xs S2 else lc2L inner w t env xs S1
    else none
end

/-! ### what a call leaves: places made in between are let go -/
def Pre (S S' : Sto) : Prop := S.length ≤ S'.length ∧ ∀ i so, i < S.length → S'[i]? = some so → S[i]? = some so ∨ so.und S.length
open Classical in
noncomputable def fin (S : Sto) (r : D × Sto) : Option (D × Sto) :=
  if Pre S r.2 then
    (if r.1.und S.length then some (r.1, r.2.take S.length)
     else match r.1 with
      | .loc m => match r.2[m]? with
        | some (.lst xs) => if D.undL S.length xs then some (.loc S.length, r.2.take S.length ++ [.lst xs]) else none
        | _ => none
      | _ => none)
  else none

/-! ### built-ins, methods -/
abbrev Bf := List D → Sto → Option (D × Sto)
def bLen : Bf
  | [.tup xs], S => some (.int xs.length, S)
  | [.loc n], S => (getL S n).map fun xs => (.int xs.length, S)
  | [.str z], S => if z.length ≤ sizeLine then some (.int z.length, S) else none
  | _, _ => none
def bAbs : Bf
  | [.int i], S => some (.int (if i < 0 then -i else i), S)
  | _, _ => none
def bInt : Bf
  | [.int i], S => some (.int i, S)
  | [.bl k], S => some (.int (if k then 1 else 0), S)
  | _, _ => none
def bMax : Bf
  | [.int i, .int j], S => some (.int (if j > i then j else i), S)
  | _, _ => none
def bMin : Bf
  | [.int i, .int j], S => some (.int (if j < i then j else i), S)
  | _, _ => none
def bGcd : Bf
  | [.int i, .int j], S => some (.int ((Nat.gcd i.natAbs j.natAbs : Nat) : Int), S)
  | _, _ => none
def bList : Bf
  | [.loc n], S => (getL S n).map fun xs => (.loc S.length, S ++ [.lst xs])
  | [.tup xs], S => some (.loc S.length, S ++ [.lst xs])
  | _, _ => none
def bTuple : Bf
  | [.loc n], S => (getL S n).map fun xs => (.tup xs, S)
  | [.tup xs], S => some (.tup xs, S)
  | _, _ => none
def D.isB : D → Option Bool
  | .bl b => some b
  | _ => none
def bls (xs : List D) : Option (List Bool) := xs.mapM D.isB
def bAll : Bf
  | [.loc n], S => (getL S n).bind fun xs => (bls xs).map fun bs => (.bl (bs.all id), S)
  | _, _ => none
def bAny : Bf
  | [.loc n], S => (getL S n).bind fun xs => (bls xs).map fun bs => (.bl (bs.any id), S)
  | _, _ => none
def D.isI : D → Option Int
  | .int i => some i
  | _ => none
def D.isS : D → Option Str
  | .str i => some i
  | _ => none
def leS (a b : Str) : Bool := !Spec.ltCps b.cps.toList a.cps.toList
def bSorted : Bf
  | [.loc n], S => match getL S n with
    | some xs => if xs.length < 64 then match xs.mapM D.isI with
        | some ns => some (.loc S.length, S ++ [.lst ((ns.mergeSort (fun a b => decide (a ≤ b))).map D.int)])
        | none => match xs.mapM D.isS with
          | some ss => some (.loc S.length, S ++ [.lst ((ss.mergeSort leS).map D.str)])
          | none => none
      else none
    | none => none
  | _, _ => none
/-- what may be shown: proper, not too deep, not too long -/
def shOk (p : PyData) : Prop := p.showable = true ∧ p.hasDict = false ∧ p.depth ≤ 64 ∧ p.shown.length ≤ sizeLine
open Classical in
noncomputable def bRepr : Bf
  | [.tup xs], S => if D.pureL xs = true ∧ shOk (D.py (.tup xs)) then some (.str (D.py (.tup xs)).shown, S) else none
  | [.bl b], S => some (.str (if b then ("True" : String) else "False"), S)
  | _, _ => none
noncomputable def blt (f : String) : Bf :=
  match f with
  | "repr" => bRepr
  | "sorted" => bSorted
  | "len" => bLen
  | "abs" => bAbs
  | "int" => bInt
  | "max" => bMax
  | "min" => bMin
  | "gcd" => bGcd
  | "list" => bList
  | "tuple" => bTuple
  | "all" => bAll
  | "any" => bAny
  | _ => fun _ _ => none
abbrev Mf := D → List D → Sto → Option (D × Sto)
def mAppend : Mf
  | .loc n, [y], S => match getM S n with
    | some xs => if xs.length < sizeLine then some (.non, S.set n (.lst (xs ++ [y]))) else none
    | none => none
  | _, _, _ => none
/-- the first place of an equal one -/
def fstEq (d : PyData) : Nat → List PyData → Option Nat
  | _, [] => none
  | k, x :: xs => if PyData.eqv x d = true then some k else fstEq d (k + 1) xs
noncomputable def mIndex : Mf
  | .loc n, [y], S => match getL S n with
    | some xs => open Classical in if okL xs ∧ y.ok then (fstEq y.py 0 (D.pyL xs)).map fun j => (.int j, S) else none
    | none => none
  | _, _, _ => none
noncomputable def mth (m : String) : Mf :=
  match m with
  | "index" => mIndex
  | "append" => mAppend
  | _ => fun _ _ _ => none

/-- the receiver's kind, looked at ahead of the arguments -/
def mTy (m : String) (x : D) (S : Sto) : Bool :=
  match m, x with
  | "append", .loc n => (getL S n).isSome
  | "index", .loc n => (getL S n).isSome
  | _, _ => false

/-! ### expressions -/
def tyN : D → String
  | .non => "NoneType" | .bl _ => "bool" | .int _ => "int" | .str _ => "str" | .tup _ => "tuple" | .loc _ => "list"
def isiN (T n : String) : Bool := n == T || (n == "bool" && T == "int")
def isiB (T : String) (d : D) : Bool := isiN T (tyN d)
def evVar (i : Nat) (env : Ev) (S : Sto) : Option (D × Sto) :=
  match env[i]? with
  | some (some d) => some (d, S)
  | _ => none
def tst (m : Option (D × Sto)) : Option (Bool × Sto) := bnd m fun x S => (truth S x).map fun k => (k, S)
def ifT {α : Type} (m : Option (Bool × Sto)) (f g : Sto → Option (α × Sto)) : Option (α × Sto) := bnd m fun k S => if k = true then f S else g S
def lift {α : Type} (o : Option α) (S : Sto) : Option (α × Sto) := o.map fun a => (a, S)

mutual
noncomputable def evE (c : Cfg) : E → Ev → Sto → Option (D × Sto)
  | .var i, env, S => evVar i env S
  | .cn k, _, S => some (k.d, S)
  | .glb x, _, S => lift (c.G x) S
  | .bin op a b, env, S => bnd (evE c a env S) fun x S1 => bnd (evE c b env S1) fun y S2 => bop op x y S2
  | .neg a, env, S => bnd (evE c a env S) fun x S1 => match x with | .int i => some (.int (-i), S1) | _ => none
  | .cmp op a b, env, S => bnd (evE c a env S) fun x S1 => bnd (evE c b env S1) fun y S2 => cop op x y S2
  | .isN a, env, S => bnd (evE c a env S) fun x S1 => some (.bl (isN x), S1)
  | .notN a, env, S => bnd (evE c a env S) fun x S1 => some (.bl (!isN x), S1)
  | .isB a b, env, S => bnd (evE c a env S) fun x S1 => match x with | .bl k => some (.bl (decide (k = b)), S1) | _ => none
  | .isi a T, env, S => bnd (evE c a env S) fun x S1 => some (.bl (isiB T x), S1)
  | .nt a, env, S => bnd (evE c a env S) fun x S1 => (truth S1 x).map fun k => (.bl (!k), S1)
  | .and a b, env, S => bnd (evE c a env S) fun x S1 => bnd (lift (truth S1 x) S1) fun k S1 => if k = true then evE c b env S1 else some (x, S1)
  | .or a b, env, S => bnd (evE c a env S) fun x S1 => bnd (lift (truth S1 x) S1) fun k S1 => if k = true then some (x, S1) else evE c b env S1
  | .ife t a b, env, S => ifT (tst (evE c t env S)) (evE c a env) (evE c b env)
  | .tup es, env, S => bnd (evEs c es env S) fun xs S1 => some (.tup xs, S1)
  | .lst es, env, S => bnd (evEs c es env S) fun xs S1 => some (.loc S1.length, S1 ++ [.lst xs])
  | .idx a i, env, S => bnd (evE c a env S) fun x S1 => bnd (evE c i env S1) fun y S2 => iop x y S2
  | .slc a lo hi, env, S => bnd (evE c a env S) fun x S1 => bnd (evE c lo env S1) fun l S2 => bnd (evE c hi env S2) fun h S3 => match bndE lo l, bndE hi h with | some l, some h => slop x l h S3 | _, _ => none
  | .call f es, env, S => bnd (evEs c es env S) fun xs S1 => c.C f xs S1
  | .blt f es, env, S => bnd (evEs c es env S) fun xs S1 => blt f xs S1
  | .mth m o es, env, S => bnd (evE c o env S) fun x S1 => if mTy m x S1 = true then bnd (evEs c es env S1) fun xs S2 => mth m x xs S2 else none
  | .lc t k es cnd e, env, S => bnd (evEs c es env S) fun xs S1 => bnd (lift (items k xs S1) S1) fun iw S1 =>
      bnd (lcL (fun env S => tst (evE c cnd env S)) (evE c e) iw.2 t S1.length (wipeE env t.slots) iw.1 (S1 ++ [.lst []])) fun _ S2 => some (.loc S1.length, S2)
  | .lc2 t k es cnd t1 k1 es1 cnd1 e, env, S => bnd (evEs c es env S) fun xs S1 => bnd (lift (items k xs S1) S1) fun iw S1 =>
      bnd (lc2L (fun env S => tst (evE c cnd env S)) (fun env1 S2 => bnd (evEs c es1 env1 S2) fun ys S3 => bnd (lift (items k1 ys S3) S3) fun iw1 S3 =>
          lcL (fun env S => tst (evE c cnd1 env S)) (evE c e) iw1.2 t1 S1.length (wipeE env1 t1.slots) iw1.1 S3) iw.2 t (wipeE env (t.slots ++ t1.slots)) iw.1 (S1 ++ [.lst []])) fun _ S2 => some (.loc S1.length, S2)
  | .tr e, env, S => bnd (evE c e env S) fun x S1 => fin S (x, S1)
termination_by structural e _ _ => e
noncomputable def evEs (c : Cfg) : List E → Ev → Sto → Option (List D × Sto)
  | [], _, S => some ([], S)
  | e :: es, env, S => bnd (evE c e env S) fun x S1 => bnd (evEs c es env S1) fun xs S2 => some (x :: xs, S2)
termination_by structural es _ _ => es
end

/-! ### statements -/
inductive Fl where
  | nx (env : Ev) | rt (d : D) | bk (env : Ev) | ct (env : Ev)
abbrev X1 := Ev → Sto → Option (Fl × Sto)
/-- for: over the items -/
noncomputable def forL (w : Watch) (t : Tg) (body : X1) : List D → X1
  | [], env, S => open Classical in if still w S then some (.nx env, S) else none
  | x :: xs, env, S => open Classical in if still w S then
      match asg t x env with
      | none => none
      | some env1 => bnd (body env1 S) fun f S1 => match f with
        | .nx env2 => forL w t body xs env2 S1
        | .ct env2 => forL w t body xs env2 S1
        | .bk env2 => some (.nx env2, S1)
        | .rt d => some (.rt d, S1)
    else none
def whN (c : Ev → Sto → Option (Bool × Sto)) (body : X1) : Nat → X1
  | 0, _, _ => none
  | n + 1, env, S => bnd (c env S) fun k S1 => if k = true then bnd (body env S1) fun f S2 => match f with
        | .nx env2 => whN c body n env2 S2
        | .ct env2 => whN c body n env2 S2
        | .bk env2 => some (.nx env2, S2)
        | .rt d => some (.rt d, S2)
      else some (.nx env, S1)
open Classical in
noncomputable def whE (c : Ev → Sto → Option (Bool × Sto)) (body : X1) : X1 := fun env S =>
  if h : ∃ n, (whN c body n env S).isSome = true then whN c body h.choose env S else none
def setL (env : Ev) (is : List Nat) (d : D) : Option Ev := asg (.t is) d env
def sqn (m : Option (Fl × Sto)) (k : X1) : Option (Fl × Sto) := bnd m fun f S1 => match f with
  | .nx env1 => k env1 S1
  | f => some (f, S1)
mutual
noncomputable def exS (c : Cfg) : S → Ev → Sto → Option (Fl × Sto)
  | .set i e, env, S => bnd (evE c e env S) fun x S1 => some (.nx (env.set i (some x)), S1)
  | .setT is e, env, S => bnd (evE c e env S) fun x S1 => bnd (lift (asg (.t is) x env) S1) fun env1 S1 => some (.nx env1, S1)
  | .par i j a b, env, S => bnd (evE c a env S) fun x S1 => bnd (evE c b env S1) fun y S2 => some (.nx ((env.set i (some x)).set j (some y)), S2)
  | .setI o k v, env, S => bnd (evE c v env S) fun z S1 => bnd (evE c o env S1) fun x S2 => bnd (evE c k env S2) fun y S3 => match x, y with
    | .loc n, .int i => match getM S3 n with
      | some xs => match ixN xs.length i with
        | some j => some (.nx env, S3.set n (.lst (xs.set j z)))
        | none => none
      | none => none
    | _, _ => none
  | .ex e, env, S => bnd (evE c e env S) fun _ S1 => some (.nx env, S1)
  | .ret e, env, S => bnd (evE c e env S) fun x S1 => some (.rt x, S1)
  | .iff t a b, env, S => ifT (tst (evE c t env S)) (exSs c a env) (exSs c b env)
  | .whl t b, env, S => whE (fun env S => tst (evE c t env S)) (exSs c b) env S
  | .for_ t k es b, env, S => bnd (evEs c es env S) fun xs S1 => bnd (lift (items k xs S1) S1) fun iw S1 => forL iw.2 t (exSs c b) iw.1 env S1
  | .brk, env, S => some (.bk env, S)
  | .cont, env, S => some (.ct env, S)
  | .pass, env, S => some (.nx env, S)
termination_by structural s _ _ => s
noncomputable def exSs (c : Cfg) : List S → Ev → Sto → Option (Fl × Sto)
  | [], env, S => some (.nx env, S)
  | s :: ss, env, S => sqn (exS c s env S) (exSs c ss)
termination_by structural ss _ _ => ss
end

/-! ### defs -/
structure FDef where
  np : Nat
  nl : Nat
  body : List S
  keep : Bool := false
def start' (fd : FDef) (vs : List D) : Ev := vs.map some ++ List.replicate (fd.nl - fd.np) none
noncomputable def runF (c : Cfg) (fd : FDef) (vs : List D) (S : Sto) : Option (D × Sto) :=
  if vs.length = fd.np then
    bnd (exSs c fd.body (start' fd vs) S) fun fl S1 => match fl with
      | .rt d => if fd.keep = true then some (d, S1) else fin S (d, S1)
      | .nx _ => if fd.keep = true then some (.non, S1) else fin S (.non, S1)
      | _ => none
  else none
noncomputable def callF (Γ : String → Option FDef) (G : String → Option D) : Nat → Hn
  | 0, f, vs, S => if f = "gcd" then bGcd vs S else none
  | k + 1, f, vs, S => if f = "gcd" then bGcd vs S else match Γ f with
    | none => none
    | some fd => runF ⟨callF Γ G k, G⟩ fd vs S
end Cs

set_option Elab.async false
set_option linter.all false
set_option maxRecDepth 100000
namespace Cs
open PySem PySem.Spec PyProof.Rows L2

/-! ### readings -/
/-- what is wanted behind: the store S', the value d -/
def Pst (K : PySem.W.Frag) (H : Hp) (ρ : List Addr) (d : D) (S' : Sto) (Q : VK) : Prop :=
  ∀ H' ρ' v, Mono H H' → ρ <+: ρ' → Sr K H' ρ' S' → Rp K H' ρ' d v → Q v H'
section
variable {K : PySem.W.Frag} {H : Hp} {ρ : List Addr} {S : Sto} {Q : VK}
theorem Pst.same {d : D} {v : V} (p : Pst K H ρ d S Q) (s : Sr K H ρ S) (r : Rp K H ρ d v) : Q v H := p H ρ v Mono.refl (List.prefix_refl _) s r
theorem Pst.newT {ds : List D} {vs : List V} {a : Addr} (p : Pst K H ρ (.tup ds) S Q) (s : Sr K H ρ S) (r : RpL K H ρ ds vs) (h : H a = none) : Q (.ref a) (upd H a (.tup vs)) :=
  p _ ρ _ (Mono.new h) (List.prefix_refl _) (s.newT h) ⟨a, vs, rfl, SqT.of upd_same, RpL.mono (Mono.new h) (List.prefix_refl _) ds vs r⟩
theorem Pst.newL {ds : List D} {vs : List V} {a : Addr} (p : Pst K H ρ (.loc S.length) (S ++ [.lst ds]) Q) (s : Sr K H ρ S) (r : RpL K H ρ ds vs) (h : H a = none) : Q (.ref a) (upd H a (.lst vs)) :=
  p _ (ρ ++ [a]) _ (Mono.new h) ⟨[a], rfl⟩ (s.newL h r) ⟨a, rfl, by rw [← s.len]; simp⟩
theorem Pst.write {n : Nat} {xs ds : List D} {vs : List V} {a : Addr} {d : D} {v : V} (p : Pst K H ρ d (S.set n (.lst ds)) Q) (s : Sr K H ρ S) (e : S[n]? = some (.lst xs)) (ea : ρ[n]? = some a) (r : RpL K H ρ ds vs)
    (rd : Rp K H ρ d v) : Q v (upd H a (.lst vs)) := by
  obtain ⟨s', m⟩ := s.write e ea r
  exact p _ ρ _ m (List.prefix_refl _) s' (rd.mono m (List.prefix_refl _) _ _)
end
/-- two-place, one-place, call, method readings -/
def LB (K : PySem.W.Frag) (f : D → D → Sto → Option (D × Sto)) : R2 := fun x y H Q => ∃ ρ S d1 d2 d S', Sr K H ρ S ∧ Rp K H ρ d1 x ∧ Rp K H ρ d2 y ∧ f d1 d2 S = some (d, S') ∧ Pst K H ρ d S' Q
def LC (K : PySem.W.Frag) (f : List D → Sto → Option (D × Sto)) : List V → Hp → VK → Prop := fun xs H Q => ∃ ρ S ds d S', Sr K H ρ S ∧ RpL K H ρ ds xs ∧ f ds S = some (d, S') ∧ Pst K H ρ d S' Q
def LM (K : PySem.W.Frag) (f : D → List D → Sto → Option (D × Sto)) : V → List V → Hp → VK → Prop := fun x xs H Q => ∃ ρ S d0 ds d S', Sr K H ρ S ∧ Rp K H ρ d0 x ∧ RpL K H ρ ds xs ∧ f d0 ds S = some (d, S') ∧ Pst K H ρ d S' Q

section
variable {K : PySem.W.Frag} {H : Hp} {ρ : List Addr} {S : Sto}
theorem getL_so {n : Nat} {xs : List D} (h : getL S n = some xs) : S[n]? = some (.lst xs) ∨ S[n]? = some (.ro xs) := by
  unfold getL at h
  split at h
  · cases h; exact .inl (by assumption)
  · cases h; exact .inr (by assumption)
  · cases h
theorem getM_so {n : Nat} {xs : List D} (h : getM S n = some xs) : S[n]? = some (.lst xs) := by
  unfold getM at h
  split at h
  · cases h; assumption
  · cases h
/-- a list at a place, read -/
theorem Sr.list (s : Sr K H ρ S) {n : Nat} {xs : List D} {x : V} (h : getL S n = some xs) (r : Rp K H ρ (.loc n) x) : ∃ a vs, x = .ref a ∧ ρ[n]? = some a ∧ SqL K H a vs ∧ RpL K H ρ xs vs := by
  obtain ⟨a, rfl, ea⟩ := r
  rcases getL_so h with e | e
  · obtain ⟨b, eb, vs, hv, rv⟩ := s.at_ n _ e
    rw [ea] at eb; cases eb
    exact ⟨a, vs, rfl, ea, SqL.of hv, rv⟩
  · obtain ⟨b, eb, vs, hv, rv⟩ := s.at_ n _ e
    rw [ea] at eb; cases eb
    exact ⟨a, vs, rfl, ea, hv.l, rv⟩
theorem Sr.lstM (s : Sr K H ρ S) {n : Nat} {xs : List D} {x : V} (h : getM S n = some xs) (r : Rp K H ρ (.loc n) x) : ∃ a vs, x = .ref a ∧ ρ[n]? = some a ∧ H a = some (.lst vs) ∧ RpL K H ρ xs vs := by
  obtain ⟨a, rfl, ea⟩ := r
  obtain ⟨b, eb, vs, hv, rv⟩ := s.at_ n _ (getM_so h)
  rw [ea] at eb; cases eb
  exact ⟨a, vs, rfl, ea, hv, rv⟩
end
/-! ### values as PyData -/
mutual
theorem dp_of {K : PySem.W.Frag} {H : Hp} {ρ : List Addr} : ∀ (d : D) (v : V), d.pure = true → Rp K H ρ d v → Dp K H v d.py
  | .non, v, _, h => by cases h; exact .non
  | .bl b, v, _, h => by cases h; exact .bl b
  | .int i, v, _, h => by cases h; exact .int i
  | .str s, v, _, h => by cases h; exact .str s
  | .tup ds, v, p, h => by
    obtain ⟨a, vs, rfl, hs, hr⟩ := h
    exact .tup hs (dp_ofL ds vs (by simpa [D.pure] using p) hr)
  | .loc n, v, p, _ => by simp [D.pure] at p
theorem dp_ofL {K : PySem.W.Frag} {H : Hp} {ρ : List Addr} : ∀ (ds : List D) (vs : List V), D.pureL ds = true → RpL K H ρ ds vs → DpAll K H vs (D.pyL ds)
  | [], vs, _, h => by cases h; exact .nil
  | d :: ds, vs, p, h => by
    obtain ⟨v, r, rfl, h1, h2⟩ := h
    simp [D.pureL] at p
    exact .cons (dp_of d v p.1 h1) (dp_ofL ds r p.2 h2)
end
theorem cmpd_dp {K : PySem.W.Frag} {H : Hp} {ρ : List Addr} {S : Sto} {d : D} {x : V} {p : PyData} (s : Sr K H ρ S) (r : Rp K H ρ d x) (h : cmpd S d = some p) : Dp K H x p ∧ SeqAt.shaped p = true := by
  have other : ∀ d : D, d.ok → Rp K H ρ d x → Dp K H x d.py ∧ SeqAt.shaped d.py = true := fun d o r => ⟨dp_of d x o.1 r, o.2⟩
  cases d with
  | loc n =>
    simp only [cmpd] at h
    cases e : getL S n with
    | none => rw [e] at h; cases h
    | some xs =>
      rw [e] at h
      simp only at h
      split at h
      · rename_i o
        cases h
        obtain ⟨a, vs, rfl, _, hs, hr⟩ := s.list e r
        exact ⟨.lst hs (dp_ofL xs vs o.1 hr), o.2⟩
      · cases h
  | _ =>
    simp only [cmpd] at h
    split at h
    · rename_i o
      cases h
      exact other _ o r
    · cases h

section
variable {X : Cx}
def bop_of : Bop → Operator
  | .add => .Add | .sub => .Sub | .mul => .Mult | .fdiv => .FloorDiv | .mod => .Mod | .pow => .Pow
theorem op_bop (op : Bop) : OpR X (binaryOp (bop_of op)) (LB X.K (bop op)) := by
  intro pins s σ H x y v u Q I rx ry h
  obtain ⟨ρ, S, d1, d2, d, S', hs, r1, r2, hf, hq⟩ := h
  unfold bop at hf
  split at hf
  · cases hf; cases r1; cases r2
    exact op_add pins s σ H _ _ v u Q I rx ry ⟨_, _, rfl, rfl, hq.same hs rfl⟩
  · cases hf; cases r1; cases r2
    exact op_sub pins s σ H _ _ v u Q I rx ry ⟨_, _, rfl, rfl, hq.same hs rfl⟩
  · cases r1; cases r2
    split at hf
    · rename_i hm; cases hf
      exact op_mulW pins s σ H _ _ v u Q I rx ry ⟨_, _, rfl, rfl, hm, hq.same hs rfl⟩
    · cases hf
  · cases r1; cases r2
    split at hf
    · rename_i hm; cases hf
      exact op_fdivW pins s σ H _ _ v u Q I rx ry ⟨_, _, rfl, rfl, hm, hq.same hs rfl⟩
    · cases hf
  · cases r1; cases r2
    split at hf
    · rename_i hm; cases hf
      exact op_mod pins s σ H _ _ v u Q I rx ry ⟨_, _, rfl, rfl, hm, hq.same hs rfl⟩
    · cases hf
  · cases r1; cases r2
    split at hf
    · rename_i hm; cases hf
      exact op_pow pins s σ H _ _ v u Q I rx ry ⟨_, _, rfl, rfl, hm, hq.same hs rfl⟩
    · cases hf
  · cases r1; cases r2
    split at hf
    · rename_i hm; cases hf
      exact op_add_str pins s σ H _ _ v u Q I rx ry ⟨_, _, rfl, rfl, hm, hq.same hs rfl⟩
    · cases hf
  · skip
    split at hf
    · rename_i hm; cases hf
      obtain ⟨a, vs, rfl, sa, ra⟩ := r1
      obtain ⟨b, us, rfl, sb, rb⟩ := r2
      refine op_catA pins s σ H _ _ v u Q I rx ry ⟨a, b, vs, us, rfl, rfl, sa, sb, by rw [← ra.length, ← rb.length]; exact hm, fun z => ?_, fun z z2 => ?_, fun _ _ p hp => hq.newT hs (ra.append rb) hp⟩
      · subst z
        have : _ = [] := List.eq_nil_of_length_eq_zero ra.length
        subst this
        exact hq.same hs ⟨b, us, rfl, sb, rb⟩
      · subst z2
        have : _ = [] := List.eq_nil_of_length_eq_zero rb.length
        subst this
        rw [List.append_nil] at hq
        exact hq.same hs ⟨a, vs, rfl, sa, ra⟩
    · cases hf
  · skip
    split at hf
    · rename_i xs ys e1 e2
      split at hf
      · rename_i hm; cases hf
        obtain ⟨a, vs, rfl, _, ha, ra⟩ := hs.lstM e1 r1
        obtain ⟨b, us, rfl, _, hb, rb⟩ := hs.lstM e2 r2
        exact op_cat pins s σ H _ _ v u Q I rx ry ⟨a, b, vs, us, rfl, rfl, ha, hb, by rw [← ra.length, ← rb.length]; exact hm, fun p hp => hq.newL hs (ra.append rb) hp⟩
      · cases hf
    · cases hf
  · cases hf

def cop_of : Cop → CmpOp
  | .eq => .Eq | .ne => .NotEq | .lt => .Lt | .le => .LtE | .gt => .Gt | .ge => .GtE | .isin => .In | .notin => .NotIn
theorem dpAll_of {K : PySem.W.Frag} {H : Hp} {a : Addr} {vs : List V} {ds : List PyData} (h : SqT K H a vs) (r : DpAll K H vs ds) : Dp K H (.ref a) (.tuple ds) := .tup h r
theorem op_inA (hu : X.A.units + 65 < cLine) {neg : Bool} {x y : V} {d : PyData} {ds : List PyData} {pins s σ H v u Q} (I : Inv X pins σ H s) (rx : RelV x v) (ry : RelV y u) (hd : Dp X.K H x d) (he : Dp X.K H y (.list ds) ∨ Dp X.K H y (.tuple ds))
    (sd : SeqAt.shaped d = true) (se : SeqAt.shaped (.list ds) = true) (q : Q (.bl (if neg then !(ds.any fun z => PyData.eqv z d) else ds.any fun z => PyData.eqv z d)) H) :
    wpAny (model X.prog X.w) X.A (compareOp (if neg then .NotIn else .In) v u) (EP X pins σ Q) X.xe s := by
  obtain ⟨as, r1⟩ := Dp.reads I d x v hd rx
  have hl : PyData.canLayAll0 ds = true := SeqAt.canLay_of_shaped se
  rcases he with he | he
  · obtain ⟨bs, r2⟩ := Dp.reads I (.list ds) y u he ry
    cases neg with
    | false => exact SeqAt.in_list_reads r2 r1 hl (SeqAt.canLay_of_shaped sd) (room_in_shaped sd hu) ⟨.bl _, H, I, rfl, q⟩
    | true => exact SeqAt.notIn_list_reads r2 r1 hl (SeqAt.canLay_of_shaped sd) (room_in_shaped sd hu) ⟨.bl _, H, I, rfl, q⟩
  · obtain ⟨bs, r2⟩ := Dp.reads I (.tuple ds) y u he ry
    cases neg with
    | false => exact SeqAt.in_tuple_reads r2 r1 hl (SeqAt.canLay_of_shaped sd) (room_in_shaped sd hu) ⟨.bl _, H, I, rfl, q⟩
    | true => exact SeqAt.notIn_tuple_reads r2 r1 hl (SeqAt.canLay_of_shaped sd) (room_in_shaped sd hu) ⟨.bl _, H, I, rfl, q⟩
theorem scD_scal {K : PySem.W.Frag} {H : Hp} {ρ : List Addr} {d e : D} {x y : V} {b : Bool} (h : scD d e = some b) (r1 : Rp K H ρ d x) (r2 : Rp K H ρ e y) : scal x y = true ∧ decide (x = y) = b := by
  unfold scD at h
  split at h
  · cases h; cases r1; cases r2
    exact ⟨rfl, by simp⟩
  · cases h; cases r1; cases r2
    exact ⟨rfl, by simp⟩
  · cases h
theorem op_cop (hu : X.A.units + 65 < cLine) (op : Cop) : OpR X (compareOp (cop_of op)) (LB X.K (cop op)) := by
  intro pins s σ H x y v u Q I rx ry h
  obtain ⟨ρ, S, d1, d2, d, S', hs, r1, r2, hf, hq⟩ := h
  cases op with
  | eq =>
    simp only [cop, copEq] at hf
    split at hf
    · rename_i b eb
      cases hf
      obtain ⟨sc, de⟩ := scD_scal eb r1 r2
      exact op_eq pins s σ H x y v u Q I rx ry ⟨sc, by rw [de]; exact hq.same hs rfl⟩
    · split at hf
      · rename_i a b ea eb
        cases hf
        obtain ⟨p1, s1⟩ := cmpd_dp hs r1 ea
        obtain ⟨p2, s2⟩ := cmpd_dp hs r2 eb
        exact op_eqD (by omega) pins s σ H x y v u Q I rx ry ⟨a, b, p1, p2, s1, s2, hq.same hs rfl⟩
      · cases hf
  | ne =>
    simp only [cop, copEq] at hf
    split at hf
    · rename_i b eb
      cases hf
      obtain ⟨sc, de⟩ := scD_scal eb r1 r2
      exact op_ne pins s σ H x y v u Q I rx ry ⟨sc, by rw [de]; exact hq.same hs rfl⟩
    · split at hf
      · rename_i a b ea eb
        cases hf
        obtain ⟨p1, s1⟩ := cmpd_dp hs r1 ea
        obtain ⟨p2, s2⟩ := cmpd_dp hs r2 eb
        exact op_neD (by omega) pins s σ H x y v u Q I rx ry ⟨a, b, p1, p2, s1, s2, hq.same hs rfl⟩
      · cases hf
  | lt =>
    simp only [cop] at hf
    split at hf
    · cases hf; cases r1; cases r2
      exact op_lt pins s σ H _ _ v u Q I rx ry ⟨_, _, rfl, rfl, hq.same hs rfl⟩
    · cases hf
  | le =>
    simp only [cop] at hf
    split at hf
    · cases hf; cases r1; cases r2
      exact op_le pins s σ H _ _ v u Q I rx ry ⟨_, _, rfl, rfl, hq.same hs rfl⟩
    · cases hf
  | gt =>
    simp only [cop] at hf
    split at hf
    · cases hf; cases r1; cases r2
      exact op_gt pins s σ H _ _ v u Q I rx ry ⟨_, _, rfl, rfl, hq.same hs rfl⟩
    · cases hf
  | ge =>
    simp only [cop] at hf
    split at hf
    · cases hf; cases r1; cases r2
      exact op_ge pins s σ H _ _ v u Q I rx ry ⟨_, _, rfl, rfl, hq.same hs rfl⟩
    · cases hf
  | isin =>
    simp only [cop] at hf
    split at hf
    · rename_i a ys ea
      split at hf
      · rename_i o; cases hf
        obtain ⟨p1, s1⟩ := cmpd_dp hs r1 ea
        obtain ⟨b, vs, rfl, sb, rb⟩ := r2
        exact op_inA (neg := false) hu I rx ry p1 (.inr (.tup sb (dp_ofL ys vs o.1 rb))) s1 o.2 (hq.same hs rfl)
      · cases hf
    · rename_i a n ea
      split at hf
      · rename_i ys e
        split at hf
        · rename_i o; cases hf
          obtain ⟨p1, s1⟩ := cmpd_dp hs r1 ea
          obtain ⟨b, vs, rfl, _, sb, rb⟩ := hs.list e r2
          exact op_inA (neg := false) hu I rx ry p1 (.inl (.lst sb (dp_ofL ys vs o.1 rb))) s1 o.2 (hq.same hs rfl)
        · cases hf
      · cases hf
    · cases hf
  | notin =>
    simp only [cop] at hf
    split at hf
    · rename_i a ys ea
      split at hf
      · rename_i o; cases hf
        obtain ⟨p1, s1⟩ := cmpd_dp hs r1 ea
        obtain ⟨b, vs, rfl, sb, rb⟩ := r2
        exact op_inA (neg := true) hu I rx ry p1 (.inr (.tup sb (dp_ofL ys vs o.1 rb))) s1 o.2 (hq.same hs rfl)
      · cases hf
    · rename_i a n ea
      split at hf
      · rename_i ys e
        split at hf
        · rename_i o; cases hf
          obtain ⟨p1, s1⟩ := cmpd_dp hs r1 ea
          obtain ⟨b, vs, rfl, _, sb, rb⟩ := hs.list e r2
          exact op_inA (neg := true) hu I rx ry p1 (.inl (.lst sb (dp_ofL ys vs o.1 rb))) s1 o.2 (hq.same hs rfl)
        · cases hf
      · cases hf
    · cases hf

theorem atI_rp {K : PySem.W.Frag} {H : Hp} {ρ : List Addr} {ds : List D} {vs : List V} {k : Int} {d : D} (r : RpL K H ρ ds vs) (h : atI ds k = some d) : ∃ v, atI vs k = some v ∧ Rp K H ρ d v := by
  unfold atI at h ⊢
  rw [← r.length]
  cases e : ixN ds.length k with
  | none => rw [e] at h; cases h
  | some j =>
    rw [e] at h
    have h' : ds[j]? = some d := h
    obtain ⟨v, e1, rv⟩ := r.get h'
    exact ⟨v, e1, rv⟩
theorem ix_iop : IxR X (LB X.K iop) := by
  intro value slice pins s σ H x y v u Q I rx ry h hsub
  obtain ⟨ρ, S, d1, d2, d, S', hs, r1, r2, hf, hq⟩ := h
  unfold iop at hf
  split at hf
  · rename_i xs k
    cases e : atI xs k with
    | none => rw [e] at hf; cases hf
    | some z =>
      rw [e] at hf; cases hf
      obtain ⟨a, vs, rfl, sa, ra⟩ := r1
      cases r2
      obtain ⟨w, ew, rw'⟩ := atI_rp ra e
      exact ix_tup value slice pins s σ H _ _ v u Q I rx ry ⟨a, vs, k, w, rfl, rfl, sa, ew, hq.same hs rw'⟩ hsub
  · rename_i n k
    split at hf
    · rename_i xs eg
      cases e : atI xs k with
      | none => rw [e] at hf; cases hf
      | some z =>
        rw [e] at hf; cases hf
        obtain ⟨a, vs, rfl, _, sa, ra⟩ := hs.list eg r1
        cases r2
        obtain ⟨w, ew, rw'⟩ := atI_rp ra e
        exact ix_list value slice pins s σ H _ _ v u Q I rx ry ⟨a, vs, k, w, rfl, rfl, sa, ew, hq.same hs rw'⟩ hsub
    · cases hf
  · rename_i z k
    split at hf
    · rename_i hz
      cases e : atI z.cps.toList k with
      | none => rw [e] at hf; cases hf
      | some c =>
        rw [e] at hf; cases hf
        cases r1; cases r2
        exact ix_str value slice pins s σ H _ _ v u Q I rx ry ⟨z, k, c, rfl, rfl, hz, e, hq.same hs rfl⟩ hsub
    · cases hf
  · cases hf

theorem cut_rp {K : PySem.W.Frag} {H : Hp} {ρ : List Addr} {ds : List D} {vs : List V} {lo hi : Option Int} (r : RpL K H ρ ds vs) : RpL K H ρ (cutD ds lo hi) (cutV vs lo hi) := by
  unfold cutD cutV
  rw [← r.length]
  exact (r.drop _).take _
def LSl (K : PySem.W.Frag) (f : D → Option Int → Option Int → Sto → Option (D × Sto)) : V → Option Int → Option Int → Hp → VK → Prop := fun x lo hi H Q => ∃ ρ S d1 d S', Sr K H ρ S ∧ Rp K H ρ d1 x ∧ f d1 lo hi S = some (d, S') ∧ Pst K H ρ d S' Q
theorem sl_slop : SlR X (LSl X.K slop) := by
  intro pins s σ H x v vl vu lo hi sl Q I rx hsl pl pu h
  obtain ⟨ρ, S, d1, d, S', hs, r1, hf, hq⟩ := h
  unfold slop at hf
  split at hf
  · rename_i xs
    cases hf
    obtain ⟨a, vs, rfl, sa, ra⟩ := r1
    refine sl_tupA pins s σ H _ v vl vu lo hi sl Q I rx hsl pl pu ⟨a, vs, rfl, sa, fun z => ?_, fun _ p hp => hq.newT hs (cut_rp ra) hp⟩
    have e : cutD xs lo hi = xs := by
      unfold cutD
      rw [ra.length, z.1, z.2]
      simp [← ra.length]
    rw [e] at hq
    exact hq.same hs ⟨a, vs, rfl, sa, ra⟩
  · rename_i n
    split at hf
    · rename_i xs eg
      cases hf
      obtain ⟨a, vs, rfl, _, sa, ra⟩ := hs.list eg r1
      exact sl_list pins s σ H _ v vl vu lo hi sl Q I rx hsl pl pu ⟨a, vs, rfl, sa, fun p hp => hq.newL hs (cut_rp ra) hp⟩
    · cases hf
  · cases hf

theorem tru_of {K : PySem.W.Frag} {H : Hp} {ρ : List Addr} {S : Sto} {d : D} {x : V} {k : Bool} (s : Sr K H ρ S) (r : Rp K H ρ d x) (h : truth S d = some k) : TruV K x H k := by
  have emp : ∀ {ds : List D} {vs : List V}, RpL K H ρ ds vs → (!ds.isEmpty) = !vs.isEmpty := by
    intro ds vs r
    have := r.length
    cases ds <;> cases vs <;> simp_all
  cases d with
  | non => cases r; cases h; rfl
  | bl b => cases r; cases h; rfl
  | int i => cases r; cases h; rfl
  | str z =>
    cases r
    simp only [truth] at h
    split at h
    · rename_i hz; cases h; exact ⟨hz, rfl⟩
    · cases h
  | tup ds =>
    obtain ⟨a, vs, rfl, sa, ra⟩ := r
    cases h
    exact .inr (.inl ⟨vs, sa, emp ra⟩)
  | loc n =>
    simp only [truth] at h
    cases e : getL S n with
    | none => rw [e] at h; cases h
    | some xs =>
      rw [e] at h; cases h
      obtain ⟨a, vs, rfl, _, sa, ra⟩ := s.list e r
      exact .inl ⟨vs, sa, emp ra⟩
end
end Cs

set_option Elab.async false
set_option linter.all false
set_option maxRecDepth 100000
namespace Cs
open PySem PySem.Spec PyProof.Rows L2
section
variable {X : Cx}
theorem CallR.weak {f : Value} {r r' : List V → Hp → VK → Prop} (h : CallR X f r) (w : ∀ xs H Q, r' xs H Q → r xs H Q) : CallR X f r' :=
  fun pins s σ H xs us Q I rx q => h pins s σ H xs us Q I rx (w _ _ _ q)
theorem cr_len : CallR X (.builtin "len") (LC X.K bLen) := by
  intro pins s σ H xs us Q I rx h
  obtain ⟨ρ, S, ds, d, S', hs, r, hf, hq⟩ := h
  unfold bLen at hf
  split at hf
  · cases hf
    obtain ⟨v, r2, rfl, ⟨a, vs, rfl, sa, ra⟩, rfl⟩ := r
    exact call_len_seq pins s σ H _ us Q I rx ⟨a, vs, rfl, .inr sa, by rw [← ra.length]; exact hq.same hs rfl⟩
  · rename_i n
    obtain ⟨v, r2, rfl, r1, rfl⟩ := r
    cases e : getL S n with
    | none => rw [e] at hf; cases hf
    | some xs =>
      rw [e] at hf; cases hf
      obtain ⟨a, vs, rfl, _, sa, ra⟩ := hs.list e r1
      exact call_len_seq pins s σ H _ us Q I rx ⟨a, vs, rfl, .inl sa, by rw [← ra.length]; exact hq.same hs rfl⟩
  · obtain ⟨v, r2, rfl, r1, rfl⟩ := r
    cases r1
    split at hf
    · rename_i hz; cases hf
      exact call_len_str pins s σ H _ us Q I rx ⟨_, rfl, hz, hq.same hs rfl⟩
    · cases hf
  · cases hf
theorem cr_abs : CallR X (.builtin "abs") (LC X.K bAbs) := by
  intro pins s σ H xs us Q I rx h
  obtain ⟨ρ, S, ds, d, S', hs, r, hf, hq⟩ := h
  unfold bAbs at hf
  split at hf
  · cases hf
    obtain ⟨v, r2, rfl, r1, rfl⟩ := r
    cases r1
    exact call_abs pins s σ H _ us Q I rx ⟨_, rfl, hq.same hs rfl⟩
  · cases hf
theorem cr_int : CallR X (.type "int") (LC X.K bInt) := by
  intro pins s σ H xs us Q I rx h
  obtain ⟨ρ, S, ds, d, S', hs, r, hf, hq⟩ := h
  unfold bInt at hf
  split at hf
  · cases hf
    obtain ⟨v, r2, rfl, r1, rfl⟩ := r
    cases r1
    exact call_int1 pins s σ H _ us Q I rx (.inl ⟨_, rfl, hq.same hs rfl⟩)
  · cases hf
    obtain ⟨v, r2, rfl, r1, rfl⟩ := r
    cases r1
    exact call_int1 pins s σ H _ us Q I rx (.inr ⟨_, rfl, hq.same hs rfl⟩)
  · cases hf
theorem cr_max (hc : X.calm = true) : CallR X (.builtin "max") (LC X.K bMax) := by
  intro pins s σ H xs us Q I rx h
  obtain ⟨ρ, S, ds, d, S', hs, r, hf, hq⟩ := h
  unfold bMax at hf
  split at hf
  · cases hf
    obtain ⟨v, r2, rfl, r1, w, r3, rfl, r4, rfl⟩ := r
    cases r1; cases r4
    exact call_max2 hc pins s σ H _ us Q I rx ⟨_, _, rfl, hq.same hs rfl⟩
  · cases hf
theorem cr_min (hc : X.calm = true) : CallR X (.builtin "min") (LC X.K bMin) := by
  intro pins s σ H xs us Q I rx h
  obtain ⟨ρ, S, ds, d, S', hs, r, hf, hq⟩ := h
  unfold bMin at hf
  split at hf
  · cases hf
    obtain ⟨v, r2, rfl, r1, w, r3, rfl, r4, rfl⟩ := r
    cases r1; cases r4
    exact call_min2 hc pins s σ H _ us Q I rx ⟨_, _, rfl, hq.same hs rfl⟩
  · cases hf
theorem cr_gcd' : CallR X (.builtin "math.gcd") (LC X.K bGcd) := by
  intro pins s σ H xs us Q I rx h
  obtain ⟨ρ, S, ds, d, S', hs, r, hf, hq⟩ := h
  unfold bGcd at hf
  split at hf
  · cases hf
    obtain ⟨v, r2, rfl, r1, w, r3, rfl, r4, rfl⟩ := r
    cases r1; cases r4
    exact cr_gcd pins s σ H _ us Q I rx ⟨_, _, rfl, hq.same hs rfl⟩
  · cases hf
theorem cr_list : CallR X (.type "list") (LC X.K bList) := by
  intro pins s σ H xs us Q I rx h
  obtain ⟨ρ, S, ds, d, S', hs, r, hf, hq⟩ := h
  unfold bList at hf
  split at hf
  · rename_i n
    obtain ⟨v, r2, rfl, r1, rfl⟩ := r
    cases e : getL S n with
    | none => rw [e] at hf; cases hf
    | some xs =>
      rw [e] at hf; cases hf
      obtain ⟨a, vs, rfl, _, sa, ra⟩ := hs.list e r1
      exact call_list_of pins s σ H _ us Q I rx ⟨a, vs, rfl, .inl sa, fun l hl => hq.newL hs ra hl⟩
  · cases hf
    obtain ⟨v, r2, rfl, ⟨a, vs, rfl, sa, ra⟩, rfl⟩ := r
    exact call_list_of pins s σ H _ us Q I rx ⟨a, vs, rfl, .inr sa, fun l hl => hq.newL hs ra hl⟩
  · cases hf
theorem cr_tuple : CallR X (.type "tuple") (LC X.K bTuple) := by
  intro pins s σ H xs us Q I rx h
  obtain ⟨ρ, S, ds, d, S', hs, r, hf, hq⟩ := h
  unfold bTuple at hf
  split at hf
  · rename_i n
    obtain ⟨v, r2, rfl, r1, rfl⟩ := r
    cases e : getL S n with
    | none => rw [e] at hf; cases hf
    | some xs =>
      rw [e] at hf; cases hf
      obtain ⟨a, vs, rfl, _, sa, ra⟩ := hs.list e r1
      exact call_tuple_of pins s σ H _ us Q I rx ⟨a, vs, rfl, .inl ⟨sa, fun l hl => hq.newT hs ra hl⟩⟩
  · cases hf
    obtain ⟨v, r2, rfl, ⟨a, vs, rfl, sa, ra⟩, rfl⟩ := r
    exact call_tuple_of pins s σ H _ us Q I rx ⟨a, vs, rfl, .inr ⟨sa, hq.same hs ⟨a, vs, rfl, sa, ra⟩⟩⟩
  · cases hf
theorem bls_map : ∀ {xs : List D} {bs : List Bool}, bls xs = some bs → xs = bs.map D.bl
  | [], bs, h => by cases h; rfl
  | x :: xs, bs, h => by
    unfold bls at h
    rw [List.mapM_cons] at h
    cases x with
    | bl b =>
      simp only [D.isB, Option.bind_eq_bind, Option.bind_some] at h
      cases e : xs.mapM D.isB with
      | none => rw [e] at h; cases h
      | some cs =>
        rw [e] at h; cases h
        rw [bls_map (bs := cs) e]; rfl
    | _ => cases h
theorem cr_all' (hc : X.calm = true) : CallR X (.builtin "all") (LC X.K bAll) := by
  intro pins s σ H xs us Q I rx h
  obtain ⟨ρ, S, ds, d, S', hs, r, hf, hq⟩ := h
  unfold bAll at hf
  split at hf
  · rename_i n
    obtain ⟨v, r2, rfl, r1, rfl⟩ := r
    cases e : getL S n with
    | none => rw [e] at hf; cases hf
    | some xs =>
      rw [e] at hf
      simp only [Option.bind_some] at hf
      cases e2 : bls xs with
      | none => rw [e2] at hf; cases hf
      | some bs =>
        rw [e2] at hf; cases hf
        obtain ⟨a, vs, rfl, _, sa, ra⟩ := hs.list e r1
        rw [bls_map e2] at ra
        have ev := RpL.bls.mp ra
        subst ev
        exact cr_all hc pins s σ H _ us Q I rx ⟨a, bs, rfl, sa, hq.same hs rfl⟩
  · cases hf
theorem cr_any' (hc : X.calm = true) : CallR X (.builtin "any") (LC X.K bAny) := by
  intro pins s σ H xs us Q I rx h
  obtain ⟨ρ, S, ds, d, S', hs, r, hf, hq⟩ := h
  unfold bAny at hf
  split at hf
  · rename_i n
    obtain ⟨v, r2, rfl, r1, rfl⟩ := r
    cases e : getL S n with
    | none => rw [e] at hf; cases hf
    | some xs =>
      rw [e] at hf
      simp only [Option.bind_some] at hf
      cases e2 : bls xs with
      | none => rw [e2] at hf; cases hf
      | some bs =>
        rw [e2] at hf; cases hf
        obtain ⟨a, vs, rfl, _, sa, ra⟩ := hs.list e r1
        rw [bls_map e2] at ra
        have ev := RpL.bls.mp ra
        subst ev
        exact cr_any hc pins s σ H _ us Q I rx ⟨a, bs, rfl, sa, hq.same hs rfl⟩
  · cases hf

theorem cr_repr (hg : X.A.guards = some []) (hu : X.A.units + 70 < cLine) : CallR X (.builtin "repr") (LC X.K bRepr) := by
  intro pins s σ H xs us Q I rx h
  obtain ⟨ρ, S, ds, d, S', hs, r, hf, hq⟩ := h
  unfold bRepr at hf
  split at hf
  · rename_i ys
    split at hf
    · rename_i o
      cases hf
      obtain ⟨v, r2, rfl, r1, rfl⟩ := r
      have dp := dp_of (.tup ys) v (by rw [D.pure]; exact o.1) r1
      obtain ⟨a, vs, rfl, _⟩ := r1
      rw [Vals.ref1 rx]
      obtain ⟨as, rd⟩ := Dp.reads I _ (.ref a) (.ref a) dp rfl
      refine repr_of_reads' rd o.2.1 (fun z => by rw [o.2.2.1] at z; cases z) hg (by have := o.2.2.2.1; omega) (fun _ _ z => z) (fun h' u tk hk => ?_) o.2.2.2.2
      exact ⟨.str _, H, I.kept (t' := tk) hk, ⟨u, rfl⟩, hq.same hs rfl⟩
    · cases hf
  · rename_i b
    cases hf
    obtain ⟨v, r2, rfl, r1, rfl⟩ := r
    cases r1
    obtain ⟨u, rfl, ru⟩ := vals1 rx
    cases ru
    exact PySem.P.repr_of_bool ⟨.str _, H, I.tok _, ⟨_, rfl⟩, hq.same hs rfl⟩
  · cases hf
theorem ints_map : ∀ {xs : List D} {ns : List Int}, xs.mapM D.isI = some ns → xs = ns.map D.int
  | [], ns, h => by cases h; rfl
  | x :: xs, ns, h => by
    rw [List.mapM_cons] at h
    cases x with
    | int b =>
      simp only [D.isI, Option.bind_eq_bind, Option.bind_some] at h
      cases e : xs.mapM D.isI with
      | none => rw [e] at h; cases h
      | some cs =>
        rw [e] at h; cases h
        rw [ints_map (ns := cs) e]; rfl
    | _ => cases h
theorem strs_map : ∀ {xs : List D} {ns : List Str}, xs.mapM D.isS = some ns → xs = ns.map D.str
  | [], ns, h => by cases h; rfl
  | x :: xs, ns, h => by
    rw [List.mapM_cons] at h
    cases x with
    | str b =>
      simp only [D.isS, Option.bind_eq_bind, Option.bind_some] at h
      cases e : xs.mapM D.isS with
      | none => rw [e] at h; cases h
      | some cs =>
        rw [e] at h; cases h
        rw [strs_map (ns := cs) e]; rfl
    | _ => cases h
theorem leS_iff (a b : Str) : leS a b = true ↔ a.cps.toList ≤ b.cps.toList := by
  unfold leS
  rw [PyProof.Rows.ltCps_eq]
  simp [List.not_lt]
theorem leS_pair : ∀ {l : List Str}, PyProof.Rows.sortedS l = true → l.Pairwise (fun a b => leS a b = true) := by
  have tr : ∀ a b c : Str, leS a b = true → leS b c = true → leS a c = true := fun a b c h k => (leS_iff a c).mpr (List.le_trans ((leS_iff a b).mp h) ((leS_iff b c).mp k))
  have step : ∀ (r : List Str) (p : Str), PyProof.Rows.risingS p r = true → (p :: r).Pairwise (fun a b => leS a b = true) := by
    intro r
    induction r with
    | nil => intro p _; simp
    | cons x r ih =>
      intro p h
      unfold PyProof.Rows.risingS at h
      rw [Bool.and_eq_true] at h
      have i2 := ih x h.2
      refine List.Pairwise.cons (fun y hy => ?_) i2
      rcases List.mem_cons.mp hy with rfl | hy
      · exact h.1
      · exact tr _ _ _ h.1 ((List.pairwise_cons.mp i2).1 y hy)
  intro l h
  cases l with
  | nil => exact .nil
  | cons x r => exact step r x h
theorem leS_anti {a b : Str} (h : leS a b = true) (k : leS b a = true) : a = b := by
  have e := List.le_antisymm ((leS_iff a b).mp h) ((leS_iff b a).mp k)
  cases a; cases b
  simpa [Array.toList_inj] using e
theorem cr_sorted' : CallR X (.builtin "sorted") (LC X.K bSorted) := by
  intro pins s σ H xs us Q I rx h
  obtain ⟨ρ, S, ds, d, S', hs, r, hf, hq⟩ := h
  unfold bSorted at hf
  split at hf
  · rename_i n
    obtain ⟨v, r2, rfl, r1, rfl⟩ := r
    split at hf
    · rename_i ys e
      obtain ⟨a, vs, rfl, _, sa, ra⟩ := hs.list e r1
      split at hf
      · rename_i h64
        split at hf
        · rename_i ns en
          cases hf
          rw [ints_map en] at ra h64
          have ev := RpL.ints.mp ra
          subst ev
          refine cr_sorted pins s σ H _ us Q I rx ⟨a, ns, rfl, sa, by simpa using h64, fun ns' p pm pw hp => ?_⟩
          have eq : ns' = ns.mergeSort (fun a b => decide (a ≤ b)) := by
            refine List.Perm.eq_of_pairwise (le := fun a b => a ≤ b) (fun a b _ _ h k => by omega) pw ?_ (pm.trans (List.mergeSort_perm ns _).symm)
            have := List.pairwise_mergeSort (le := fun a b : Int => decide (a ≤ b)) (fun a b c h k => by simp at *; omega) (fun a b => by simp; omega) ns
            exact this.imp fun h => of_decide_eq_true h
          subst eq
          exact hq.newL hs (RpL.ints.mpr rfl) hp
        · split at hf
          · rename_i ss en
            cases hf
            rw [strs_map en] at ra h64
            have ev := RpL.strs.mp ra
            subst ev
            refine cr_sortedS pins s σ H _ us Q I rx ⟨a, ss, rfl, sa, by simpa using h64, fun ss' p pm pw hp => ?_⟩
            have eq : ss' = ss.mergeSort leS := by
              refine List.Perm.eq_of_pairwise (le := fun a b => leS a b = true) (fun a b _ _ h k => leS_anti h k) (leS_pair pw) ?_ (pm.trans (List.mergeSort_perm ss _).symm)
              refine List.pairwise_mergeSort (fun a b c h k => (leS_iff a c).mpr (List.le_trans ((leS_iff a b).mp h) ((leS_iff b c).mp k))) (fun a b => ?_) ss
              have := List.le_total a.cps.toList b.cps.toList
              rw [Bool.or_eq_true, leS_iff, leS_iff]
              exact this
            subst eq
            exact hq.newL hs (RpL.strs.mpr rfl) hp
          · cases hf
      · cases hf
    · cases hf
  · cases hf
theorem fstEq_ok {d : PyData} : ∀ {xs : List PyData} {k j : Nat}, fstEq d k xs = some j → ∃ i z, j = k + i ∧ xs[i]? = some z ∧ PyData.eqv z d = true ∧ ∀ m z', m < i → xs[m]? = some z' → PyData.eqv z' d = false
  | [], k, j, h => by cases h
  | x :: xs, k, j, h => by
    unfold fstEq at h
    split at h
    · rename_i e
      cases h
      exact ⟨0, x, rfl, rfl, e, fun m _ hm => absurd hm (Nat.not_lt_zero m)⟩
    · rename_i e
      obtain ⟨i, z, rfl, h1, h2, h3⟩ := fstEq_ok h
      refine ⟨i + 1, z, by omega, h1, h2, fun m z' hm hz => ?_⟩
      cases m with
      | zero =>
        cases hz
        simpa using e
      | succ m => exact h3 m z' (by omega) hz
theorem mt_index' (hu : X.A.units + 65 < cLine) : MtR X "list.index" (LM X.K mIndex) := by
  intro pins s σ H x xs v us Q I rx rxs h
  obtain ⟨ρ, S, d0, ds, d, S', hs, r0, r, hf, hq⟩ := h
  unfold mIndex at hf
  split at hf
  · rename_i n y
    split at hf
    · rename_i ys e
      split at hf
      · rename_i o
        cases ef : fstEq y.py 0 (D.pyL ys) with
        | none => rw [ef] at hf; cases hf
        | some j =>
          rw [ef] at hf; cases hf
          obtain ⟨i, z, ej, h1, h2, h3⟩ := fstEq_ok ef
          rw [Nat.zero_add] at ej
          subst ej
          obtain ⟨a, vs, rfl, ea, sa, ra⟩ := hs.list e r0
          obtain ⟨w, r2, rfl, r1, rfl⟩ := r
          exact mt_indexD hu pins s σ H _ _ v us Q I rx rxs ⟨a, w, y.py, D.pyL ys, j, z, rfl, rfl, .lst sa (dp_ofL ys vs o.1.1 ra), dp_of y w o.2.1 r1, o.1.2, o.2.2, h1, h2, h3, hq.same hs rfl⟩
      · cases hf
    · cases hf
  · cases hf
/-- isinstance(x, T), T a built-in class -/
theorem ty_of {K : PySem.W.Frag} {H : Hp} {ρ : List Addr} {S : Sto} {d : D} {v : V} (hs : Sr K H ρ S) (r : Rp K H ρ d v) : TyX K H v (.type (tyN d)) := by
  cases d with
  | non => cases r; exact (.base .non)
  | bl b => cases r; exact (.base (.bl b))
  | int i => cases r; exact (.base (.int i))
  | str x => cases r; exact (.base (.str x))
  | tup ds =>
    obtain ⟨a, vs, rfl, (h | ⟨o, h⟩) | ⟨o, its, n, h, c, _⟩, _⟩ := r
    · exact (.base (.tup h))
    · exact (.fTuple h)
    · exact (.kTuple h c)
  | loc n =>
    obtain ⟨a, rfl, ea⟩ := r
    have hn : n < S.length := by rw [← hs.len]; exact (List.getElem?_eq_some_iff.mp ea).1
    obtain ⟨b, eb, r⟩ := hs.at_ n _ (List.getElem?_eq_getElem hn)
    rw [ea] at eb; cases eb
    cases q : S[n] with
    | lst ds =>
      rw [q] at r
      obtain ⟨vs, h, _⟩ := r
      exact (.base (.lst h))
    | ro ds =>
      rw [q] at r
      obtain ⟨vs, ⟨o, h⟩ | ⟨o, its, n, h, c, _⟩, _⟩ := r
      · exact (.base (.frz h))
      · exact (.kList h c)
def isiTys : List String := ["bool", "str", "tuple", "int", "list"]
theorem kitN : ∀ n ∈ ["NoneType", "bool", "int", "str", "tuple", "list"], ∀ T ∈ isiTys, kitB n T = some (isiN T n) := by decide +kernel
theorem kit_isi {K : PySem.W.Frag} {d : D} {T : String} (hT : T ∈ isiTys) : PySem.W.kitOne K (.type (tyN d)) (.type T) = some (isiB T d) := by
  refine kit_ty (kitN _ ?_ T hT)
  cases d <;> simp [tyN]
theorem mt_append' : MtM X "list.append" (LM X.K mAppend) := by
  intro pins s σ H x xs v us Q I rx rxs h
  obtain ⟨ρ, S, d0, ds, d, S', hs, r0, r, hf, hq⟩ := h
  unfold mAppend at hf
  split at hf
  · rename_i n y
    split at hf
    · rename_i ys e
      split at hf
      · rename_i hl; cases hf
        obtain ⟨a, vs, rfl, ea, ha, ra⟩ := hs.lstM e r0
        obtain ⟨w, r2, rfl, r1, rfl⟩ := r
        exact mt_append pins s σ H _ _ v us Q I rx rxs ⟨a, vs, w, rfl, rfl, ha, by rw [← ra.length]; exact hl, hq.write hs (getM_so e) ea (ra.append (RpL.one r1)) rfl⟩
      · cases hf
    · cases hf
  · cases hf
end
end Cs

set_option Elab.async false
set_option linter.all false
set_option maxRecDepth 100000
namespace Cs
open PySem PySem.Spec PyProof.Rows L2

/-! ### the given text against the own one -/
def isVis (sc : Scope) (x : Str) : Bool := match sc.names.lookup x with
  | some .local => true | some .cell => true | some .free => true | _ => false
def isLoc (sc : Scope) (x : Str) : Bool := match sc.names.lookup x with
  | some .local => true | some .cell => true | _ => false
def isGl (sc : Scope) (x : Str) : Bool := match sc.names.lookup x with
  | some .globalImplicit => true | _ => false
def nd (x : Str) : Bool := !(x == ("__debug__" : Str)) && !(x == ("__classdict__" : Str))
theorem isVis_ok {sc : Scope} {x : Str} (h : isVis sc x = true) : Vis sc x := by
  unfold isVis at h
  unfold Vis
  split at h <;> simp_all
theorem isLoc_ok {sc : Scope} {x : Str} (h : isLoc sc x = true) : L2.Loc sc x := by
  unfold isLoc at h
  unfold L2.Loc
  split at h <;> simp_all
theorem isGl_ok {sc : Scope} {x : Str} (h : isGl sc x = true) : sc.names.lookup x = some .globalImplicit := by
  unfold isGl at h
  split at h <;> simp_all
theorem nd_ok {x : Str} (h : nd x = true) : (x == ("__debug__" : Str)) = false ∧ (x == ("__classdict__" : Str)) = false := by
  unfold nd at h
  simpa using h
/-- what the text may name: functions, constants -/
structure MC where
  N : List Str
  fs : List String
  gs : List String
def cnOk : Cn → Const → Bool
  | .non, .none => true
  | .bl b, .bool b' => b == b'
  | .int i, .int j => i == j
  | .str s, .str x => decide (x = Str.ofString s)
  | _, _ => false
def bopOk : Bop → Operator → Bool
  | .add, .Add => true | .sub, .Sub => true | .mul, .Mult => true | .fdiv, .FloorDiv => true | .mod, .Mod => true | .pow, .Pow => true
  | _, _ => false
def copOk : Cop → CmpOp → Bool
  | .eq, .Eq => true | .ne, .NotEq => true | .lt, .Lt => true | .le, .LtE => true | .gt, .Gt => true | .ge, .GtE => true | .isin, .In => true | .notin, .NotIn => true
  | _, _ => false
def bltFns : List String := ["len", "abs", "max", "min", "all", "any", "repr", "sorted"]
def bltTys : List String := ["int", "list", "tuple"]
def mthFns : List String := ["append", "index"]
/-- built-ins that must not be hidden by the text -/
def bltAll : List String := bltFns ++ bltTys ++ ["range", "reversed", "isinstance"] ++ isiTys
def mName (N : List Str) (i : Nat) (x : Str) : Bool := decide (N[i]? = some x)
def mTgs (N : List Str) (sc : Scope) : List Nat → List Expr → Bool
  | [], [] => true
  | i :: is, .Name x _ :: es => mName N i x && isLoc sc x && mTgs N sc is es
  | _, _ => false
def mTg (N : List Str) (sc : Scope) : Tg → Expr → Bool
  | .v i, .Name x _ => mName N i x && isLoc sc x
  | .t is, .Tuple es _ _ => mTgs N sc is es && decide (0 < is.length)
  | _, _ => false
def simpleO : E → Bool
  | .var _ => true | .cn _ => true | _ => false
def isTrueE : E → Bool
  | .cn (.bl true) => true | _ => false
def lineOk (a c : Pos) : Bool := a.endLine == c.line
/-- a walked thing's arguments -/
def itX (sc : Scope) : IK → Expr → Option (List Expr)
  | .seq, e => some [e]
  | .rng, .Call (.Name x _) es [] _ => if decide (x = Str.ofString "range") && isGl sc x && (es.length == 1 || es.length == 2) then some es else none
  | .rev, .Call (.Name x _) [e] [] _ => if decide (x = Str.ofString "reversed") && isGl sc x then some [e] else none
  | _, _ => none
mutual
def mE (m : MC) : Scope → E → Expr → Bool
  | sc, .var i, .Name x _ => mName m.N i x && isVis sc x && nd x
  | _, .cn c, .Constant k _ _ => cnOk c k
  | sc, .glb g, .Name x _ => decide (x = Str.ofString g) && m.gs.contains g && isGl sc x && nd x
  | sc, .bin op a b, .BinOp a' o b' _ => bopOk op o && mE m sc a a' && mE m sc b b'
  | sc, .neg a, .UnaryOp .USub a' _ => mE m sc a a'
  | sc, .cmp op a b, .Compare a' [o] [b'] _ => copOk op o && mE m sc a a' && mE m sc b b' && !behindInMarks o b'
  | sc, .isN a, .Compare a' [.Is] [.Constant .none _ _] _ => mE m sc a a'
  | sc, .notN a, .Compare a' [.IsNot] [.Constant .none _ _] _ => mE m sc a a'
  | sc, .isB a b, .Compare a' [.Is] [.Constant (.bool b') _ _] _ => mE m sc a a' && (b == b')
  | sc, .isi a T, .Call (.Name x _) [a', .Name y _] [] _ => decide (x = Str.ofString "isinstance") && decide (y = Str.ofString T) && isiTys.contains T && isGl sc x && isGl sc y && nd y && mE m sc a a'
  | sc, .nt a, .UnaryOp .Not a' _ => mE m sc a a'
  | sc, .and a b, .BoolOp .And vs pos => match vs with
    | [a', b'] => mE m sc a a' && mE m sc b b'
    | a' :: b' :: c' :: r => mE m sc a a' && mE m sc b (.BoolOp .And (b' :: c' :: r) pos)
    | _ => false
  | sc, .or a b, .BoolOp .Or vs pos => match vs with
    | [a', b'] => mE m sc a a' && mE m sc b b'
    | a' :: b' :: c' :: r => mE m sc a a' && mE m sc b (.BoolOp .Or (b' :: c' :: r) pos)
    | _ => false
  | sc, .ife t a b, .IfExp t' a' b' _ => mE m sc t t' && mE m sc a a' && mE m sc b b'
  | sc, .tup es, .Tuple es' _ _ => mEs m sc es es' && decide (es.length ≤ 1000)
  | sc, .lst es, .List es' _ => mEs m sc es es' && decide (es.length ≤ 1000)
  | sc, .idx a i, .Subscript a' i' _ => mE m sc a a' && mE m sc i i'
  | sc, .slc a lo hi, .Subscript a' (.Slice lo' hi' none _) _ => mE m sc a a' &&
      (match lo' with | none => isNonE lo | some l => mE m sc lo l && !isNonE lo) && (match hi' with | none => isNonE hi | some h => mE m sc hi h && !isNonE hi)
  | sc, .call f es, .Call (.Name x _) es' [] _ => decide (x = Str.ofString f) && m.fs.contains f && isGl sc x && nd x && mEs m sc es es' && decide (0 < es.length)
  | sc, .blt f es, .Call (.Name x _) es' [] _ => decide (x = Str.ofString f) && (bltFns.contains f || bltTys.contains f) && isGl sc x && nd x && mEs m sc es es' && decide (0 < es.length)
  | sc, .mth f o es, .Call (.Attribute o' x ap) es' [] cp => decide (x = Str.ofString f) && mthFns.contains f && mE m sc o o' && simpleO o && mEs m sc es es' && decide (0 < es.length) && decide (es.length < 29) && lineOk ap cp
  | sc, .lc t k es c e, .ListComp e' [⟨tg, it, ifs, as⟩] scope _ => mTg m.N scope t tg && (match itX sc k it with | some es' => mEs m sc es es' | none => false) && (match ifs with | [] => isTrueE c | [i] => mE m (relS scope sc) c i | _ => false) &&
      mE m (relS scope sc) e e' && (as == 0) && blkC m.N sc scope (t.slots.map fun i => (m.N.getD i default, i))
  | sc, .lc2 t k es c t1 k1 es1 c1 e, .ListComp e' [⟨tg, it, ifs, as⟩, ⟨tg1, it1, ifs1, as1⟩] scope _ => mTg m.N scope t tg && mTg m.N scope t1 tg1 && (match itX sc k it with | some es' => mEs m sc es es' | none => false) &&
      (match itX (relS scope sc) k1 it1 with | some es' => mEs m (relS scope sc) es1 es' | none => false) && (match ifs with | [] => isTrueE c | [i] => mE m (relS scope sc) c i | _ => false) && (match ifs1 with | [] => isTrueE c1 | [i] => mE m (relS scope sc) c1 i | _ => false) &&
      mE m (relS scope sc) e e' && (as == 0) && (as1 == 0) && blkC m.N sc scope ((t.slots ++ t1.slots).map fun i => (m.N.getD i default, i))
  | sc, .tr e, e' => mE m sc e e'
  | _, _, _ => false
termination_by structural _ e _ => e
def mEs (m : MC) : Scope → List E → List Expr → Bool
  | _, [], [] => true
  | sc, e :: es, e' :: es' => mE m sc e e' && mEs m sc es es'
  | _, _, _ => false
termination_by structural _ es _ => es
end
end Cs

set_option Elab.async false
set_option linter.all false
set_option maxRecDepth 100000
namespace Cs
open PySem PySem.Spec PyProof.Rows L2

/-! ### defs called where no repr runs around -/
/-- what a def promises to callers around whom nothing is being shown -/
structure FnG (P : Program) (w : World) (K : PySem.W.Frag) (mg : Str → Option Value) (base : Heap) (k : Nat) (f : Addr) (fd : FuncData) (ps : List Str) (sp : List V → Hp → VK → Prop) : Prop where
  cnt : ∀ vs H Q, sp vs H Q → vs.length = ps.length
  go : ∀ (A : Around) (outer : List Env) (s : Shared) (H : Hp) (args : Args) (us : List Value) (vs : List V) (Q : VK), A.guards = some [] → Room k A → Env0 P w K mg base A outer s H → BindsTo s fd args (ps.zip us) → Vals vs us → sp vs H Q →
    codeAny (model P w) A (.call (.ref f) args) (fun r s' => ∃ u, r = .ok (.ret u) ∧ CE outer P w H s Q u s') s

section
variable {X : Cx} {k : Nat} {f : Addr} {fd : FuncData} {ps : List Str} {sp : List V → Hp → VK → Prop} {x : Str} {p pos : Pos} {e : Expr} {es : List Expr} {t : TA}
/-- f(..) by such a promise -/
theorem pe_callG (F : FnG X.prog X.w X.K X.mg X.base k f fd ps sp) (hgd : X.A.guards = some []) (room : Room k X.A) (glo : Gl X x) (at_ : X.mg x = some (.ref f)) (kept : PySem.W.keepIn X.K (.ref f) = true) (bind : Binds X.K fd ps [])
    (args : PA X (e :: es) t) (ndb : (x == ("__debug__" : Str)) = false) (st : starEach (e :: es) X.env = (false, eval e X.env) :: starEach es X.env) (npl : (backTo pos (starEach es X.env)).any (·.1) = false) :
    PE X (.Call (.Name x p) (e :: es) [] pos) (fun σ H Q => t σ H fun vs H1 => sp vs H1 Q) where
  run pins s σ H Q I h := by
    apply wpAny_Call_Name_kw
    apply ld_glob I glo at_ (hd := ndb)
    refine PySem.W.callWith_K (h₀ := X.base) I.ok.mod.kin kept (thn (args.run pos pins s σ H _ I h) ?_) st npl
    rintro us s1 ⟨vs, H1, I1, rv, q⟩
    refine ⟨I1.kIn, wpAny_call ?_⟩
    have hn : (us ++ ([] : List Value)).length = ps.length := by rw [List.append_nil, ← rv.length]; exact F.cnt _ _ _ q
    have hb := bind s1 us I1.kIn hn
    rw [List.append_nil] at hb
    refine codeAny_mono (F.go X.A X.stack s1 H1 ⟨us, []⟩ us vs Q hgd room I1.env0 hb rv q) ?_
    rintro r s2 ⟨u, rfl, ce⟩
    exact I1.after ce
end
/-- a def of the text keeps its promise: by its body's reading -/
theorem fnG_of {P : Program} {w : World} {K : PySem.W.Frag} {mg : Str → Option Value} {base : Heap} {k : Nat} {x qual : Str} {st : Stmt} {f : Addr} {fd : FuncData} {N ps : List Str} {sp : List V → Hp → VK → Prop} (F : Fun K x qual st f fd) (sc : FnScope N ps (defScope st))
    (cnt : ∀ vs H Q, sp vs H Q → vs.length = ps.length)
    (body : ∀ (cdv : Value) (A : Around) (outer : List Env) (s : Shared) (H : Hp) (vs : List V) (Q : VK), A.guards = some [] → Room k (A.deeper (envOfC qual (defScope st) s.heap.objs.size f cdv)) → sp vs H Q →
      ∃ t, PSs (cxOf CX0 P w K mg base N qual (defScope st) f cdv A outer s H E0).nox (defBody st) t ∧ t { nx := fun _ H' => Q .non H', rt := Q } (L2.start N vs) H) : FnG P w K mg base (k + 1) f fd ps sp where
  cnt := cnt
  go A outer s H args us vs Q hgd room e0 hb rv q := by
    obtain ⟨oc, od, kV, doc, pm, an, cdv, ct, osl, rfl, lk, code⟩ := F.ex
    have kin : K.In s.heap := e0.mod.kin.keeps fun b o z => (e0.bs b o z).1
    have nl : s.heap.NoLimit := e0.mod.nolimit.keeps fun b o z => (e0.bs b o z).1
    have kinds : ∀ y ∈ ps.zip us, (defScope st).names.lookup y.1 = some .local ∨ ((defScope st).names.lookup y.1 = some .cell ∧ ((cellsFrom (s.heap.objs.size + 1) (defScope st).names []).lookup y.1).isSome = true) := by
      rintro ⟨n, v⟩ hy
      rcases sc.par n (List.of_mem_zip hy).1 with z | z
      · exact .inl z
      · exact .inr ⟨z, PySem.W.cellsFrom_some _ _ _ (.inl z)⟩
    apply codeAny_call_function room.depth (kin _ _ lk) rfl sc.co sc.gen rfl (PySem.W.codeRec_of kin code)
    apply hb
    apply wpAny_newFunctionEnv_cells sc.kind kinds
    rintro env he s1 y
    subst he
    refine ⟨nl.keeps y.toInCall.keep, codeAny_func ?_⟩
    obtain ⟨t, ht, hq⟩ := body cdv A outer s H vs Q hgd (room.deeper _) q
    have I := inv_start (CX := CX0) (E := E0) sc room.hd e0 (cnt _ _ _ q) rv y
    refine wpAny_mono (ht.nox.run [] s1 (L2.start N vs) H _ I hq) (fun fl s' hs => ?_) fun e s' hs => ?_
    · cases fl with
      | ret u =>
        obtain ⟨v, σ', H', J, r, z⟩ := hs
        exact ⟨u, rfl, v, H', J.os, J.bare, J.base, J.hok, r, z⟩
      | next =>
        obtain ⟨σ', H', J, z⟩ := hs
        exact ⟨.none, rfl, .non, H', J.os, J.bare, J.base, J.hok, rfl, z⟩
      | brk => exact hs.elim fun _ z => z.elim fun _ z => z.2.elim
      | cont => exact hs.elim fun _ z => z.elim fun _ z => z.2.elim
    · exact wpAny_mono hs (fun _ _ z => z.elim) fun _ _ z => z.elim
end Cs

set_option Elab.async false
set_option linter.all false
set_option maxRecDepth 100000
namespace Cs
open PySem PySem.Spec PyProof.Rows L2

/-! ### readings of expressions -/
def LE (K : PySem.W.Frag) (f : Ev → Sto → Option (D × Sto)) : TE := fun σ H Q => ∃ ρ env S d S', Sr K H ρ S ∧ EnvR K H ρ env σ ∧ f env S = some (d, S') ∧ Pst K H ρ d S' Q
def LT (K : PySem.W.Frag) (f : Ev → Sto → Option (Bool × Sto)) : TT := fun σ H Q => ∃ ρ env S k S', Sr K H ρ S ∧ EnvR K H ρ env σ ∧ f env S = some (k, S') ∧ ∀ H' ρ', Mono H H' → ρ <+: ρ' → Sr K H' ρ' S' → Q k H'
def LA (K : PySem.W.Frag) (f : Ev → Sto → Option (List D × Sto)) : TA := fun σ H Q => ∃ ρ env S ds S', Sr K H ρ S ∧ EnvR K H ρ env σ ∧ f env S = some (ds, S') ∧ ∀ H' ρ' vs, Mono H H' → ρ <+: ρ' → Sr K H' ρ' S' → RpL K H' ρ' ds vs → Q vs H'
section
variable {K : PySem.W.Frag} {H H1 : Hp} {ρ ρ1 : List Addr} {S S1 : Sto} {env : Ev} {σ : L2.St}
theorem LE.mk {f : Ev → Sto → Option (D × Sto)} {R : VK} {x : D} (hs : Sr K H ρ S) (he : EnvR K H ρ env σ) (hf : f env S = some (x, S1))
    (k : ∀ H1 ρ1 v, Mono H H1 → ρ <+: ρ1 → Sr K H1 ρ1 S1 → EnvR K H1 ρ1 env σ → Rp K H1 ρ1 x v → R v H1) : LE K f σ H R :=
  ⟨ρ, env, S, x, S1, hs, he, hf, fun H' ρ' v m p s r => k H' ρ' v m p s (he.mono m p) r⟩
theorem LT.mk {f : Ev → Sto → Option (Bool × Sto)} {R : Bool → Hp → Prop} {x : Bool} (hs : Sr K H ρ S) (he : EnvR K H ρ env σ) (hf : f env S = some (x, S1))
    (k : ∀ H1 ρ1, Mono H H1 → ρ <+: ρ1 → Sr K H1 ρ1 S1 → EnvR K H1 ρ1 env σ → R x H1) : LT K f σ H R :=
  ⟨ρ, env, S, x, S1, hs, he, hf, fun H' ρ' m p s => k H' ρ' m p s (he.mono m p)⟩
theorem LA.mk {f : Ev → Sto → Option (List D × Sto)} {R : List V → Hp → Prop} {x : List D} (hs : Sr K H ρ S) (he : EnvR K H ρ env σ) (hf : f env S = some (x, S1))
    (k : ∀ H1 ρ1 vs, Mono H H1 → ρ <+: ρ1 → Sr K H1 ρ1 S1 → EnvR K H1 ρ1 env σ → RpL K H1 ρ1 x vs → R vs H1) : LA K f σ H R :=
  ⟨ρ, env, S, x, S1, hs, he, hf, fun H' ρ' v m p s r => k H' ρ' v m p s (he.mono m p) r⟩
theorem Pst.mono {d : D} {Q : VK} (p : Pst K H ρ d S Q) (m : Mono H H1) (q : ρ <+: ρ1) : Pst K H1 ρ1 d S Q := fun H' ρ' v m' q' s r => p H' ρ' v (m.trans m') (q.trans q') s r
end
section
variable {X : Cx} {e : Expr}
theorem _root_.L2.PE.weakC {t t' : TE} (h : PE X e t) (w : ∀ σ H Q, t' σ H Q → t σ H Q) : PE X e t' := ⟨fun pins s σ H Q I q => h.run pins s σ H Q I (w _ _ _ q)⟩
theorem _root_.L2.PT.weakC {t t' : TT} (h : PT X e t) (w : ∀ σ H Q, t' σ H Q → t σ H Q) : PT X e t' := ⟨fun pins s σ H Q I q => h.run pins s σ H Q I (w _ _ _ q)⟩
theorem _root_.L2.PA.weakC {es : List Expr} {t t' : TA} (h : PA X es t) (w : ∀ σ H Q, t' σ H Q → t σ H Q) : PA X es t' := ⟨fun pos pins s σ H Q I q => h.run pos pins s σ H Q I (w _ _ _ q)⟩
theorem _root_.L2.PW.weakC {t t' : TT} (h : PW X e t) (w : ∀ σ H Q, t' σ H Q → t σ H Q) : PW X e t' := ⟨fun wh pins s σ H Q I q => h.run wh pins s σ H Q I (w _ _ _ q)⟩
theorem pw_of_pt {op : BoolOp} {vs : List Expr} {pos : Pos} {t : TT} (h : PT X (.BoolOp op vs pos) t) : PW X (.BoolOp op vs pos) t := ⟨fun wh pins s σ H Q I q => h.run pins s σ H Q I q⟩
abbrev LTe (K : PySem.W.Frag) (f : Ev → Sto → Option (D × Sto)) : TT := LT K fun env S => tst (f env S)
theorem tst_inv {m : Option (D × Sto)} {k : Bool} {S : Sto} (h : tst m = some (k, S)) : ∃ d, m = some (d, S) ∧ truth S d = some k := by
  obtain ⟨d, S1, e, h⟩ := bnd_inv h
  cases q : truth S1 d with
  | none => rw [q] at h; cases h
  | some k' => rw [q] at h; cases h; exact ⟨d, e, q⟩
theorem LTe.tru {K : PySem.W.Frag} {f : Ev → Sto → Option (D × Sto)} {σ H Q} (h : LTe K f σ H Q) : LE K f σ H fun x H' => ∃ k, TruV K x H' k ∧ Q k H' := by
  obtain ⟨ρ, env, S, k, S', hs, he, hf, hq⟩ := h
  obtain ⟨d, e, q⟩ := tst_inv hf
  exact LE.mk hs he e fun H1 ρ1 v m p s1 _ r => ⟨k, tru_of s1 r q, hq H1 ρ1 m p s1⟩
theorem LTe.bl {K : PySem.W.Frag} {f : Ev → Sto → Option (D × Sto)} {σ H Q} (hb : ∀ env S d S', f env S = some (d, S') → ∃ k, d = .bl k) (h : LTe K f σ H Q) : LE K f σ H fun x H' => ∃ k, x = .bl k ∧ Q k H' := by
  obtain ⟨ρ, env, S, k, S', hs, he, hf, hq⟩ := h
  obtain ⟨d, e, q⟩ := tst_inv hf
  obtain ⟨k', rfl⟩ := hb _ _ _ _ e
  cases q
  exact LE.mk hs he e fun H1 ρ1 v m p s1 _ r => ⟨k, r, hq H1 ρ1 m p s1⟩
theorem pt_of {f : Ev → Sto → Option (D × Sto)} (h : PE X e (LE X.K f)) (he : ∀ whole, isTrue e X.env whole = (do let v ← whole; standAt e.pos; holding [v] (truthy v))) : PT X e (LTe X.K f) :=
  (pt_truth h he).weakC fun _ _ _ q => q.tru

/-- what the text's names stand for -/
structure Mo (P : Program) (w : World) (K : PySem.W.Frag) (mg : Str → Option Value) (base : Heap) (c : Cfg) (k : Nat) (m : MC) : Prop where
  fn : ∀ f ∈ m.fs, (∃ (a : Addr) (fd : FuncData) (ps : List Str) (sp : List V → Hp → VK → Prop), mg (Str.ofString f) = some (.ref a) ∧ PySem.W.keepIn K (.ref a) = true ∧ Binds K fd ps [] ∧ FnG P w K mg base k a fd ps sp ∧
      ∀ vs H Q, LC K (c.C f) vs H Q → sp vs H Q) ∨ (f = "gcd" ∧ mg (Str.ofString f) = some (.builtin "math.gcd") ∧ c.C f = bGcd)
  gl : ∀ g ∈ m.gs, ∃ u v d, mg (Str.ofString g) = some u ∧ RelV v u ∧ c.G g = some d ∧ ∀ H ρ, Rp K H ρ d v
  bt : ∀ f ∈ bltAll, mg (Str.ofString f) = none
structure Good (m : MC) (c : Cfg) (k : Nat) (X : Cx) : Prop where
  N : X.N = m.N
  nd : m.N.Nodup
  calm : X.calm = true
  room : Room k X.A
  gd : X.A.guards = some []
  mo : Mo X.prog X.w X.K X.mg X.base c k m
theorem gl_of {x : Str} (h : isGl X.env.scope x = true) : Gl X x := isGl_ok h

theorem mE_star {m : MC} {sc : Scope} {x : Expr} {p : Pos} : ∀ e : E, mE m sc e (.Starred x p) = false
  | .tr e => by rw [mE]; exact mE_star e
  | .var _ | .cn _ | .glb _ | .bin .. | .neg _ | .cmp .. | .isN _ | .notN _ | .isB .. | .isi .. | .nt _ | .and .. | .or .. | .ife .. | .tup _ | .lst _ | .idx .. | .slc .. | .call .. | .blt .. | .mth .. | .lc .. | .lc2 .. => by simp [mE]
theorem mE_slice {m : MC} {sc : Scope} {a b c : Option Expr} {p : Pos} : ∀ e : E, mE m sc e (.Slice a b c p) = false
  | .tr e => by rw [mE]; exact mE_slice e
  | .var _ | .cn _ | .glb _ | .bin .. | .neg _ | .cmp .. | .isN _ | .notN _ | .isB .. | .isi .. | .nt _ | .and .. | .or .. | .ife .. | .tup _ | .lst _ | .idx .. | .slc .. | .call .. | .blt .. | .mth .. | .lc .. | .lc2 .. => by simp [mE]
theorem plainIx_of {m : MC} {sc : Scope} {e : E} {e' : Expr} (h : mE m sc e e' = true) : PlainIx e' := by
  intro o i
  cases e' with
  | Slice a b c p => rw [mE_slice] at h; cases h
  | _ => rfl
theorem star_of {m : MC} {sc : Scope} {e : E} {e' : Expr} {es : List Expr} {env : Env} (h : mE m sc e e' = true) : starEach (e' :: es) env = (false, eval e' env) :: starEach es env := by
  cases e' with
  | Starred x p => rw [mE_star] at h; cases h
  | _ => rfl
theorem stars_of {m : MC} {sc : Scope} {env : Env} : ∀ {es : List E} {es' : List Expr}, mEs m sc es es' = true → starEach es' env = es'.map (fun e => (false, eval e env))
  | [], [], _ => rfl
  | [], _ :: _, h => by simp [mEs] at h
  | _ :: _, [], h => by simp [mEs] at h
  | e :: es, e' :: es', h => by
    rw [mEs, Bool.and_eq_true] at h
    rw [star_of h.1, stars_of h.2]; rfl
theorem plain_of {es : List Expr} {env : Env} {pos : Pos} (h : starEach es env = es.map (fun e => (false, eval e env))) : (backTo pos (starEach es env)).any (·.1) = false := by
  rw [h]
  unfold backTo
  simp
end
end Cs

set_option Elab.async false
set_option linter.all false
set_option maxRecDepth 100000
namespace Cs
open PySem PySem.Spec PyProof.Rows L2

/-! ### targets -/
def LG (K : PySem.W.Frag) (t : Tg) : TG := fun v σ H Q => ∃ ρ env d env', EnvR K H ρ env σ ∧ Rp K H ρ d v ∧ asg t d env = some env' ∧
  ∀ σ', σ'.length = σ.length → EnvR K H ρ env' σ' → (∀ vs, (∀ i ∈ t.slots, i ∈ vs) → wipe σ' vs = wipe σ vs) → Q σ' H
theorem wipe_set {i : Nat} {x : Option V} : ∀ {vs : List Nat} {σ : L2.St}, i ∈ vs → wipe (σ.set i x) vs = wipe σ vs
  | [], _, h => by simp at h
  | v :: vs, σ, h => by
    unfold wipe
    by_cases z : i ∈ vs
    · rw [wipe_set z]
    · have e : i = v := by simpa [z] using h
      subst e
      have sw : ∀ {vs : List Nat} {σ : L2.St}, i ∉ vs → wipe (σ.set i x) vs = (wipe σ vs).set i x := by
        intro vs
        induction vs with
        | nil => intro σ _; rfl
        | cons u us ih =>
          intro σ hn
          simp only [List.mem_cons, not_or] at hn
          unfold wipe
          rw [ih hn.2, List.set_comm _ _ hn.1]
      rw [sw z, List.set_set]
theorem wipe_wipe {vs us : List Nat} {σ : L2.St} (h : ∀ i ∈ us, i ∈ vs) : wipe (wipe σ us) vs = wipe σ vs := by
  induction us with
  | nil => rfl
  | cons u us ih =>
    show wipe ((wipe σ us).set u none) vs = _
    rw [wipe_set (h u (by simp)), ih fun i hi => h i (by simp [hi])]
section
variable {X : Cx}
theorem _root_.L2.PG.weakC {e : Expr} {t t' : TG} (h : PG X e t) (w : ∀ v σ H Q, t' v σ H Q → t v σ H Q) : PG X e t' := ⟨fun pins s σ H v u Q I r q => h.run pins s σ H v u Q I r (w _ _ _ _ q)⟩
/-- which names may be stored here: those that the raw scope knows -/
def FnC (X : Cx) (sc : Scope) : Prop := ∀ x, isLoc sc x = true → L2.Loc X.env.scope x ∧ (X.fn x = true ∨ X.env.scope.names.lookup x = some .local)
theorem mName_ok {N : List Str} {i : Nat} {x : Str} (h : mName N i x = true) : N[i]? = some x := of_decide_eq_true h
theorem pg_one {N : List Str} {sc : Scope} {i : Nat} {x : Str} {p : Pos} (hN : X.N = N) (nd : N.Nodup) (fc : FnC X sc) (h : (mName N i x && isLoc sc x) = true) : PG X (.Name x p) (gName i) := by
  rw [Bool.and_eq_true] at h
  obtain ⟨h1, h2⟩ := fc x h.2
  exact pg_name (by rw [hN]; exact nd) (by rw [hN]; exact mName_ok h.1) h1 h2
/-- stores one after another -/
def gEach : List Nat → TGs
  | [] => gNil
  | i :: is => gCons (gName i) (gEach is)
theorem pg_each {N : List Str} {sc : Scope} (hN : X.N = N) (nd : N.Nodup) (fc : FnC X sc) : ∀ {is : List Nat} {es : List Expr}, mTgs N sc is es = true → PGs X es (gEach is)
  | [], [], _ => pgs_nil
  | i :: is, .Name x p :: es, h => by
    rw [mTgs, Bool.and_eq_true] at h
    exact pgs_cons (pg_one hN nd fc h.1) (pg_each hN nd fc h.2)
theorem each_len {N : List Str} {sc : Scope} {env : Env} : ∀ {is : List Nat} {es : List Expr}, mTgs N sc is es = true → (assignEach es env).length = is.length ∧ (assignEach es env).findIdx? (·.1) = none
  | [], [], _ => ⟨rfl, rfl⟩
  | i :: is, .Name x p :: es, h => by
    rw [mTgs, Bool.and_eq_true] at h
    obtain ⟨h1, h2⟩ := each_len (env := env) h.2
    refine ⟨?_, ?_⟩
    · show (assignEach es env).length + 1 = is.length + 1
      rw [h1]
    · show List.findIdx? (·.1) ((false, assign (.Name x p) env) :: assignEach es env) = none
      rw [List.findIdx?_cons]
      simp [h2]
theorem gEach_ok {K : PySem.W.Frag} {H : Hp} {ρ : List Addr} {Q : L2.St → Hp → Prop} : ∀ {is : List Nat} {ds : List D} {vs : List V} {env : Ev} {σ : L2.St}, RpL K H ρ ds vs → is.length = ds.length → EnvR K H ρ env σ →
    (∀ σ', σ'.length = σ.length → EnvR K H ρ ((is.zip ds).foldl (fun e p => e.set p.1 (some p.2)) env) σ' → (∀ sl, (∀ i ∈ is, i ∈ sl) → wipe σ' sl = wipe σ sl) → Q σ' H) → gEach is vs σ H Q
  | [], [], vs, env, σ, r, _, he, h => by
    cases r
    exact ⟨rfl, h σ rfl he fun _ _ => rfl⟩
  | [], _ :: _, _, _, _, _, hl, _, _ => by simp at hl
  | _ :: _, [], _, _, _, _, hl, _, _ => by simp at hl
  | i :: is, d :: ds, vs, env, σ, r, hl, he, h => by
    obtain ⟨v, r', rfl, r1, r2⟩ := r
    refine ⟨v, r', rfl, ?_⟩
    refine gEach_ok (env := env.set i (some d)) r2 (by simpa using hl) (he.set r1) fun σ' l e' w => h σ' (by simpa using l) e' fun sl hs => ?_
    rw [w sl fun j hj => hs j (by simp [hj]), wipe_set (hs i (by simp))]
theorem pg_tg {N : List Str} {sc : Scope} {t : Tg} {e : Expr} (hN : X.N = N) (nd : N.Nodup) (hc : X.calm = true) (fc : FnC X sc) (h : mTg N sc t e = true) : PG X e (LG X.K t) := by
  cases t with
  | v i =>
    cases e with
    | Name x p =>
      refine (pg_one hN nd fc h).weakC fun v σ H Q q => ?_
      obtain ⟨ρ, env, d, env', he, r, ha, hq⟩ := q
      cases ha
      exact hq _ (by simp) (he.set r) fun vs h => wipe_set (h i (by simp [Tg.slots]))
    | _ => simp [mTg] at h
  | t is =>
    cases e with
    | Tuple es k p =>
      simp only [mTg, Bool.and_eq_true] at h
      obtain ⟨h1, h2⟩ := each_len (env := X.env) h.1
      refine (pg_tup hc (pg_each hN nd fc h.1) h1 h2).weakC fun v σ H Q q => ?_
      obtain ⟨ρ, env, d, env', he, r, ha, hq⟩ := q
      unfold asg at ha
      simp only at ha
      split at ha
      · rename_i ds
        obtain ⟨a, vs, rfl, sa, ra⟩ := r
        split at ha
        · rename_i hl
          cases ha
          exact ⟨a, vs, rfl, sa, by rw [← ra.length, hl], gEach_ok ra hl he hq⟩
        · cases ha
      · cases ha
    | _ => simp [mTg] at h
end

/-! ### what is walked -/
def JOk (K : PySem.W.Frag) (H' : Hp) (ρ' : List Addr) (iw : List D × Watch) (J : It) : Prop := ∀ i H2 ρ2 S2, Mono H' H2 → ρ' <+: ρ2 → Sr K H2 ρ2 S2 → still iw.2 S2 →
  (i = iw.1.length → J.stop i H2) ∧ (∀ d, iw.1[i]? = some d → J.go i H2 ∧ ∀ x H3, J.yld i H2 x H3 → Sr K H3 ρ2 S2 ∧ Mono H2 H3 ∧ Rp K H3 ρ2 d x)
def LI (K : PySem.W.Frag) (k : IK) (f : Ev → Sto → Option (List D × Sto)) : TI := fun σ H R => ∃ ρ env S xs S1 iw, Sr K H ρ S ∧ EnvR K H ρ env σ ∧ f env S = some (xs, S1) ∧ items k xs S1 = some iw ∧
  ∀ H' ρ' J, Mono H H' → ρ <+: ρ' → Sr K H' ρ' S1 → EnvR K H' ρ' env σ → JOk K H' ρ' iw J → R J H'
theorem rp_rng {K : PySem.W.Frag} {H : Hp} {ρ : List Addr} {lo : Int} {n i : Nat} {d : D} (h : (rngD lo n)[i]? = some d) : i < n ∧ d = .int (lo + (i : Nat)) := by
  unfold rngD at h
  rw [List.getElem?_map] at h
  cases e : (List.range n)[i]? with
  | none => rw [e] at h; cases h
  | some j =>
    rw [e] at h; cases h
    obtain ⟨hi, hj⟩ := List.getElem?_eq_some_iff.mp e
    simp at hi hj
    subst hj
    exact ⟨hi, rfl⟩
theorem rngD_len {lo : Int} {n : Nat} : (rngD lo n).length = n := by simp [rngD]
section
variable {X : Cx} {tg : Expr}
theorem _root_.L2.PI.weakC {e : Expr} {t t' : TI} (h : PI X tg e t) (w : ∀ σ H R, t' σ H R → t σ H R) : PI X tg e t' := ⟨fun pins s σ H R I q => h.run pins s σ H R I (w _ _ _ q)⟩
/-- a list or a tuple -/
def iAny (K : PySem.W.Frag) (tl : TE) : TI := fun σ H R => tl σ H fun x H1 => ∃ a, x = .ref a ∧ (((∃ xs, SqL K H1 a xs) ∧ R (Itl K a) H1) ∨ ((∃ xs, SqT K H1 a xs) ∧ R (Itt K a) H1))
theorem pi_any {l : Expr} {tl : TE} (hl : PE X l tl) : PI X tg l (iAny X.K tl) := by
  refine ⟨fun pins s σ H R I h => ?_⟩
  refine thn (hl.run pins s σ H _ I h) fun v s1 ⟨x, H1, I1, r1, q1⟩ => ?_
  obtain ⟨a, e, q1⟩ := q1
  subst e
  cases r1
  rcases q1 with ⟨⟨xs, hq⟩, q⟩ | ⟨⟨xs, hq⟩, q⟩
  · obtain ⟨its, rv, p, hz⟩ := I1.list hq
    refine wpAny_pyIter_list p.isList ?_
    refine ⟨s1.heap.objs.size, [s1.heap.objs.size], _, _, H1, rfl, I1.kept (t' := s1.toks) fun b o e => Heap.get?_push_of_some _ e, turn_list a _, ⟨_, Heap.get?_push_size _ rfl, rfl, rfl⟩, fun b hb => ?_, q⟩
    have e : b = s1.heap.objs.size := by simpa using hb
    subst e
    exact I1.fpOk (Nat.le_refl _) (I1.hok.fresh (Nat.le_refl _))
  · obtain ⟨its, rv, p, hz⟩ := I1.tuple hq
    refine wpAny_pyIter_tuple (show s1.heap.IsTuple a its.toArray from p) ?_
    refine ⟨s1.heap.objs.size, [s1.heap.objs.size], _, _, H1, rfl, I1.kept (t' := s1.toks) fun b o e => Heap.get?_push_of_some _ e, turn_tuple a _, ⟨_, Heap.get?_push_size _ rfl, rfl, rfl⟩, fun b hb => ?_, q⟩
    have e : b = s1.heap.objs.size := by simpa using hb
    subst e
    exact I1.fpOk (Nat.le_refl _) (I1.hok.fresh (Nat.le_refl _))
theorem jok_tup {K : PySem.W.Frag} {H' : Hp} {ρ' : List Addr} {a : Addr} {ds : List D} {vs : List V} (sa : SqT K H' a vs) (ra : RpL K H' ρ' ds vs) : JOk K H' ρ' (ds, []) (Itt K a) := by
  intro i H2 ρ2 S2 m p s _
  refine ⟨fun e => ⟨vs, m.sqT sa, ?_⟩, fun d hd => ?_⟩
  · show vs.length ≤ i
    rw [e, ← ra.length]; exact Nat.le_refl _
  · obtain ⟨v, ev, rv⟩ := ra.get hd
    refine ⟨⟨vs, v, m.sqT sa, ev⟩, fun x H3 y => ?_⟩
    obtain ⟨rfl, y⟩ := y
    have := y vs (m.sqT sa)
    rw [ev] at this; cases this
    exact ⟨s, Mono.refl, rv.mono m p _ _⟩
theorem jok_lst {K : PySem.W.Frag} {H' : Hp} {ρ' : List Addr} {n : Nat} {a : Addr} {ds : List D} (ea : ρ'[n]? = some a) : JOk K H' ρ' (ds, [(n, ds)]) (Itl K a) := by
  intro i H2 ρ2 S2 m p s st
  have g : getL S2 n = some ds := st (n, ds) (by simp)
  obtain ⟨b, vs, eb, eb2, sb, rb⟩ := s.list g ⟨a, rfl, pre_get p ea⟩
  cases eb
  refine ⟨fun e => ⟨vs, sb, ?_⟩, fun d hd => ?_⟩
  · show vs.length ≤ i
    rw [e, ← rb.length]; exact Nat.le_refl _
  · obtain ⟨v, ev, rv⟩ := rb.get hd
    refine ⟨⟨vs, v, sb, ev⟩, fun x H3 y => ?_⟩
    obtain ⟨rfl, y⟩ := y
    have := y vs sb
    rw [ev] at this; cases this
    exact ⟨s, Mono.refl, rv⟩
theorem jok_rng {K : PySem.W.Frag} {H' : Hp} {ρ' : List Addr} {lo : Int} {n : Nat} : JOk K H' ρ' (rngD lo n, []) (Itr lo n) := by
  intro i H2 ρ2 S2 m p s st
  refine ⟨fun e => ?_, fun d hd => ?_⟩
  · show n ≤ i
    rw [e, rngD_len]; exact Nat.le_refl _
  · obtain ⟨hi, rfl⟩ := rp_rng (K := K) (H := H2) (ρ := ρ2) hd
    refine ⟨hi, fun x H3 y => ?_⟩
    obtain ⟨rfl, rfl⟩ := y
    exact ⟨s, Mono.refl, rfl⟩
theorem jok_rev {K : PySem.W.Frag} {H' : Hp} {ρ' : List Addr} {n : Nat} {a : Addr} {ds : List D} (ea : ρ'[n]? = some a) : JOk K H' ρ' (ds.reverse, [(n, ds)]) (Itv K a ds.length) := by
  intro i H2 ρ2 S2 m p s st
  have g : getL S2 n = some ds := st (n, ds) (by simp)
  obtain ⟨b, vs, eb, eb2, sb, rb⟩ := s.list g ⟨a, rfl, pre_get p ea⟩
  cases eb
  refine ⟨fun e => ?_, fun d hd => ?_⟩
  · show ds.length ≤ i
    rw [e, List.length_reverse]; exact Nat.le_refl _
  · have hi : i < ds.length := by
      have := (List.getElem?_eq_some_iff.mp hd).1
      simpa using this
    have hd' : ds[ds.length - 1 - i]? = some d := by rw [← List.getElem?_reverse hi]; exact hd
    obtain ⟨v, ev, rv⟩ := rb.get hd'
    refine ⟨⟨hi, vs, v, sb, ev⟩, fun x H3 y => ?_⟩
    obtain ⟨rfl, y⟩ := y
    have := y vs sb
    rw [ev] at this; cases this
    exact ⟨s, Mono.refl, rv⟩

theorem pi_seq {it : Expr} {f : Ev → Sto → Option (List D × Sto)} {g : Ev → Sto → Option (D × Sto)} (hg : PE X it (LE X.K g)) (e : ∀ env S, f env S = bnd (g env S) fun x S1 => some ([x], S1)) : PI X tg it (LI X.K .seq f) := by
  refine (pi_any hg).weakC fun σ H R q => ?_
  obtain ⟨ρ, env, S, xs, S1, iw, hs, he, hf, hi, hq⟩ := q
  rw [e] at hf
  obtain ⟨x, S2, e, hf⟩ := bnd_inv hf
  cases hf
  refine LE.mk hs he e fun H1 ρ1 v mm p s1 he1 r => ?_
  cases x with
  | tup ds =>
    cases hi
    obtain ⟨a, vs, rfl, sa, ra⟩ := r
    exact ⟨a, rfl, .inr ⟨⟨vs, sa⟩, hq H1 ρ1 _ mm p s1 he1 (jok_tup sa ra)⟩⟩
  | loc n =>
    have hi : (getL S1 n).map (fun ds => ((ds, [(n, ds)]) : List D × Watch)) = some iw := hi
    cases eg : getL S1 n with
    | none => rw [eg] at hi; cases hi
    | some ds =>
      rw [eg] at hi; cases hi
      obtain ⟨a, vs, rfl, ea, sa, ra⟩ := s1.list eg r
      exact ⟨a, rfl, .inl ⟨⟨vs, sa⟩, hq H1 ρ1 _ mm p s1 he1 (jok_lst ea)⟩⟩
  | _ => cases hi
theorem pi_rng1 {a : Expr} {p pos : Pos} {f : Ev → Sto → Option (List D × Sto)} (hg : Gl X "range") (hm : X.mg "range" = none) (ha : PA X [a] (LA X.K f)) (hst : starEach [a] X.env = [(false, eval a X.env)]) (hlen : ∀ env S xs S', f env S = some (xs, S') → xs.length = 1) :
    PI X tg (.Call (.Name "range" p) [a] [] pos) (LI X.K .rng f) := by
  refine (pi_range1 hg hm ha hst).weakC fun σ H R q => ?_
  obtain ⟨ρ, env, S, xs, S1, iw, hs, he, hf, hi, hq⟩ := q
  have hl := hlen _ _ _ _ hf
  match xs, hl with
  | [x], _ =>
    refine LA.mk hs he hf fun H1 ρ1 vs mm p s1 he1 r => ?_
    obtain ⟨v, r2, rfl, r1, rfl⟩ := r
    cases x with
    | int j =>
      cases r1
      have hi : (if smallI j then some ((rngD 0 j.toNat, []) : List D × Watch) else none) = some iw := hi
      split at hi
      · rename_i sm; cases hi
        exact ⟨_, rfl, sm.1, sm.2, hq H1 ρ1 _ mm p s1 he1 jok_rng⟩
      · cases hi
    | _ => cases hi
theorem pi_rng2 {a b : Expr} {p pos : Pos} {f : Ev → Sto → Option (List D × Sto)} (hg : Gl X "range") (hm : X.mg "range" = none) (ha : PA X [a, b] (LA X.K f)) (hst : starEach [a, b] X.env = [(false, eval a X.env), (false, eval b X.env)])
    (hst2 : starEach [b] X.env = [(false, eval b X.env)]) (hlen : ∀ env S xs S', f env S = some (xs, S') → xs.length = 2) :
    PI X tg (.Call (.Name "range" p) [a, b] [] pos) (LI X.K .rng f) := by
  refine (pi_range2 hg hm ha hst hst2).weakC fun σ H R q => ?_
  obtain ⟨ρ, env, S, xs, S1, iw, hs, he, hf, hi, hq⟩ := q
  have hl := hlen _ _ _ _ hf
  match xs, hl with
  | [x, y], _ =>
    refine LA.mk hs he hf fun H1 ρ1 vs mm p s1 he1 r => ?_
    obtain ⟨v, r2, rfl, r1, w, r3, rfl, r4, rfl⟩ := r
    cases x with
    | int i =>
      cases y with
      | int j =>
        cases r1; cases r4
        have hi : (if smallI i ∧ smallI j then some ((rngD i (j - i).toNat, []) : List D × Watch) else none) = some iw := hi
        split at hi
        · rename_i sm; cases hi
          exact ⟨_, _, rfl, ⟨sm.1.1, sm.1.2, sm.2.1, sm.2.2⟩, hq H1 ρ1 _ mm p s1 he1 jok_rng⟩
        · cases hi
      | _ => cases hi
    | _ => cases hi
theorem pi_rev {a : Expr} {p pos : Pos} {f : Ev → Sto → Option (List D × Sto)} (hg : Gl X "reversed") (hm : X.mg "reversed" = none) (ha : PA X [a] (LA X.K f)) (hst : starEach [a] X.env = [(false, eval a X.env)]) (hlen : ∀ env S xs S', f env S = some (xs, S') → xs.length = 1) :
    PI X tg (.Call (.Name "reversed" p) [a] [] pos) (LI X.K .rev f) := by
  refine (pi_reversed hg hm ha hst).weakC fun σ H R q => ?_
  obtain ⟨ρ, env, S, xs, S1, iw, hs, he, hf, hi, hq⟩ := q
  have hl := hlen _ _ _ _ hf
  match xs, hl with
  | [x], _ =>
    refine LA.mk hs he hf fun H1 ρ1 vs mm p s1 he1 r => ?_
    obtain ⟨v, r2, rfl, r1, rfl⟩ := r
    cases x with
    | loc n =>
      have hi : (getL S1 n).map (fun ds => ((ds.reverse, [(n, ds)]) : List D × Watch)) = some iw := hi
      cases eg : getL S1 n with
      | none => rw [eg] at hi; cases hi
      | some ds =>
        rw [eg] at hi; cases hi
        obtain ⟨a, vs, rfl, ea, sa, ra⟩ := s1.list eg r1
        exact ⟨a, vs, rfl, sa, by rw [← ra.length]; exact hq H1 ρ1 _ mm p s1 he1 (jok_rev ea)⟩
    | _ => cases hi
theorem stars1 {a : Expr} {env : Env} (h : starEach [a] env = [a].map fun e => (false, eval e env)) : starEach [a] env = [(false, eval a env)] := h
/-- by the arguments' readings -/
theorem pi_of {m : MC} {c : Cfg} {kk : Nat} {k : IK} {it : Expr} {es' : List Expr} {f : Ev → Sto → Option (List D × Sto)} (G : Good m c kk X) (hx : itX X.env.scope k it = some es') (ha : PA X es' (LA X.K f)) (h1 : ∀ e', es' = [e'] → ∃ g, PE X e' (LE X.K g) ∧ ∀ env S, f env S = bnd (g env S) fun x S1 => some ([x], S1))
    (hst : starEach es' X.env = es'.map (fun e => (false, eval e X.env))) (hst2 : ∀ a b, es' = [a, b] → starEach [b] X.env = [(false, eval b X.env)]) (hlen : ∀ env S xs S', f env S = some (xs, S') → xs.length = es'.length) : PI X tg it (LI X.K k f) := by
  cases k with
  | seq =>
    obtain rfl := (Option.some.inj hx)
    obtain ⟨g, hg, e⟩ := h1 it rfl
    exact pi_seq hg e
  | rng =>
    unfold itX at hx
    split at hx
    · rename_i h; cases h
    · rename_i x p es pos _
      split at hx
      · rename_i hc
        obtain rfl := (Option.some.inj hx)
        simp only [Bool.and_eq_true, decide_eq_true_eq, Bool.or_eq_true, beq_iff_eq] at hc
        obtain ⟨⟨rfl, hg⟩, hl⟩ := hc
        have hgl : Gl X (Str.ofString "range") := gl_of hg
        have hm : X.mg (Str.ofString "range") = none := G.mo.bt "range" (by decide)
        rcases hl with hl | hl
        · match es, hl with
          | [a], _ => exact pi_rng1 hgl hm ha hst hlen
        · match es, hl with
          | [a, b], _ => exact pi_rng2 hgl hm ha hst (hst2 a b rfl) hlen
      · cases hx
    · rename_i h; cases h
    · cases hx
  | rev =>
    unfold itX at hx
    split at hx
    · rename_i h; cases h
    · rename_i h; cases h
    · rename_i x p e pos _
      split at hx
      · rename_i hc
        obtain rfl := (Option.some.inj hx)
        simp only [Bool.and_eq_true, decide_eq_true_eq] at hc
        obtain ⟨rfl, hg⟩ := hc
        have hgl : Gl X (Str.ofString "reversed") := gl_of hg
        have hm : X.mg (Str.ofString "reversed") = none := G.mo.bt "reversed" (by decide)
        exact pi_rev hgl hm ha hst hlen
      · cases hx
    · cases hx
  | enum => cases hx
  | zip => cases hx
end
end Cs

set_option Elab.async false
set_option linter.all false
set_option maxRecDepth 100000
namespace Cs
open PySem PySem.Spec PyProof.Rows L2

section
variable {X : Cx} {m : MC} {c : Cfg} {kk : Nat}
/-- both readings -/
def Both (X : Cx) (e' : Expr) (f : Ev → Sto → Option (D × Sto)) : Prop := PE X e' (LE X.K f) ∧ PT X e' (LTe X.K f)

theorem b_var {i : Nat} {x : Str} {p : Pos} (G : Good m c kk X) (h : mE m X.env.scope (.var i) (.Name x p) = true) : Both X (.Name x p) (evE c (.var i)) := by
  rw [mE, Bool.and_eq_true, Bool.and_eq_true] at h
  obtain ⟨⟨h1, h2⟩, h3⟩ := h
  have pe : PE X (.Name x p) (LE X.K (evE c (.var i))) := by
    refine (pe_var (i := i) (by rw [G.N]; exact mName_ok h1) (isVis_ok h2) (nd_ok h3).1 (nd_ok h3).2).weakC fun σ H Q q => ?_
    obtain ⟨ρ, env, S, d, S', hs, he, hf, hq⟩ := q
    simp only [evE, evVar] at hf
    split at hf
    · rename_i d' e
      cases hf
      obtain ⟨v, ev, r⟩ := he.at_ i d e
      exact ⟨v, ev, hq.same hs r⟩
    · cases hf
  exact ⟨pe, pt_of pe fun _ => rfl⟩
theorem b_cn {k : Cn} {x : Const} {n : Nat} {p : Pos} (h : cnOk k x = true) : Both X (.Constant x n p) (evE c (.cn k)) := by
  have fin : ∀ {v : V}, (∀ (K : PySem.W.Frag) (H : Hp) (ρ : List Addr), Rp K H ρ k.d v) → PE X (.Constant x n p) (tC v) → Both X (.Constant x n p) (evE c (.cn k)) := by
    intro v r h
    have pe : PE X (.Constant x n p) (LE X.K (evE c (.cn k))) := h.weakC fun σ H Q q => by
      obtain ⟨ρ, env, S, d, S', hs, he, hf, hq⟩ := q
      rw [evE] at hf
      cases hf
      exact hq.same hs (r _ _ _)
    exact ⟨pe, pt_of pe fun _ => rfl⟩
  unfold cnOk at h
  split at h
  · exact fin (fun _ _ _ => rfl) pe_non
  · have e := of_decide_eq_true (by simpa using h : decide _ = true)
    subst e
    exact fin (fun _ _ _ => rfl) pe_bl
  · have e := eq_of_beq h
    subst e
    exact fin (fun _ _ _ => rfl) pe_int
  · have e := of_decide_eq_true h
    subst e
    exact fin (fun _ _ _ => rfl) pe_str
  · cases h
theorem b_glb {g : String} {x : Str} {p : Pos} (G : Good m c kk X) (h : mE m X.env.scope (.glb g) (.Name x p) = true) : Both X (.Name x p) (evE c (.glb g)) := by
  simp only [mE, Bool.and_eq_true, decide_eq_true_eq] at h
  obtain ⟨⟨⟨rfl, h2⟩, h3⟩, h4⟩ := h
  obtain ⟨u, v, d, e1, r1, e2, r2⟩ := G.mo.gl g (by simpa using h2)
  have pe : PE X (.Name (Str.ofString g) p) (LE X.K (evE c (.glb g))) := (pe_glob (gl_of h3) e1 r1 (nd_ok h4).1).weakC fun σ H Q q => by
    obtain ⟨ρ, env, S, d', S', hs, he, hf, hq⟩ := q
    rw [evE, e2] at hf
    cases hf
    exact hq.same hs (r2 _ _)
  exact ⟨pe, pt_of pe fun _ => rfl⟩
theorem b_bin {op : Bop} {o : Operator} {a b : E} {a' b' : Expr} {p : Pos} (ho : bopOk op o = true) (ha : PE X a' (LE X.K (evE c a))) (hb : PE X b' (LE X.K (evE c b))) : Both X (.BinOp a' o b' p) (evE c (.bin op a b)) := by
  have ho' : o = bop_of op := by
    cases op <;> cases o <;> first | rfl | cases ho
  subst ho'
  have pe : PE X (.BinOp a' (bop_of op) b' p) (LE X.K (evE c (.bin op a b))) := (pe_op (op_bop op) ha hb).weakC fun σ H Q q => by
    obtain ⟨ρ, env, S, d, S', hs, he, hf, hq⟩ := q
    rw [evE] at hf
    obtain ⟨x, S1, e1, hf⟩ := bnd_inv hf
    obtain ⟨y, S2, e2, hf⟩ := bnd_inv hf
    exact LE.mk hs he e1 fun H1 ρ1 v mm p s1 he1 r1 => LE.mk s1 he1 e2 fun H2 ρ2 w m2 p2 s2 he2 r2 => ⟨ρ2, S2, x, y, d, S', s2, r1.mono m2 p2 _ _, r2, hf, (hq.mono mm p).mono m2 p2⟩
  exact ⟨pe, pt_of pe fun _ => rfl⟩
theorem b_neg {a : E} {a' : Expr} {p : Pos} (ha : PE X a' (LE X.K (evE c a))) : Both X (.UnaryOp .USub a' p) (evE c (.neg a)) := by
  have pe : PE X (.UnaryOp .USub a' p) (LE X.K (evE c (.neg a))) := (pe_un un_neg ha).weakC fun σ H Q q => by
    obtain ⟨ρ, env, S, d, S', hs, he, hf, hq⟩ := q
    rw [evE] at hf
    obtain ⟨x, S1, e1, hf⟩ := bnd_inv hf
    refine LE.mk hs he e1 fun H1 ρ1 v mm p s1 he1 r1 => ?_
    cases x with
    | int i =>
      cases hf
      cases r1
      exact ⟨i, rfl, (hq.mono mm p).same s1 rfl⟩
    | _ => cases hf
  exact ⟨pe, pt_of pe fun _ => rfl⟩
theorem cop_bl {op : Cop} {x y d : D} {S S' : Sto} (h : cop op x y S = some (d, S')) : ∃ k, d = .bl k := by
  cases op with
  | eq => simp only [cop] at h; cases e : copEq x y S <;> rw [e] at h <;> cases h; exact ⟨_, rfl⟩
  | ne => simp only [cop] at h; cases e : copEq x y S <;> rw [e] at h <;> cases h; exact ⟨_, rfl⟩
  | _ => simp only [cop] at h; (repeat' split at h) <;> first | cases h; exact ⟨_, rfl⟩ | cases h
theorem b_cmp {op : Cop} {o : CmpOp} {a b : E} {a' b' : Expr} {p : Pos} (G : Good m c kk X) (ho : copOk op o = true) (hm : behindInMarks o b' = false) (ha : PE X a' (LE X.K (evE c a))) (hb : PE X b' (LE X.K (evE c b))) : Both X (.Compare a' [o] [b'] p) (evE c (.cmp op a b)) := by
  have ho' : o = cop_of op := by cases op <;> cases o <;> first | rfl | cases ho
  subst ho'
  have hu : X.A.units + 65 < cLine := by have := G.room.un; omega
  have w : ∀ σ H Q, LE X.K (evE c (.cmp op a b)) σ H Q → tOp (LB X.K (cop op)) (LE X.K (evE c a)) (LE X.K (evE c b)) σ H Q := fun σ H Q q => by
    obtain ⟨ρ, env, S, d, S', hs, he, hf, hq⟩ := q
    rw [evE] at hf
    obtain ⟨x, S1, e1, hf⟩ := bnd_inv hf
    obtain ⟨y, S2, e2, hf⟩ := bnd_inv hf
    exact LE.mk hs he e1 fun H1 ρ1 v mm p s1 he1 r1 => LE.mk s1 he1 e2 fun H2 ρ2 w m2 p2 s2 he2 r2 => ⟨ρ2, S2, x, y, d, S', s2, r1.mono m2 p2 _ _, r2, hf, (hq.mono mm p).mono m2 p2⟩
  refine ⟨(pe_cmpR (op_cop hu op) ha hb hm).weakC w, (pt_cmpR (op_cop hu op) ha hb hm).weakC fun σ H Q q => w _ _ _ (q.bl ?_)⟩
  intro env S d S' hf
  rw [evE] at hf
  obtain ⟨x, S1, e1, hf⟩ := bnd_inv hf
  obtain ⟨y, S2, e2, hf⟩ := bnd_inv hf
  exact cop_bl hf
theorem isN_rp {K : PySem.W.Frag} {H : Hp} {ρ : List Addr} {d : D} {v : V} (r : Rp K H ρ d v) : decide (v = .non) = isN d := by
  cases d with
  | tup ds => obtain ⟨a, vs, rfl, _⟩ := r; rfl
  | loc n => obtain ⟨a, rfl, _⟩ := r; rfl
  | _ => cases r; rfl
theorem b_isN {a : E} {a' : Expr} {n : Nat} {p p2 : Pos} (ha : PE X a' (LE X.K (evE c a))) : Both X (.Compare a' [.Is] [.Constant .none n p] p2) (evE c (.isN a)) := by
  have w : ∀ σ H Q, LE X.K (evE c (.isN a)) σ H Q → tOp (fun x y H Q => y = .non ∧ Q (.bl (decide (x = .non))) H) (LE X.K (evE c a)) (tC .non) σ H Q := fun σ H Q q => by
    obtain ⟨ρ, env, S, d, S', hs, he, hf, hq⟩ := q
    rw [evE] at hf
    obtain ⟨x, S1, e1, hf⟩ := bnd_inv hf
    cases hf
    exact LE.mk hs he e1 fun H1 ρ1 v mm p s1 he1 r1 => ⟨rfl, by rw [isN_rp r1]; exact (hq.mono mm p).same s1 rfl⟩
  refine ⟨(pe_cmpR op_isN ha pe_non (nomark _)).weakC w, (pt_cmpR op_isN ha pe_non (nomark _)).weakC fun σ H Q q => w _ _ _ (q.bl ?_)⟩
  intro env S d S' hf
  rw [evE] at hf
  obtain ⟨x, S1, e1, hf⟩ := bnd_inv hf
  cases hf
  exact ⟨_, rfl⟩
theorem b_notN {a : E} {a' : Expr} {n : Nat} {p p2 : Pos} (ha : PE X a' (LE X.K (evE c a))) : Both X (.Compare a' [.IsNot] [.Constant .none n p] p2) (evE c (.notN a)) := by
  have w : ∀ σ H Q, LE X.K (evE c (.notN a)) σ H Q → tOp (fun x y H Q => y = .non ∧ Q (.bl (!decide (x = .non))) H) (LE X.K (evE c a)) (tC .non) σ H Q := fun σ H Q q => by
    obtain ⟨ρ, env, S, d, S', hs, he, hf, hq⟩ := q
    rw [evE] at hf
    obtain ⟨x, S1, e1, hf⟩ := bnd_inv hf
    cases hf
    exact LE.mk hs he e1 fun H1 ρ1 v mm p s1 he1 r1 => ⟨rfl, by rw [isN_rp r1]; exact (hq.mono mm p).same s1 rfl⟩
  refine ⟨(pe_cmpR op_notN ha pe_non (nomark _)).weakC w, (pt_cmpR op_notN ha pe_non (nomark _)).weakC fun σ H Q q => w _ _ _ (q.bl ?_)⟩
  intro env S d S' hf
  rw [evE] at hf
  obtain ⟨x, S1, e1, hf⟩ := bnd_inv hf
  cases hf
  exact ⟨_, rfl⟩
theorem b_isB {a : E} {b : Bool} {a' : Expr} {n : Nat} {p p2 : Pos} (ha : PE X a' (LE X.K (evE c a))) : Both X (.Compare a' [.Is] [.Constant (.bool b) n p] p2) (evE c (.isB a b)) := by
  have w : ∀ σ H Q, LE X.K (evE c (.isB a b)) σ H Q → tOp rIsB (LE X.K (evE c a)) (tC (.bl b)) σ H Q := fun σ H Q q => by
    obtain ⟨ρ, env, S, d, S', hs, he, hf, hq⟩ := q
    rw [evE] at hf
    obtain ⟨x, S1, e1, hf⟩ := bnd_inv hf
    refine LE.mk hs he e1 fun H1 ρ1 v mm p s1 he1 r1 => ?_
    cases x with
    | bl k =>
      cases hf
      cases r1
      exact ⟨k, b, rfl, rfl, (hq.mono mm p).same s1 rfl⟩
    | _ => cases hf
  refine ⟨(pe_cmpR op_isBl ha pe_bl (nomark _)).weakC w, (pt_cmpR op_isBl ha pe_bl (nomark _)).weakC fun σ H Q q => w _ _ _ (q.bl ?_)⟩
  intro env S d S' hf
  rw [evE] at hf
  obtain ⟨x, S1, e1, hf⟩ := bnd_inv hf
  cases x with
  | bl k => cases hf; exact ⟨_, rfl⟩
  | _ => cases hf
theorem boot_isi : ∀ T ∈ isiTys, bootBuiltins (Str.ofString T) = some (.type T) ∧ Str.ofString T ≠ "__name__" := by decide +kernel
theorem b_isi {a : E} {T : String} {a' : Expr} {p p2 p3 : Pos} (G : Good m c kk X) (hT : T ∈ isiTys) (g1 : isGl X.env.scope (Str.ofString "isinstance") = true) (g2 : isGl X.env.scope (Str.ofString T) = true) (n2 : nd (Str.ofString T) = true) (ha : PE X a' (LE X.K (evE c a)))
    (hst : starEach [a', .Name (Str.ofString T) p2] X.env = (false, eval a' X.env) :: starEach [.Name (Str.ofString T) p2] X.env) : Both X (.Call (.Name (Str.ofString "isinstance") p) [a', .Name (Str.ofString T) p2] [] p3) (evE c (.isi a T)) := by
  have hm : X.mg (Str.ofString "isinstance") = none := G.mo.bt "isinstance" (by decide)
  have hm2 : X.mg (Str.ofString T) = none := G.mo.bt T (List.mem_append_right _ hT)
  obtain ⟨b1, b2⟩ := boot_isi T hT
  have pc : PE X (.Name (Str.ofString T) p2) (tC (.ty T)) := pe_bltn (gl_of g2) hm2 b1 rfl b2 (nd_ok n2).1
  have pe : PE X (.Call (.Name (Str.ofString "isinstance") p) [a', .Name (Str.ofString T) p2] [] p3) (LE X.K (evE c (.isi a T))) := (pe_callB call_isi (gl_of g1) hm (by decide +kernel) (pa_cons ha (pa_cons pc pa_nil) hst) (by decide) (by decide) hst rfl).weakC fun σ H Q q => by
    obtain ⟨ρ, env, S, d, S', hs, he, hf, hq⟩ := q
    rw [evE] at hf
    obtain ⟨x, S1, e1, hf⟩ := bnd_inv hf
    cases hf
    exact LE.mk hs he e1 fun H1 ρ1 v mm p s1 he1 r1 => ⟨v, .ty T, .type (tyN x), .type T, _, rfl, .ty T, ty_of s1 r1, kit_isi hT, (hq.mono mm p).same s1 rfl⟩
  exact ⟨pe, pt_of pe fun _ => rfl⟩
theorem b_nt {a : E} {a' : Expr} {p : Pos} (ha : Both X a' (evE c a)) : Both X (.UnaryOp .Not a' p) (evE c (.nt a)) := by
  refine ⟨(pe_notT ha.1).weakC fun σ H Q q => ?_, (pt_not ha.2).weakC fun σ H Q q => ?_⟩
  · obtain ⟨ρ, env, S, d, S', hs, he, hf, hq⟩ := q
    rw [evE] at hf
    obtain ⟨x, S1, e1, hf⟩ := bnd_inv hf
    cases et : truth S1 x with
    | none => rw [et] at hf; cases hf
    | some k =>
      rw [et] at hf; cases hf
      exact LE.mk hs he e1 fun H1 ρ1 v mm p s1 he1 r1 => ⟨k, tru_of s1 r1 et, (hq.mono mm p).same s1 rfl⟩
  · obtain ⟨ρ, env, S, k, S', hs, he, hf, hq⟩ := q
    obtain ⟨d, hf, ht⟩ := tst_inv hf
    rw [evE] at hf
    obtain ⟨x, S1, e1, hf⟩ := bnd_inv hf
    cases et : truth S1 x with
    | none => rw [et] at hf; cases hf
    | some k' =>
      rw [et] at hf; cases hf
      cases ht
      exact LT.mk (x := k') (S1 := S') hs he (by show tst (evE c a env S) = some (k', S'); rw [e1]; show (truth S' x).map (fun k => (k, S')) = _; rw [et]; rfl) fun H1 ρ1 mm p s1 he1 => hq H1 ρ1 mm p s1
theorem and_inv {c : Cfg} {a b : E} {env : Ev} {S S' : Sto} {d : D} (h : evE c (.and a b) env S = some (d, S')) : ∃ x S1 k, evE c a env S = some (x, S1) ∧ truth S1 x = some k ∧ (if k = true then evE c b env S1 = some (d, S') else (d = x ∧ S' = S1)) := by
  rw [evE] at h
  obtain ⟨x, S1, e1, h⟩ := bnd_inv h
  obtain ⟨k, S2, e2, h⟩ := bnd_inv h
  cases et : truth S1 x with
  | none => rw [et] at e2; cases e2
  | some k' =>
    rw [et] at e2; cases e2
    refine ⟨x, S1, k, e1, et, ?_⟩
    cases k with
    | true => exact h
    | false => cases h; exact ⟨rfl, rfl⟩
theorem or_inv {c : Cfg} {a b : E} {env : Ev} {S S' : Sto} {d : D} (h : evE c (.or a b) env S = some (d, S')) : ∃ x S1 k, evE c a env S = some (x, S1) ∧ truth S1 x = some k ∧ (if k = true then (d = x ∧ S' = S1) else evE c b env S1 = some (d, S')) := by
  rw [evE] at h
  obtain ⟨x, S1, e1, h⟩ := bnd_inv h
  obtain ⟨k, S2, e2, h⟩ := bnd_inv h
  cases et : truth S1 x with
  | none => rw [et] at e2; cases e2
  | some k' =>
    rw [et] at e2; cases e2
    refine ⟨x, S1, k, e1, et, ?_⟩
    cases k with
    | true => cases h; exact ⟨rfl, rfl⟩
    | false => exact h
theorem tst_mk {m : Option (D × Sto)} {d : D} {k : Bool} {S : Sto} (h : m = some (d, S)) (t : truth S d = some k) : tst m = some (k, S) := by
  rw [h]; show (truth S d).map (fun k => (k, S)) = _; rw [t]; rfl
theorem b_and {a b : E} {a' b' : Expr} {rest : List Expr} {p : Pos} (ha : Both X a' (evE c a)) (hb1 : PE X (.BoolOp .And (b' :: rest) p) (LE X.K (evE c b))) (hb2 : PW X (.BoolOp .And (b' :: rest) p) (LTe X.K (evE c b))) : Both X (.BoolOp .And (a' :: b' :: rest) p) (evE c (.and a b)) := by
  refine ⟨(pe_andT ha.1 hb1).weakC fun σ H Q q => ?_, (PW.pt (pw_and ha.2 hb2)).weakC fun σ H Q q => ?_⟩
  · obtain ⟨ρ, env, S, d, S', hs, he, hf, hq⟩ := q
    obtain ⟨x, S1, k, e1, et, h⟩ := and_inv hf
    refine LE.mk hs he e1 fun H1 ρ1 v mm p s1 he1 r1 => ⟨k, tru_of s1 r1 et, ?_⟩
    cases k with
    | true => exact ⟨ρ1, env, S1, d, S', s1, he1, h, hq.mono mm p⟩
    | false =>
      obtain ⟨rfl, rfl⟩ := h
      exact (hq.mono mm p).same s1 r1
  · obtain ⟨ρ, env, S, k, S', hs, he, hf, hq⟩ := q
    obtain ⟨d, hf, ht⟩ := tst_inv hf
    obtain ⟨x, S1, k', e1, et, h⟩ := and_inv hf
    refine LT.mk hs he (tst_mk e1 et) fun H1 ρ1 mm p s1 he1 => ?_
    cases k' with
    | true => exact ⟨ρ1, env, S1, k, S', s1, he1, tst_mk h ht, fun H' ρ' m' p' s' => hq H' ρ' (mm.trans m') (p.trans p') s'⟩
    | false =>
      obtain ⟨rfl, rfl⟩ := h
      rw [et] at ht; cases ht
      exact hq H1 ρ1 mm p s1
theorem b_or {a b : E} {a' b' : Expr} {rest : List Expr} {p : Pos} (ha : Both X a' (evE c a)) (hb1 : PE X (.BoolOp .Or (b' :: rest) p) (LE X.K (evE c b))) (hb2 : PW X (.BoolOp .Or (b' :: rest) p) (LTe X.K (evE c b))) : Both X (.BoolOp .Or (a' :: b' :: rest) p) (evE c (.or a b)) := by
  refine ⟨(pe_orT ha.1 hb1).weakC fun σ H Q q => ?_, (PW.pt (pw_or ha.2 hb2)).weakC fun σ H Q q => ?_⟩
  · obtain ⟨ρ, env, S, d, S', hs, he, hf, hq⟩ := q
    obtain ⟨x, S1, k, e1, et, h⟩ := or_inv hf
    refine LE.mk hs he e1 fun H1 ρ1 v mm p s1 he1 r1 => ⟨k, tru_of s1 r1 et, ?_⟩
    cases k with
    | false => exact ⟨ρ1, env, S1, d, S', s1, he1, h, hq.mono mm p⟩
    | true =>
      obtain ⟨rfl, rfl⟩ := h
      exact (hq.mono mm p).same s1 r1
  · obtain ⟨ρ, env, S, k, S', hs, he, hf, hq⟩ := q
    obtain ⟨d, hf, ht⟩ := tst_inv hf
    obtain ⟨x, S1, k', e1, et, h⟩ := or_inv hf
    refine LT.mk hs he (tst_mk e1 et) fun H1 ρ1 mm p s1 he1 => ?_
    cases k' with
    | false => exact ⟨ρ1, env, S1, k, S', s1, he1, tst_mk h ht, fun H' ρ' m' p' s' => hq H' ρ' (mm.trans m') (p.trans p') s'⟩
    | true =>
      obtain ⟨rfl, rfl⟩ := h
      rw [et] at ht; cases ht
      exact hq H1 ρ1 mm p s1
theorem ifT_inv {α : Type} {mm : Option (Bool × Sto)} {f g : Sto → Option (α × Sto)} {r : α × Sto} (h : ifT mm f g = some r) : ∃ k S, mm = some (k, S) ∧ (if k = true then f S else g S) = some r := bnd_inv h
theorem b_ife {t a b : E} {t' a' b' : Expr} {p : Pos} (ht : PT X t' (LTe X.K (evE c t))) (ha : Both X a' (evE c a)) (hb : Both X b' (evE c b)) : Both X (.IfExp t' a' b' p) (evE c (.ife t a b)) := by
  refine ⟨(pe_ifExp ht ha.1 hb.1).weakC fun σ H Q q => ?_, ⟨fun pins s σ H Q I q => ?_⟩⟩
  · obtain ⟨ρ, env, S, d, S', hs, he, hf, hq⟩ := q
    rw [evE] at hf
    obtain ⟨k, S1, e1, h⟩ := ifT_inv hf
    refine LT.mk hs he e1 fun H1 ρ1 mm p s1 he1 => ?_
    cases k with
    | true => exact ⟨ρ1, env, S1, d, S', s1, he1, h, hq.mono mm p⟩
    | false => exact ⟨ρ1, env, S1, d, S', s1, he1, h, hq.mono mm p⟩
  · obtain ⟨ρ, env, S, k, S', hs, he, hf, hq⟩ := q
    obtain ⟨d, hf, htr⟩ := tst_inv hf
    rw [evE] at hf
    obtain ⟨k', S1, e1, h⟩ := ifT_inv hf
    have ht' := ht.run pins s σ H (fun d H1 => if d = true then LTe X.K (evE c a) σ H1 Q else LTe X.K (evE c b) σ H1 Q) I (LT.mk hs he e1 fun H1 ρ1 mm p s1 he1 => by
      cases k' with
      | true => exact ⟨ρ1, env, S1, k, S', s1, he1, tst_mk h htr, fun H' ρ' m' p' s' => hq H' ρ' (mm.trans m') (p.trans p') s'⟩
      | false => exact ⟨ρ1, env, S1, k, S', s1, he1, tst_mk h htr, fun H' ρ' m' p' s' => hq H' ρ' (mm.trans m') (p.trans p') s'⟩)
    show wpAny (model X.prog X.w) X.A (do if ← isTrue t' X.env (eval t' X.env) then isTrue a' X.env (eval a' X.env) else isTrue b' X.env (eval b' X.env)) (TP X pins σ Q) X.xe s
    refine wpAny_bind (thn ht' fun d s1 ⟨H1, I1, q1⟩ => ?_)
    cases d with
    | true => exact ha.2.run pins s1 σ H1 Q I1 q1
    | false => exact hb.2.run pins s1 σ H1 Q I1 q1
theorem b_tup {es : List E} {es' : List Expr} {n : Nat} {p : Pos} (ha : PA X es' (LA X.K (evEs c es))) (hl : ∀ env S xs S', evEs c es env S = some (xs, S') → xs.length = es.length) (hn : es.length ≤ 1000) : Both X (.Tuple es' n p) (evE c (.tup es)) := by
  have pe : PE X (.Tuple es' n p) (LE X.K (evE c (.tup es))) := (pe_tup ha).weakC fun σ H Q q => by
    obtain ⟨ρ, env, S, d, S', hs, he, hf, hq⟩ := q
    rw [evE] at hf
    obtain ⟨xs, S1, e1, hf⟩ := bnd_inv hf
    cases hf
    refine LA.mk hs he e1 fun H1 ρ1 vs mm p s1 he1 r1 => ⟨?_, fun a hn => (hq.mono mm p).newT s1 r1 hn⟩
    rw [← r1.length, hl _ _ _ _ e1]
    exact Nat.le_of_lt (Nat.lt_of_le_of_lt hn (by decide))
  exact ⟨pe, pt_of pe fun _ => rfl⟩
theorem b_lst {es : List E} {es' : List Expr} {p : Pos} (ha : PA X es' (LA X.K (evEs c es))) (hl : ∀ env S xs S', evEs c es env S = some (xs, S') → xs.length = es.length) (hn : es.length ≤ 1000) : Both X (.List es' p) (evE c (.lst es)) := by
  have pe : PE X (.List es' p) (LE X.K (evE c (.lst es))) := (pe_lst ha).weakC fun σ H Q q => by
    obtain ⟨ρ, env, S, d, S', hs, he, hf, hq⟩ := q
    rw [evE] at hf
    obtain ⟨xs, S1, e1, hf⟩ := bnd_inv hf
    cases hf
    refine LA.mk hs he e1 fun H1 ρ1 vs mm p s1 he1 r1 => ⟨?_, fun a hn => (hq.mono mm p).newL s1 r1 hn⟩
    rw [← r1.length, hl _ _ _ _ e1]
    exact Nat.le_of_lt (Nat.lt_of_le_of_lt hn (by decide))
  exact ⟨pe, pt_of pe fun _ => rfl⟩
theorem b_idx {a i : E} {a' i' : Expr} {p : Pos} (ha : PE X a' (LE X.K (evE c a))) (hi : PE X i' (LE X.K (evE c i))) (hp : PlainIx i') : Both X (.Subscript a' i' p) (evE c (.idx a i)) := by
  have pe : PE X (.Subscript a' i' p) (LE X.K (evE c (.idx a i))) := (pe_ix ix_iop ha hi hp).weakC fun σ H Q q => by
    obtain ⟨ρ, env, S, d, S', hs, he, hf, hq⟩ := q
    rw [evE] at hf
    obtain ⟨x, S1, e1, hf⟩ := bnd_inv hf
    obtain ⟨y, S2, e2, hf⟩ := bnd_inv hf
    exact LE.mk hs he e1 fun H1 ρ1 v mm p s1 he1 r1 => LE.mk s1 he1 e2 fun H2 ρ2 w m2 p2 s2 he2 r2 => ⟨ρ2, S2, x, y, d, S', s2, r1.mono m2 p2 _ _, r2, hf, (hq.mono mm p).mono m2 p2⟩
  exact ⟨pe, pt_of pe fun _ => rfl⟩
/-- a slice's bound -/
def LO (K : PySem.W.Frag) (e : E) (f : Ev → Sto → Option (D × Sto)) : TO := fun σ H Q => ∃ ρ env S d o S', Sr K H ρ S ∧ EnvR K H ρ env σ ∧ f env S = some (d, S') ∧ bndE e d = some o ∧ ∀ H' ρ', Mono H H' → ρ <+: ρ' → Sr K H' ρ' S' → Q o H'
theorem po_of {e : E} {o : Option Expr} (h : match o with | none => isNonE e = true | some l => PE X l (LE X.K (evE c e)) ∧ isNonE e = false) : PO X o (LO X.K e (evE c e)) := by
  cases o with
  | none =>
    refine ⟨fun pins s σ H Q I q => po_none.run pins s σ H Q I ?_⟩
    obtain ⟨ρ, env, S, d, o, S', hs, he, hf, hb, hq⟩ := q
    simp only at h
    unfold bndE at hb
    rw [if_pos h] at hb
    cases hb
    unfold isNonE at h
    split at h
    · rw [evE] at hf; cases hf
      exact hq H ρ Mono.refl (List.prefix_refl _) hs
    · cases h
  | some l =>
    refine ⟨fun pins s σ H Q I q => (po_some h.1).run pins s σ H Q I ?_⟩
    obtain ⟨ρ, env, S, d, o, S', hs, he, hf, hb, hq⟩ := q
    unfold bndE at hb
    rw [if_neg (by rw [h.2]; decide)] at hb
    refine LE.mk hs he hf fun H1 ρ1 v mm p s1 he1 r1 => ?_
    cases d with
    | int i => cases hb; cases r1; exact ⟨i, rfl, hq H1 ρ1 mm p s1⟩
    | _ => cases hb
theorem b_slc {a lo hi : E} {a' : Expr} {l' h' : Option Expr} {p p2 : Pos} (ha : PE X a' (LE X.K (evE c a))) (hl : PO X l' (LO X.K lo (evE c lo))) (hh : PO X h' (LO X.K hi (evE c hi))) : Both X (.Subscript a' (.Slice l' h' none p2) p) (evE c (.slc a lo hi)) := by
  have pe : PE X (.Subscript a' (.Slice l' h' none p2) p) (LE X.K (evE c (.slc a lo hi))) := (pe_slice sl_slop ha hl hh).weakC fun σ H Q q => by
    obtain ⟨ρ, env, S, d, S', hs, he, hf, hq⟩ := q
    rw [evE] at hf
    obtain ⟨x, S1, e1, hf⟩ := bnd_inv hf
    obtain ⟨y, S2, e2, hf⟩ := bnd_inv hf
    obtain ⟨z, S3, e3, hf⟩ := bnd_inv hf
    split at hf
    · rename_i l h el eh
      refine LE.mk hs he e1 fun H1 ρ1 v mm p s1 he1 r1 => ?_
      refine ⟨ρ1, env, S1, y, l, S2, s1, he1, e2, el, fun H2 ρ2 m2 p2 s2 => ?_⟩
      refine ⟨ρ2, env, S2, z, h, S3, s2, he1.mono m2 p2, e3, eh, fun H3 ρ3 m3 p3 s3 => ?_⟩
      exact ⟨ρ3, S3, x, d, S', s3, (r1.mono m2 p2 _ _).mono m3 p3 _ _, hf, ((hq.mono mm p).mono m2 p2).mono m3 p3⟩
    · cases hf
  exact ⟨pe, pt_of pe fun _ => rfl⟩
theorem b_call {f : String} {es : List E} {e' : Expr} {es' : List Expr} {p p2 : Pos} (G : Good m c kk X) (hf : f ∈ m.fs) (hg : isGl X.env.scope (Str.ofString f) = true) (hn : nd (Str.ofString f) = true) (ha : PA X (e' :: es') (LA X.K (evEs c es)))
    (hst : starEach (e' :: es') X.env = (false, eval e' X.env) :: starEach es' X.env) (hpl : (backTo p2 (starEach es' X.env)).any (·.1) = false) : Both X (.Call (.Name (Str.ofString f) p) (e' :: es') [] p2) (evE c (.call f es)) := by
  have pe : PE X (.Call (.Name (Str.ofString f) p) (e' :: es') [] p2) (LE X.K (evE c (.call f es))) := by
    rcases G.mo.fn f hf with ⟨a, fd, ps, sp, e1, e2, e3, e4, e5⟩ | ⟨_, e1, e2⟩
    · refine (pe_callG e4 G.gd G.room (gl_of hg) e1 e2 e3 ha (nd_ok hn).1 hst hpl).weakC fun σ H Q q => ?_
      obtain ⟨ρ, env, S, d, S', hs, he, hf, hq⟩ := q
      rw [evE] at hf
      obtain ⟨xs, S1, e1, hf⟩ := bnd_inv hf
      refine LA.mk hs he e1 fun H1 ρ1 vs mm p s1 he1 r1 => ?_
      exact e5 vs H1 Q ⟨ρ1, S1, xs, d, S', s1, r1, hf, hq.mono mm p⟩
    · refine (pe_callBfun cr_gcd' (gl_of hg) e1 ha (nd_ok hn).1 hst hpl).weakC fun σ H Q q => ?_
      obtain ⟨ρ, env, S, d, S', hs, he, hf, hq⟩ := q
      rw [evE] at hf
      obtain ⟨xs, S1, e1, hf⟩ := bnd_inv hf
      rw [e2] at hf
      exact LA.mk hs he e1 fun H1 ρ1 vs mm p s1 he1 r1 => ⟨ρ1, S1, xs, d, S', s1, r1, hf, hq.mono mm p⟩
  exact ⟨pe, pt_of pe fun _ => rfl⟩
theorem bltw {f : String} {es : List E} {b : Bf} {σ H Q} (hb : blt f = b) (q : LE X.K (evE c (.blt f es)) σ H Q) : tCB (LC X.K b) (LA X.K (evEs c es)) σ H Q := by
  obtain ⟨ρ, env, S, d, S', hs, he, hf, hq⟩ := q
  rw [evE] at hf
  obtain ⟨xs, S1, e1, hf⟩ := bnd_inv hf
  rw [hb] at hf
  exact LA.mk hs he e1 fun H1 ρ1 vs mm p s1 he1 r1 => ⟨ρ1, S1, xs, d, S', s1, r1, hf, hq.mono mm p⟩
theorem b_blt {f : String} {es : List E} {e' : Expr} {es' : List Expr} {p p2 : Pos} (G : Good m c kk X) (hf : f ∈ bltFns ∨ f ∈ bltTys) (hg : isGl X.env.scope (Str.ofString f) = true) (hn : nd (Str.ofString f) = true) (ha : PA X (e' :: es') (LA X.K (evEs c es)))
    (hst : starEach (e' :: es') X.env = (false, eval e' X.env) :: starEach es' X.env) (hpl : (backTo p2 (starEach es' X.env)).any (·.1) = false) : Both X (.Call (.Name (Str.ofString f) p) (e' :: es') [] p2) (evE c (.blt f es)) := by
  have hm : X.mg (Str.ofString f) = none := G.mo.bt f (by
    unfold bltAll
    rcases hf with h | h
    · exact List.mem_append_left _ (List.mem_append_left _ (List.mem_append_left _ h))
    · exact List.mem_append_left _ (List.mem_append_left _ (List.mem_append_right _ h)))
  have hu : X.A.units + 70 < cLine := by have := G.room.un; omega
  have hc := G.calm
  have pe : PE X (.Call (.Name (Str.ofString f) p) (e' :: es') [] p2) (LE X.K (evE c (.blt f es))) := by
    rcases hf with h | h
    · simp only [bltFns, List.mem_cons, List.not_mem_nil, or_false] at h
      rcases h with rfl | rfl | rfl | rfl | rfl | rfl | rfl | rfl
      · exact (pe_callB cr_len (gl_of hg) hm (by decide +kernel) ha (by decide) (nd_ok hn).1 hst hpl).weakC fun _ _ _ q => bltw rfl q
      · exact (pe_callB cr_abs (gl_of hg) hm (by decide +kernel) ha (by decide) (nd_ok hn).1 hst hpl).weakC fun _ _ _ q => bltw rfl q
      · exact (pe_callB (Cs.cr_max hc) (gl_of hg) hm (by decide +kernel) ha (by decide) (nd_ok hn).1 hst hpl).weakC fun _ _ _ q => bltw rfl q
      · exact (pe_callB (Cs.cr_min hc) (gl_of hg) hm (by decide +kernel) ha (by decide) (nd_ok hn).1 hst hpl).weakC fun _ _ _ q => bltw rfl q
      · exact (pe_callB (cr_all' hc) (gl_of hg) hm (by decide +kernel) ha (by decide) (nd_ok hn).1 hst hpl).weakC fun _ _ _ q => bltw rfl q
      · exact (pe_callB (cr_any' hc) (gl_of hg) hm (by decide +kernel) ha (by decide) (nd_ok hn).1 hst hpl).weakC fun _ _ _ q => bltw rfl q
      · exact (pe_callB (cr_repr G.gd hu) (gl_of hg) hm (by decide +kernel) ha (by decide) (nd_ok hn).1 hst hpl).weakC fun _ _ _ q => bltw rfl q
      · exact (pe_callB cr_sorted' (gl_of hg) hm (by decide +kernel) ha (by decide) (nd_ok hn).1 hst hpl).weakC fun _ _ _ q => bltw rfl q
    · simp only [bltTys, List.mem_cons, List.not_mem_nil, or_false] at h
      rcases h with rfl | rfl | rfl
      · exact (pe_callTy cr_int (gl_of hg) hm (by decide +kernel) ha (by decide) (nd_ok hn).1 hst hpl).weakC fun _ _ _ q => bltw rfl q
      · exact (pe_callTy cr_list (gl_of hg) hm (by decide +kernel) ha (by decide) (nd_ok hn).1 hst hpl).weakC fun _ _ _ q => bltw rfl q
      · exact (pe_callTy cr_tuple (gl_of hg) hm (by decide +kernel) ha (by decide) (nd_ok hn).1 hst hpl).weakC fun _ _ _ q => bltw rfl q
  exact ⟨pe, pt_of pe fun _ => rfl⟩
end
end Cs

set_option Elab.async false
set_option linter.all false
set_option maxRecDepth 100000
namespace Cs
open PySem PySem.Spec PyProof.Rows L2

section
variable {X : Cx} {m : MC} {c : Cfg} {kk : Nat}
theorem base_of {f : Str} {o : E} {o' : Expr} {sc : Scope} {env : Env} (h : mE m sc o o' = true) (hs : simpleO o = true) : attributeBase o' f env (eval o' env) = eval o' env := by
  cases o <;> first | cases hs | skip
  · cases o' <;> first | rfl | (simp [mE] at h)
  · cases o' <;> first | rfl | (simp [mE] at h)
theorem stars_few {es : List Expr} {env : Env} {cp : Pos} (h : starEach es env = es.map (fun e => (false, eval e env))) (hn : es.length < 29) :
    ((backTo cp (starEach es env)).all (fun x => !x.1) && (backToKw cp (keywordEach [] env)).all (fun x => x.1.isSome)
      && decide (es.length + ([] : List Keyword).length + (if ([] : List Keyword).isEmpty then 0 else 1) < 30)) = true := by
  rw [h]
  unfold backTo
  simp [keywordEach, backToKw]
  omega
theorem b_mth {f : String} {o : E} {es : List E} {o' e' : Expr} {es' : List Expr} {p ap cp : Pos} {sc : Scope} (hu : X.A.units + 65 < cLine) (hf : f ∈ mthFns) (ho : PE X o' (LE X.K (evE c o))) (ha : PA X (e' :: es') (LA X.K (evEs c es)))
    (hb : attributeBase o' (Str.ofString f) X.env (eval o' X.env) = eval o' X.env) (hst : starEach (e' :: es') X.env = (e' :: es').map (fun e => (false, eval e X.env))) (hst2 : starEach es' X.env = es'.map (fun e => (false, eval e X.env))) (hl : lineOk ap cp = true) (hn : (e' :: es').length < 29) :
    Both X (.Call (.Attribute o' (Str.ofString f) ap) (e' :: es') [] cp) (evE c (.mth f o es)) := by
  have hs1 : starEach (e' :: es') X.env = (false, eval e' X.env) :: starEach es' X.env := by rw [hst, hst2]; rfl
  have pe : PE X (.Call (.Attribute o' (Str.ofString f) ap) (e' :: es') [] cp) (LE X.K (evE c (.mth f o es))) := by
    have w : ∀ g : Mf, mth f = g → (∀ x S1, mTy f x S1 = true → ∃ n, x = .loc n ∧ (getL S1 n).isSome = true) → ∀ σ H Q, LE X.K (evE c (.mth f o es)) σ H Q → tBM X.K "list" (LM X.K g) (LE X.K (evE c o)) (LA X.K (evEs c es)) σ H Q := by
      intro g hg hty σ H Q q
      obtain ⟨ρ, env, S, d, S', hs, he, hf, hq⟩ := q
      rw [evE] at hf
      obtain ⟨x, S1, e1, hf⟩ := bnd_inv hf
      split at hf
      · rename_i ht
        obtain ⟨xs, S2, e2, hf⟩ := bnd_inv hf
        rw [hg] at hf
        refine LE.mk hs he e1 fun H1 ρ1 v mm p s1 he1 r1 => ⟨?_, LA.mk s1 he1 e2 fun H2 ρ2 vs m2 p2 s2 he2 r2 => ⟨ρ2, S2, x, xs, d, S', s2, r1.mono m2 p2 _ _, r2, hf, (hq.mono mm p).mono m2 p2⟩⟩
        obtain ⟨n, rfl, htl⟩ := hty x S1 ht
        cases eg : getL S1 n with
        | none => rw [eg] at htl; cases htl
        | some ds =>
          obtain ⟨a, us, rfl, _, sa, _⟩ := s1.list eg r1
          exact .inl ⟨rfl, us, sa⟩
      · cases hf
    simp only [mthFns, List.mem_cons, List.not_mem_nil, or_false] at hf
    rcases hf with rfl | rfl
    · refine (pe_bm PySem.F.plainAttrs_list PySem.F.slot_list_append PySem.F.type_list_append mt_append' ho ha hb (stars_few hst hn) hl hs1 (plain_of hst2)).weakC (w _ rfl fun x S1 ht => ?_)
      cases x with
      | loc n => exact ⟨n, rfl, ht⟩
      | _ => cases ht
    · refine (pe_bm PySem.F.plainAttrs_list PySem.F.slot_list_index PySem.F.type_list_index (mt_index' hu) ho ha hb (stars_few hst hn) hl hs1 (plain_of hst2)).weakC (w _ rfl fun x S1 ht => ?_)
      cases x with
      | loc n => exact ⟨n, rfl, ht⟩
      | _ => cases ht
  exact ⟨pe, pt_of pe fun _ => rfl⟩

/-! ### what is let go -/
mutual
theorem und_of {K : PySem.W.Frag} {H : Hp} {ρ : List Addr} : ∀ (d : D) (v : V), Rp K H ρ d v → d.und ρ.length
  | .non, _, _ => trivial
  | .bl _, _, _ => trivial
  | .int _, _, _ => trivial
  | .str _, _, _ => trivial
  | .tup ds, v, h => by
    obtain ⟨a, vs, rfl, _, r⟩ := h
    exact und_ofL ds vs r
  | .loc n, v, h => by
    obtain ⟨a, rfl, e⟩ := h
    exact (List.getElem?_eq_some_iff.mp e).1
theorem und_ofL {K : PySem.W.Frag} {H : Hp} {ρ : List Addr} : ∀ (ds : List D) (vs : List V), RpL K H ρ ds vs → D.undL ρ.length ds
  | [], _, _ => trivial
  | d :: ds, _, h => by
    obtain ⟨v, r, rfl, h1, h2⟩ := h
    exact ⟨und_of d v h1, und_ofL ds r h2⟩
end
mutual
theorem Rp.cut {K : PySem.W.Frag} {H : Hp} {ρ ρ' : List Addr} (p : ρ <+: ρ') : ∀ (d : D) (v : V), d.und ρ.length → Rp K H ρ' d v → Rp K H ρ d v
  | .non, _, _, h => h
  | .bl _, _, _, h => h
  | .int _, _, _, h => h
  | .str _, _, _, h => h
  | .tup ds, v, u, h => by
    obtain ⟨a, vs, rfl, sa, r⟩ := h
    exact ⟨a, vs, rfl, sa, RpL.cut p ds vs u r⟩
  | .loc n, v, u, h => by
    obtain ⟨a, rfl, e⟩ := h
    refine ⟨a, rfl, ?_⟩
    obtain ⟨t, rfl⟩ := p
    have u' : n < ρ.length := u
    rw [List.getElem?_append_left u'] at e
    exact e
theorem RpL.cut {K : PySem.W.Frag} {H : Hp} {ρ ρ' : List Addr} (p : ρ <+: ρ') : ∀ (ds : List D) (vs : List V), D.undL ρ.length ds → RpL K H ρ' ds vs → RpL K H ρ ds vs
  | [], _, _, h => h
  | d :: ds, vs, u, h => by
    obtain ⟨v, r, rfl, h1, h2⟩ := h
    exact ⟨v, r, rfl, Rp.cut p d v u.1 h1, RpL.cut p ds r u.2 h2⟩
end
theorem SoR.und {K : PySem.W.Frag} {H : Hp} {ρ : List Addr} {so : SO} {a : Addr} (h : SoR K H ρ so a) : so.und ρ.length := by
  cases so with
  | lst ds => obtain ⟨vs, _, r⟩ := h; exact und_ofL ds vs r
  | ro ds => obtain ⟨vs, _, r⟩ := h; exact und_ofL ds vs r
theorem SoR.cut {K : PySem.W.Frag} {H : Hp} {ρ ρ' : List Addr} (p : ρ <+: ρ') {so : SO} {a : Addr} (u : so.und ρ.length) (h : SoR K H ρ' so a) : SoR K H ρ so a := by
  cases so with
  | lst ds => obtain ⟨vs, e, r⟩ := h; exact ⟨vs, e, RpL.cut p ds vs u r⟩
  | ro ds => obtain ⟨vs, e, r⟩ := h; exact ⟨vs, e, RpL.cut p ds vs u r⟩
theorem Sr.cut {K : PySem.W.Frag} {H H' : Hp} {ρ ρ' : List Addr} {S S' : Sto} (s : Sr K H ρ S) (p : ρ <+: ρ') (s' : Sr K H' ρ' S') (pr : Pre S S') : Sr K H' ρ (S'.take S.length) := by
  have get : ∀ {n : Nat} {so : SO}, (S'.take S.length)[n]? = some so → n < S.length ∧ S'[n]? = some so := by
    intro n so e
    rw [List.getElem?_take] at e
    split at e
    · exact ⟨by assumption, e⟩
    · cases e
  have back : ∀ {n : Nat} {a : Addr}, n < S.length → ρ'[n]? = some a → ρ[n]? = some a := by
    intro n a hn e
    obtain ⟨t, rfl⟩ := p
    rw [List.getElem?_append_left (by rw [s.len]; exact hn)] at e
    exact e
  refine ⟨by rw [List.length_take, s.len, Nat.min_eq_left pr.1], fun n so e => ?_, fun n n' so so' a e e' hm hm' ea ea' => ?_⟩
  · obtain ⟨hn, e⟩ := get e
    obtain ⟨a, ea, r⟩ := s'.at_ n so e
    refine ⟨a, back hn ea, r.cut p ?_⟩
    rcases pr.2 n so hn e with q | q
    · obtain ⟨b, _, r0⟩ := s.at_ n so q
      exact r0.und
    · rw [s.len]; exact q
  · obtain ⟨hn, e⟩ := get e
    obtain ⟨hn', e'⟩ := get e'
    exact s'.inj n n' so so' a e e' hm hm' (pre_get p ea) (pre_get p ea')
theorem fin_ok {K : PySem.W.Frag} {H H' : Hp} {ρ ρ' : List Addr} {S S' S2 : Sto} {d d2 : D} {v : V} (s : Sr K H ρ S) (p : ρ <+: ρ') (s' : Sr K H' ρ' S') (r : Rp K H' ρ' d v) (h : fin S (d, S') = some (d2, S2)) :
    ∃ ρ2, ρ <+: ρ2 ∧ Sr K H' ρ2 S2 ∧ Rp K H' ρ2 d2 v := by
  unfold fin at h
  split at h
  · rename_i pr
    have sc := s.cut p s' pr
    simp only at h
    split at h
    · rename_i u
      cases h
      exact ⟨ρ, List.prefix_refl _, sc, r.cut p d v (by rw [s.len]; exact u)⟩
    · rename_i nu
      split at h
      · rename_i k
        split at h
        · rename_i xs e
          split at h
          · rename_i ux
            cases h
            obtain ⟨a, rfl, ea⟩ := r
            have e : S'[k]? = some (.lst xs) := e
            obtain ⟨b, eb, vs, hb, rb⟩ := s'.at_ k _ e
            rw [ea] at eb; cases eb
            have hk : S.length ≤ k := by
              have nu : ¬ k < S.length := nu
              omega
            have ux' : D.undL ρ.length xs := by rw [s.len]; exact ux
            have rx : RpL K H' ρ xs vs := RpL.cut p xs vs ux' rb
            have pq : ρ <+: ρ ++ [a] := ⟨[a], rfl⟩
            have lt : (S'.take S.length).length = S.length := by rw [List.length_take, Nat.min_eq_left pr.1]
            have la : (ρ ++ [a])[S.length]? = some a := by rw [← s.len]; simp
            have get : ∀ {n : Nat} {so : SO}, (S'.take S.length ++ [.lst xs])[n]? = some so → (n < S.length ∧ (S'.take S.length)[n]? = some so) ∨ (n = S.length ∧ so = .lst xs) := by
              intro n so q
              rcases Nat.lt_trichotomy n S.length with z | z | z
              · rw [List.getElem?_append_left (by rw [lt]; exact z)] at q; exact .inl ⟨z, q⟩
              · subst z
                rw [List.getElem?_append_right (by rw [lt]; exact Nat.le_refl _), lt] at q
                simp at q
                exact .inr ⟨rfl, q.symm⟩
              · rw [List.getElem?_eq_none (by simp [lt]; omega)] at q; cases q
            have old : ∀ {n : Nat} {so : SO} {b : Addr}, n < S.length → (S'.take S.length)[n]? = some so → so.mut = true → (ρ ++ [a])[n]? = some b → ρ[n]? = some b ∧ b ≠ a := by
              intro n so b hn q hm q2
              obtain ⟨b', eb', _⟩ := sc.at_ n so q
              have := pre_get pq eb'
              rw [q2] at this; cases this
              refine ⟨eb', fun z => ?_⟩
              subst z
              rw [List.getElem?_take, if_pos hn] at q
              have := s'.inj n k so _ b q e hm rfl (pre_get p eb') ea
              omega
            refine ⟨ρ ++ [a], pq, ⟨by simp [lt, s.len], fun n so q => ?_, fun n n' so so' b q q' hm hm' z z' => ?_⟩, ⟨a, rfl, la⟩⟩
            · rcases get q with ⟨hn, q⟩ | ⟨rfl, rfl⟩
              · obtain ⟨b, eb, rb⟩ := sc.at_ n so q
                exact ⟨b, pre_get pq eb, rb.mono Mono.refl pq fun _ h => h⟩
              · exact ⟨a, la, vs, hb, RpL.mono Mono.refl pq xs vs rx⟩
            · rcases get q with ⟨hn, q⟩ | ⟨rfl, rfl⟩
              · obtain ⟨w1, w2⟩ := old hn q hm z
                rcases get q' with ⟨hn', q'⟩ | ⟨rfl, rfl⟩
                · obtain ⟨w1', _⟩ := old hn' q' hm' z'
                  exact sc.inj n n' so so' b q q' hm hm' w1 w1'
                · rw [la] at z'; cases z'
                  exact absurd rfl w2
              · rcases get q' with ⟨hn', q'⟩ | ⟨rfl, rfl⟩
                · obtain ⟨_, w2⟩ := old hn' q' hm' z'
                  rw [la] at z; cases z
                  exact absurd rfl w2
                · rfl
          · cases h
        · cases h
      · cases h
  · cases h
theorem b_tr {e : E} {e' : Expr} (h : Both X e' (evE c e)) : Both X e' (evE c (.tr e)) := by
  have core : ∀ σ H Q, LE X.K (evE c (.tr e)) σ H Q → LE X.K (evE c e) σ H Q := fun σ H Q q => by
    obtain ⟨ρ, env, S, d, S', hs, he, hf, hq⟩ := q
    rw [evE] at hf
    obtain ⟨x, S1, e1, hf⟩ := bnd_inv hf
    refine LE.mk hs he e1 fun H1 ρ1 v mm p s1 he1 r1 => ?_
    obtain ⟨ρ2, p2, s2, r2⟩ := fin_ok hs p s1 r1 hf
    exact hq H1 ρ2 v mm p2 s2 r2
  refine ⟨h.1.weakC core, h.2.weakC fun σ H Q q => ?_⟩
  obtain ⟨ρ, env, S, k, S', hs, he, hf, hq⟩ := q
  obtain ⟨d, hf, ht⟩ := tst_inv hf
  rw [evE] at hf
  obtain ⟨x, S1, e1, hf⟩ := bnd_inv hf
  -- the truth of what is let go is the truth ahead of it
  have tt : truth S1 x = some k ∧ ∀ H1 ρ1, Mono H H1 → ρ <+: ρ1 → Sr X.K H1 ρ1 S1 → ∃ ρ2, ρ <+: ρ2 ∧ Sr X.K H1 ρ2 S' := by
    have hf0 := hf
    unfold fin at hf
    split at hf
    · rename_i pr
      simp only at hf
      split at hf
      · rename_i u
        cases hf
        refine ⟨?_, fun H1 ρ1 mm p s1 => ⟨ρ, List.prefix_refl _, hs.cut p s1 pr⟩⟩
        cases d with
        | loc n =>
          have hn : n < S.length := u
          simp only [truth, getL] at ht ⊢
          rw [List.getElem?_take, if_pos hn] at ht
          exact ht
        | _ => exact ht
      · cases x with
        | loc n =>
          simp only at hf
          split at hf
          · rename_i xs e2
            split at hf
            · cases hf
              have e2 : (S1 : Sto)[n]? = some (SO.lst xs) := e2
              have lt : (S1.take S.length).length = S.length := by rw [List.length_take, Nat.min_eq_left pr.1]
              refine ⟨?_, fun H1 ρ1 mm p s1 => ?_⟩
              · simp only [truth, getL] at ht ⊢
                rw [e2]
                rw [List.getElem?_append_right (by rw [lt]; exact Nat.le_refl _), lt] at ht
                simpa using ht
              · obtain ⟨a, ea, _⟩ := s1.at_ n _ e2
                obtain ⟨ρ2, p2, s2, _⟩ := fin_ok (v := .ref a) hs p s1 (show Rp X.K H1 ρ1 (.loc n) (.ref a) from ⟨a, rfl, ea⟩) hf0
                exact ⟨ρ2, p2, s2⟩
            · cases hf
          · cases hf
        | _ => cases hf
    · cases hf
  refine LT.mk hs he (tst_mk e1 tt.1) fun H1 ρ1 mm p s1 he1 => ?_
  obtain ⟨ρ2, p2, s2⟩ := tt.2 H1 ρ1 mm p s1
  exact hq H1 ρ2 mm p2 s2
end
end Cs

set_option Elab.async false
set_option linter.all false
set_option maxRecDepth 100000
namespace Cs
open PySem PySem.Spec PyProof.Rows L2

section
variable {X : Cx} {m : MC} {c : Cfg} {kk : Nat}
theorem Good.blk (G : Good m c kk X) (s : Shared) (H : Hp) (scope : Scope) (cl : List (Str × Addr)) (C : Addr) (fp : List Addr) : Good m c kk (X.blk s H scope (compEnvC scope cl C X.env) fp) :=
  ⟨G.N, G.nd, G.calm, G.room, G.gd, G.mo⟩
theorem blk_fn (s : Shared) (H : Hp) (scope : Scope) (cl : List (Str × Addr)) (C : Addr) (fp : List Addr) : FnC (X.blk s H scope (compEnvC scope cl C X.env) fp) scope := by
  intro x h
  have keep : ∀ k : NameKind, k ≠ .free → scope.names.lookup x = some k → (relS scope X.env.scope).names.lookup x = some k := fun k hk e => lookup_relS_keep hk e
  have h' := isLoc_ok h
  rcases h' with e | e
  · exact ⟨.inl (keep _ (by decide) e), .inr (keep _ (by decide) e)⟩
  · exact ⟨.inr (keep _ (by decide) e), .inl (by show (scope.names.lookup x == some .cell) = true; rw [e]; rfl)⟩
theorem pts_weak {ifs : List Expr} {t t' : TT} (h : PTs X ifs t) (w : ∀ σ H Q, t' σ H Q → t σ H Q) : PTs X ifs t' := ⟨fun pins s σ H Q I q => h.run pins s σ H Q I (w _ _ _ q)⟩
/-- a comprehension's inner loop, walked -/
theorem lcL_walk {K : PySem.W.Frag} {cond : Ev → Sto → Option (Bool × Sto)} {elt : Ev → Sto → Option (D × Sto)} {iw : List D × Watch} {J : It} {t : Tg} {n0 : Nat} {Dd : Addr} {envw : Ev} {σ0 : L2.St} {vs : List Nat} {S0 Sf : Sto} {H1 Hs : Hp} {ρ1 ρs : List Addr} {Qe : Hp → Prop}
    (jok : JOk K H1 ρ1 iw J) (mm : Mono H1 Hs) (pp : ρ1 <+: ρs) (ss : Sr K Hs ρs S0) (he : EnvR K Hs ρs envw (wipe σ0 vs)) (hv : ∀ i ∈ t.slots, i ∈ vs) (ad : ρs[n0]? = some Dd) (hl : lcL cond elt iw.2 t n0 envw iw.1 S0 = some ((), Sf))
    (hq : ∀ H' ρ', Mono Hs H' → ρs <+: ρ' → Sr K H' ρ' Sf → Qe H') :
    ∃ W : Nat → Nat → Hp → Prop, (∃ m, W 0 m Hs) ∧ ∀ i m H, W i m H → (J.stop i H ∧ Qe H) ∨ (J.go i H ∧ ∃ Nx : Hp → Prop, (∀ H', Nx H' → ∃ m', m' < m ∧ W (i + 1) m' H') ∧ ∀ x H', J.yld i H x H' → LG K t x (wipe σ0 vs) H' fun σ2 H2 =>
      wipe σ2 vs = wipe σ0 vs ∧ LT K cond σ2 H2 fun b H3 => if b = true then LE K elt σ2 H3 fun y H4 => ∃ acc, H4 Dd = some (.lst acc) ∧ acc.length < sizeLine ∧ Nx (upd H4 Dd (.lst (acc ++ [y]))) else Nx H3) := by
  refine ⟨fun i m H2 => m = iw.1.length - i ∧ i ≤ iw.1.length ∧ ∃ ρ2 S2, Mono Hs H2 ∧ ρs <+: ρ2 ∧ Sr K H2 ρ2 S2 ∧ lcL cond elt iw.2 t n0 envw (iw.1.drop i) S2 = some ((), Sf),
    ⟨iw.1.length, by simp, Nat.zero_le _, ρs, S0, Mono.refl, List.prefix_refl _, ss, by rw [List.drop_zero]; exact hl⟩, ?_⟩
  rintro i m H2 ⟨rfl, hi, ρ2, S2, m2, p2, s2, hl2⟩
  by_cases hlt : i < iw.1.length
  · rw [List.drop_eq_getElem_cons hlt] at hl2
    unfold lcL at hl2
    split at hl2
    · rename_i stl
      obtain ⟨_, j2⟩ := jok i H2 ρ2 S2 (mm.trans m2) (pp.trans p2) s2 stl
      obtain ⟨go, yl⟩ := j2 iw.1[i] (List.getElem?_eq_getElem hlt)
      split at hl2
      · cases hl2
      · rename_i env1 ha
        obtain ⟨kb, S3, ec, hl3⟩ := bnd_inv hl2
        refine .inr ⟨go, fun H3 => ∃ ρ3 S3, Mono Hs H3 ∧ ρs <+: ρ3 ∧ Sr K H3 ρ3 S3 ∧ lcL cond elt iw.2 t n0 envw (iw.1.drop (i + 1)) S3 = some ((), Sf),
          fun H' ⟨ρ3, S3, a1, a2, a3, a4⟩ => ⟨iw.1.length - (i + 1), by omega, rfl, hlt, ρ3, S3, a1, a2, a3, a4⟩, fun x H3 y => ?_⟩
        obtain ⟨s3, m3, r3⟩ := yl x H3 y
        have e3 : EnvR K H3 ρ2 envw (wipe σ0 vs) := he.mono (m2.trans m3) p2
        refine ⟨ρ2, envw, _, env1, e3, r3, ha, fun σ' l e' w => ⟨by rw [w vs hv, wipe_wipe (fun _ h => h)], ?_⟩⟩
        refine LT.mk s3 e' ec fun H5 ρ5 m5 p5 s5 he5 => ?_
        cases kb with
        | true =>
          simp only [if_true] at hl3 ⊢
          obtain ⟨yd, S4, ey, hl4⟩ := bnd_inv hl3
          split at hl4
          · rename_i acc eg
            split at hl4
            · rename_i hlen
              refine LE.mk s5 he5 ey fun H6 ρ6 v m6 p6 s6 he6 r6 => ?_
              have ad6 : ρ6[n0]? = some Dd := pre_get p6 (pre_get p5 (pre_get p2 ad))
              obtain ⟨b, eb, us, hb, rb⟩ := s6.at_ _ _ (getM_so eg)
              rw [ad6] at eb; cases eb
              obtain ⟨s7, m7⟩ := s6.write (getM_so eg) ad6 (rb.append (RpL.one r6))
              exact ⟨us, hb, by rw [← rb.length]; exact hlen, ρ6, _, (((m2.trans m3).trans m5).trans m6).trans m7, (p2.trans p5).trans p6, s7, hl4⟩
            · cases hl4
          · cases hl4
        | false =>
          exact ⟨ρ5, S3, (m2.trans m3).trans m5, p2.trans p5, s5, hl3⟩
    · cases hl2
  · have ei : i = iw.1.length := by omega
    subst ei
    rw [List.drop_length] at hl2
    unfold lcL at hl2
    split at hl2
    · rename_i stl
      cases hl2
      obtain ⟨j1, _⟩ := jok _ H2 ρ2 _ (mm.trans m2) (pp.trans p2) s2 stl
      exact .inl ⟨j1 rfl, hq H2 ρ2 m2 p2 s2⟩
    · cases hl2
theorem lift_inv {α : Type} {o : Option α} {S S' : Sto} {a : α} (h : lift o S = some (a, S')) : o = some a ∧ S' = S := by
  unfold lift at h
  cases o with
  | none => cases h
  | some b => cases h; exact ⟨rfl, rfl⟩
theorem lc_core' {K : PySem.W.Frag} {k : IK} {es : List E} {t : Tg} {cnd e : E} {σ : L2.St} {H : Hp} {Q : VK} (q : LE K (evE c (.lc t k es cnd e)) σ H Q) :
    tLc (LI K k (evEs c es)) (LG K t) (LTe K (evE c cnd)) (LE K (evE c e)) t.slots σ H Q := by
  obtain ⟨ρ, env, S, d, S', hs, he, hf, hq⟩ := q
  rw [evE] at hf
  obtain ⟨xs, S1, e1, hf1⟩ := bnd_inv hf
  obtain ⟨iw, S1', e2, hf2⟩ := bnd_inv hf1
  obtain ⟨e2, rfl⟩ := lift_inv e2
  obtain ⟨u, Sf, hl, hf3⟩ := bnd_inv hf2
  cases hf3
  refine ⟨ρ, env, S, xs, S1', iw, hs, he, e1, e2, fun H1 ρ1 J mm p s1 he1 jok Dd hD => ?_⟩
  have n1 : Mono H1 (upd H1 Dd (.lst [])) := Mono.new hD
  have pq : ρ1 <+: ρ1 ++ [Dd] := ⟨[Dd], rfl⟩
  have ad : (ρ1 ++ [Dd])[S1'.length]? = some Dd := by rw [← s1.len]; simp
  exact lcL_walk (vs := t.slots) jok n1 pq (s1.newL hD (show RpL _ _ _ [] [] from rfl)) ((he1.mono n1 pq).wipe _) (fun _ h => h) ad hl fun H' ρ' m' p' s' => hq H' ρ' _ (mm.trans (n1.trans m')) (p.trans (pq.trans p')) s' ⟨Dd, rfl, pre_get p' ad⟩
theorem lc2_core' {K : PySem.W.Frag} {k k1 : IK} {es es1 : List E} {t t1 : Tg} {cnd cnd1 e : E} {σ : L2.St} {H : Hp} {Q : VK} (q : LE K (evE c (.lc2 t k es cnd t1 k1 es1 cnd1 e)) σ H Q) :
    tLc2 (LI K k (evEs c es)) (LG K t) (LTe K (evE c cnd)) (LI K k1 (evEs c es1)) (LG K t1) (LTe K (evE c cnd1)) (LE K (evE c e)) (t.slots ++ t1.slots) t1.slots σ H Q := by
  obtain ⟨ρ, env, S, d, S', hs, he, hf, hq⟩ := q
  rw [evE] at hf
  obtain ⟨xs, S1, e1, hf1⟩ := bnd_inv hf
  obtain ⟨iw, S1', e2, hf2⟩ := bnd_inv hf1
  obtain ⟨e2, rfl⟩ := lift_inv e2
  obtain ⟨u, Sf, hl, hf3⟩ := bnd_inv hf2
  cases hf3
  refine ⟨ρ, env, S, xs, S1', iw, hs, he, e1, e2, fun H1 ρ1 J mm p s1 he1 jok Dd hD => ?_⟩
  have n1 : Mono H1 (upd H1 Dd (.lst [])) := Mono.new hD
  have pq : ρ1 <+: ρ1 ++ [Dd] := ⟨[Dd], rfl⟩
  have ad : (ρ1 ++ [Dd])[S1'.length]? = some Dd := by rw [← s1.len]; simp
  generalize hin : (fun (env1 : Ev) (S2 : Sto) => bnd (evEs c es1 env1 S2) fun ys S3 => bnd (lift (items k1 ys S3) S3) fun iw1 S3 => lcL (fun env S => tst (evE c cnd1 env S)) (evE c e) iw1.2 t1 S1'.length (wipeE env1 t1.slots) iw1.1 S3) = inner at hl
  refine ⟨fun i m H2 => m = iw.1.length - i ∧ i ≤ iw.1.length ∧ ∃ ρ2 S2, Mono (upd H1 Dd (.lst [])) H2 ∧ (ρ1 ++ [Dd]) <+: ρ2 ∧ Sr K H2 ρ2 S2 ∧
      lc2L (fun env S => tst (evE c cnd env S)) inner iw.2 t (wipeE env (t.slots ++ t1.slots)) (iw.1.drop i) S2 = some ((), S'),
    ⟨iw.1.length, by simp, Nat.zero_le _, ρ1 ++ [Dd], S1' ++ [.lst []], Mono.refl, List.prefix_refl _, s1.newL hD (show RpL _ _ _ [] [] from rfl), by rw [List.drop_zero]; exact hl⟩, ?_⟩
  rintro i m H2 ⟨rfl, hi, ρ2, S2, m2, p2, s2, hl2⟩
  have pr1 : ρ1 <+: ρ2 := pq.trans p2
  by_cases hlt : i < iw.1.length
  · rw [List.drop_eq_getElem_cons hlt] at hl2
    unfold lc2L at hl2
    split at hl2
    · rename_i stl
      obtain ⟨_, j2⟩ := jok i H2 ρ2 S2 (n1.trans m2) pr1 s2 stl
      obtain ⟨go, yl⟩ := j2 iw.1[i] (List.getElem?_eq_getElem hlt)
      split at hl2
      · cases hl2
      · rename_i env1 ha
        obtain ⟨kb, S3, ec, hl3⟩ := bnd_inv hl2
        refine .inr ⟨go, fun H3 => ∃ ρ3 S3, Mono (upd H1 Dd (.lst [])) H3 ∧ (ρ1 ++ [Dd]) <+: ρ3 ∧ Sr K H3 ρ3 S3 ∧
          lc2L (fun env S => tst (evE c cnd env S)) inner iw.2 t (wipeE env (t.slots ++ t1.slots)) (iw.1.drop (i + 1)) S3 = some ((), S'),
          fun H' ⟨ρ3, S3, a1, a2, a3, a4⟩ => ⟨iw.1.length - (i + 1), by omega, rfl, hlt, ρ3, S3, a1, a2, a3, a4⟩, fun x H3 y => ?_⟩
        obtain ⟨s3, m3, r3⟩ := yl x H3 y
        have e3 : EnvR K H3 ρ2 env σ := he1.mono ((n1.trans m2).trans m3) pr1
        refine ⟨ρ2, wipeE env (t.slots ++ t1.slots), _, env1, e3.wipe _, r3, ha, fun σ' l e' w => ⟨by rw [w _ (fun i hi => List.mem_append_left _ hi), wipe_wipe (fun _ h => h)], ?_⟩⟩
        refine LT.mk s3 e' ec fun H5 ρ5 m5 p5 s5 he5 => ?_
        cases kb with
        | true =>
          simp only [if_true] at hl3 ⊢
          obtain ⟨_, S4, ey, hl4⟩ := bnd_inv hl3
          rw [← hin] at ey
          obtain ⟨ys, S6, e6, ey1⟩ := bnd_inv ey
          obtain ⟨iw1, S6', e7, ey2⟩ := bnd_inv ey1
          obtain ⟨e7, rfl⟩ := lift_inv e7
          refine ⟨ρ5, env1, S3, ys, S6', iw1, s5, he5, e6, e7, fun H7 ρ7 J1 m7 p7 s7 he7 jok1 => ?_⟩
          have ad7 : ρ7[S1'.length]? = some Dd := pre_get p7 (pre_get p5 (pre_get p2 ad))
          refine lcL_walk (vs := t1.slots) jok1 Mono.refl (List.prefix_refl _) s7 (he7.wipe _) (fun _ h => h) ad7 ey2 fun H' ρ' m' p' s' => ?_
          exact ⟨ρ', S4, (((m2.trans m3).trans m5).trans m7).trans m', ((p2.trans p5).trans p7).trans p', s', hl4⟩
        | false =>
          exact ⟨ρ5, S3, (m2.trans m3).trans m5, p2.trans p5, s5, hl3⟩
    · cases hl2
  · have ei : i = iw.1.length := by omega
    subst ei
    rw [List.drop_length] at hl2
    unfold lc2L at hl2
    split at hl2
    · rename_i stl
      cases hl2
      obtain ⟨j1, _⟩ := jok _ H2 ρ2 S' (n1.trans m2) pr1 s2 stl
      exact .inl ⟨j1 rfl, hq H2 ρ2 _ (mm.trans (n1.trans m2)) (p.trans pr1) s2 ⟨Dd, rfl, pre_get p2 ad⟩⟩
    · cases hl2
theorem b_lc {t : Tg} {k : IK} {es : List E} {cnd e : E} {tg it elt : Expr} {ifs : List Expr} {scope : Scope} {p : Pos} (G : Good m c kk X) (hi : PI X tg it (LI X.K k (evEs c es))) (hs : ∀ x, foldedSetIterable it X.env x = pure x)
    (ok : blkC m.N X.env.scope scope (t.slots.map fun i => (m.N.getD i default, i)) = true) (htg : mTg m.N scope t tg = true)
    (ht : ∀ X' : Cx, Good m c kk X' → X'.env.scope = relS scope X.env.scope → X'.K = X.K → PTs X' ifs (LTe X.K (evE c cnd)))
    (he : ∀ X' : Cx, Good m c kk X' → X'.env.scope = relS scope X.env.scope → X'.K = X.K → PE X' elt (LE X.K (evE c e))) : Both X (.ListComp elt [⟨tg, it, ifs, 0⟩] scope p) (evE c (.lc t k es cnd e)) := by
  have own : (t.slots.map fun i => (m.N.getD i default, i)).map (·.2) = t.slots := by
    rw [List.map_map]
    show t.slots.map (fun i => i) = _
    simp
  have pe : PE X (.ListComp elt [⟨tg, it, ifs, 0⟩] scope p) (LE X.K (evE c (.lc t k es cnd e))) := by
    refine (pe_lc (own := t.slots.map fun i => (m.N.getD i default, i)) (g := LG X.K t) (tt := LTe X.K (evE c cnd)) (te := LE X.K (evE c e)) G.calm (by rw [G.N]; exact G.nd) hi (blkOk_by (by rw [G.N]; exact ok))
      (fun s H C cl fp => ?_) (fun s H C cl fp => ht _ (G.blk s H scope cl C fp) rfl rfl) (fun s H C cl fp => he _ (G.blk s H scope cl C fp) rfl rfl) hs).weakC fun σ H Q q => ?_
    · exact pg_tg (X := X.blk s H scope (compEnvC scope cl C X.env) fp) G.N G.nd G.calm (blk_fn s H scope cl C fp) htg
    · rw [own]
      exact lc_core' q
  exact ⟨pe, pt_of pe fun _ => rfl⟩
theorem own_of {is : List Nat} : (is.map fun i => (m.N.getD i default, i)).map (·.2) = is := by
  rw [List.map_map]
  show is.map (fun i => i) = _
  simp
theorem b_lc2 {t t1 : Tg} {k k1 : IK} {es es1 : List E} {cnd cnd1 e : E} {tg it tg1 it1 elt : Expr} {ifs ifs1 : List Expr} {scope : Scope} {p : Pos} (G : Good m c kk X) (hi : PI X tg it (LI X.K k (evEs c es))) (hs : ∀ x, foldedSetIterable it X.env x = pure x)
    (hs1 : ∀ env x, foldedSetIterable it1 env x = pure x) (ok : blkC m.N X.env.scope scope ((t.slots ++ t1.slots).map fun i => (m.N.getD i default, i)) = true) (htg : mTg m.N scope t tg = true) (htg1 : mTg m.N scope t1 tg1 = true)
    (hi1 : ∀ X' : Cx, Good m c kk X' → X'.env.scope = relS scope X.env.scope → X'.K = X.K → PI X' tg1 it1 (LI X.K k1 (evEs c es1)))
    (ht : ∀ X' : Cx, Good m c kk X' → X'.env.scope = relS scope X.env.scope → X'.K = X.K → PTs X' ifs (LTe X.K (evE c cnd)))
    (ht1 : ∀ X' : Cx, Good m c kk X' → X'.env.scope = relS scope X.env.scope → X'.K = X.K → PTs X' ifs1 (LTe X.K (evE c cnd1)))
    (he : ∀ X' : Cx, Good m c kk X' → X'.env.scope = relS scope X.env.scope → X'.K = X.K → PE X' elt (LE X.K (evE c e))) : Both X (.ListComp elt [⟨tg, it, ifs, 0⟩, ⟨tg1, it1, ifs1, 0⟩] scope p) (evE c (.lc2 t k es cnd t1 k1 es1 cnd1 e)) := by
  have pe : PE X (.ListComp elt [⟨tg, it, ifs, 0⟩, ⟨tg1, it1, ifs1, 0⟩] scope p) (LE X.K (evE c (.lc2 t k es cnd t1 k1 es1 cnd1 e))) := by
    refine (pe_lc2 (own := (t.slots ++ t1.slots).map fun i => (m.N.getD i default, i)) (vs1 := t1.slots) (g := LG X.K t) (g1 := LG X.K t1) (tt := LTe X.K (evE c cnd)) (tt1 := LTe X.K (evE c cnd1)) (te := LE X.K (evE c e)) (wi1 := LI X.K k1 (evEs c es1)) G.calm (by rw [G.N]; exact G.nd) hi (blkOk_by (by rw [G.N]; exact ok)) (fun i h => by rw [own_of]; exact List.mem_append_right _ h)
      (fun s H C cl fp => pg_tg (X := X.blk s H scope (compEnvC scope cl C X.env) fp) G.N G.nd G.calm (blk_fn s H scope cl C fp) htg) (fun s H C cl fp => ht _ (G.blk s H scope cl C fp) rfl rfl) (fun s H C cl fp => hi1 _ (G.blk s H scope cl C fp) rfl rfl)
      (fun s H C cl fp => pg_tg (X := X.blk s H scope (compEnvC scope cl C X.env) fp) G.N G.nd G.calm (blk_fn s H scope cl C fp) htg1) (fun s H C cl fp => ht1 _ (G.blk s H scope cl C fp) rfl rfl) (fun s H C cl fp => he _ (G.blk s H scope cl C fp) rfl rfl) hs hs1).weakC fun σ H Q q => ?_
    rw [own_of]
    exact lc2_core' q
  exact ⟨pe, pt_of pe fun _ => rfl⟩
theorem evEs_len : ∀ {es : List E} {env : Ev} {S : Sto} {xs : List D} {S' : Sto}, evEs c es env S = some (xs, S') → xs.length = es.length
  | [], _, _, _, _, h => by rw [evEs] at h; cases h; rfl
  | e :: es, env, S, xs, S', h => by
    rw [evEs] at h
    obtain ⟨x, S1, _, h⟩ := bnd_inv h
    obtain ⟨ys, S2, h2, h⟩ := bnd_inv h
    cases h
    simp [evEs_len h2]
theorem mEs_len {sc : Scope} : ∀ {es : List E} {es' : List Expr}, mEs m sc es es' = true → es.length = es'.length
  | [], [], _ => rfl
  | [], _ :: _, h => by simp [mEs] at h
  | _ :: _, [], h => by simp [mEs] at h
  | e :: es, e' :: es', h => by
    rw [mEs, Bool.and_eq_true] at h
    simp [mEs_len h.2]
theorem pa_nil' : PA X [] (LA X.K (evEs c [])) := pa_nil.weakC fun σ H Q q => by
  obtain ⟨ρ, env, S, ds, S', hs, he, hf, hq⟩ := q
  rw [evEs] at hf
  cases hf
  exact hq H ρ [] Mono.refl (List.prefix_refl _) hs rfl
theorem pa_cons' {e : E} {es : List E} {e' : Expr} {es' : List Expr} (h1 : PE X e' (LE X.K (evE c e))) (h2 : PA X es' (LA X.K (evEs c es))) (hs : starEach (e' :: es') X.env = (false, eval e' X.env) :: starEach es' X.env) : PA X (e' :: es') (LA X.K (evEs c (e :: es))) :=
  (pa_cons h1 h2 hs).weakC fun σ H Q q => by
    obtain ⟨ρ, env, S, ds, S', hs, he, hf, hq⟩ := q
    rw [evEs] at hf
    obtain ⟨x, S1, e1, hf⟩ := bnd_inv hf
    obtain ⟨ys, S2, e2, hf⟩ := bnd_inv hf
    cases hf
    exact LE.mk hs he e1 fun H1 ρ1 v mm p s1 he1 r1 => LA.mk s1 he1 e2 fun H2 ρ2 vs m2 p2 s2 he2 r2 => hq H2 ρ2 (v :: vs) (mm.trans m2) (p.trans p2) s2 ⟨v, vs, rfl, r1.mono m2 p2 _ _, r2⟩
theorem mE_set {sc : Scope} {l : List Expr} {n : Nat} {p : Pos} : ∀ e : E, mE m sc e (.Set l n p) = false
  | .tr e => by rw [mE]; exact mE_set e
  | .var _ | .cn _ | .glb _ | .bin .. | .neg _ | .cmp .. | .isN _ | .notN _ | .isB .. | .isi .. | .nt _ | .and .. | .or .. | .ife .. | .tup _ | .lst _ | .idx .. | .slc .. | .call .. | .blt .. | .mth .. | .lc .. | .lc2 .. => by simp [mE]
theorem fold_of {sc : Scope} {es : List E} {es' : List Expr} {k : IK} {it : Expr} {env : Env} (h : itX sc k it = some es') (hm : mEs m sc es es' = true) : ∀ x, foldedSetIterable it env x = pure x := by
  intro x
  cases it with
  | Set elts n p =>
    exfalso
    cases k with
    | seq =>
      cases h
      match es, hm with
      | [e], hm =>
        rw [mEs, Bool.and_eq_true] at hm
        rw [mE_set] at hm
        exact absurd hm.1 (by decide)
      | [], hm => simp [mEs] at hm
      | _ :: _ :: _, hm => simp [mEs] at hm
    | _ => cases h
  | _ => rfl
theorem isTrueE_ok {e : E} (h : isTrueE e = true) : e = .cn (.bl true) := by
  unfold isTrueE at h
  split at h
  · rfl
  · cases h
theorem stars_tl {e : Expr} {es : List Expr} {env : Env} (h : starEach (e :: es) env = (e :: es).map fun e => (false, eval e env)) : starEach es env = es.map fun e => (false, eval e env) := by
  cases e with
  | Starred x p =>
    have h2 : ((true, eval x env) :: starEach es env) = (false, eval (.Starred x p) env) :: es.map fun e => (false, eval e env) := h
    simp at h2
  | _ => exact (List.cons.inj h).2
theorem mE_isN {sc : Scope} {a : E} {e' : Expr} (h : mE m sc (.isN a) e' = true) : ∃ a' n p p2, e' = .Compare a' [.Is] [.Constant .none n p] p2 ∧ mE m sc a a' = true := by
  unfold mE at h
  split at h
  all_goals first | (cases h; done) | (cases ‹E.isN _ = _›; done) | (cases ‹E.isN _ = _›; exact ⟨_, _, _, _, rfl, h⟩)
theorem mE_notN {sc : Scope} {a : E} {e' : Expr} (h : mE m sc (.notN a) e' = true) : ∃ a' n p p2, e' = .Compare a' [.IsNot] [.Constant .none n p] p2 ∧ mE m sc a a' = true := by
  unfold mE at h
  split at h
  all_goals first | (cases h; done) | (cases ‹E.notN _ = _›; done) | (cases ‹E.notN _ = _›; exact ⟨_, _, _, _, rfl, h⟩)
theorem mE_isB {sc : Scope} {a : E} {b : Bool} {e' : Expr} (h : mE m sc (.isB a b) e' = true) : ∃ a' n p p2, e' = .Compare a' [.Is] [.Constant (.bool b) n p] p2 ∧ mE m sc a a' = true := by
  unfold mE at h
  split at h
  all_goals first | (cases h; done) | (cases ‹E.isB _ _ = _›; done) | (cases ‹E.isB _ _ = _›; rw [Bool.and_eq_true] at h; have e := eq_of_beq h.2; subst e; exact ⟨_, _, _, _, rfl, h.1⟩)
theorem mE_slc {sc : Scope} {a lo hi : E} {e' : Expr} (h : mE m sc (.slc a lo hi) e' = true) : ∃ a' l' h' p p2, e' = .Subscript a' (.Slice l' h' none p2) p ∧ mE m sc a a' = true ∧
    (match l' with | none => isNonE lo = true | some l => mE m sc lo l = true ∧ isNonE lo = false) ∧ (match h' with | none => isNonE hi = true | some l => mE m sc hi l = true ∧ isNonE hi = false) := by
  unfold mE at h
  split at h
  all_goals first | (cases h; done) | (cases ‹E.slc _ _ _ = _›; done) | skip
  cases ‹E.slc _ _ _ = _›
  rename_i a' l' h' p2 p
  rw [Bool.and_eq_true, Bool.and_eq_true] at h
  refine ⟨_, l', h', _, _, rfl, h.1.1, ?_, ?_⟩
  · have := h.1.2
    cases l' with
    | none => exact this
    | some l => simpa using this
  · have := h.2
    cases h' with
    | none => exact this
    | some l => simpa using this
theorem mE_call {sc : Scope} {f : String} {es : List E} {e' : Expr} (h : mE m sc (.call f es) e' = true) : ∃ e1 es' p p2, e' = .Call (.Name (Str.ofString f) p) (e1 :: es') [] p2 ∧ f ∈ m.fs ∧ isGl sc (Str.ofString f) = true ∧ nd (Str.ofString f) = true ∧ mEs m sc es (e1 :: es') = true := by
  unfold mE at h
  split at h
  all_goals first | (cases h; done) | (cases ‹E.call _ _ = _›; done) | skip
  cases ‹E.call _ _ = _›
  simp only [Bool.and_eq_true, decide_eq_true_eq] at h
  obtain ⟨⟨⟨⟨⟨rfl, h1⟩, h2⟩, h3⟩, h4⟩, h5⟩ := h
  rename_i es' p
  have hl := mEs_len h4
  cases es' with
  | nil => simp at hl; rw [hl] at h5; cases h5
  | cons e1 r => exact ⟨e1, r, _, _, rfl, by simpa using h1, h2, h3, h4⟩
theorem mE_blt {sc : Scope} {f : String} {es : List E} {e' : Expr} (h : mE m sc (.blt f es) e' = true) : ∃ e1 es' p p2, e' = .Call (.Name (Str.ofString f) p) (e1 :: es') [] p2 ∧ (f ∈ bltFns ∨ f ∈ bltTys) ∧ isGl sc (Str.ofString f) = true ∧ nd (Str.ofString f) = true ∧ mEs m sc es (e1 :: es') = true := by
  unfold mE at h
  split at h
  all_goals first | (cases h; done) | (cases ‹E.blt _ _ = _›; done) | skip
  cases ‹E.blt _ _ = _›
  simp only [Bool.and_eq_true, decide_eq_true_eq, Bool.or_eq_true] at h
  obtain ⟨⟨⟨⟨⟨rfl, h1⟩, h2⟩, h3⟩, h4⟩, h5⟩ := h
  rename_i es' p
  have hl := mEs_len h4
  cases es' with
  | nil => simp at hl; rw [hl] at h5; cases h5
  | cons e1 r => exact ⟨e1, r, _, _, rfl, by simpa using h1, h2, h3, h4⟩
theorem mE_mth {sc : Scope} {f : String} {o : E} {es : List E} {e' : Expr} (h : mE m sc (.mth f o es) e' = true) : ∃ o' e1 es' ap cp, e' = .Call (.Attribute o' (Str.ofString f) ap) (e1 :: es') [] cp ∧ f ∈ mthFns ∧ mE m sc o o' = true ∧ simpleO o = true ∧ mEs m sc es (e1 :: es') = true ∧ es.length < 29 ∧ lineOk ap cp = true := by
  unfold mE at h
  split at h
  all_goals first | (cases h; done) | (cases ‹E.mth _ _ _ = _›; done) | skip
  cases ‹E.mth _ _ _ = _›
  simp only [Bool.and_eq_true, decide_eq_true_eq] at h
  obtain ⟨⟨⟨⟨⟨⟨⟨rfl, h1⟩, h2⟩, h3⟩, h4⟩, h5⟩, h6⟩, h7⟩ := h
  rename_i es' p
  have hl := mEs_len h4
  cases es' with
  | nil => simp at hl; rw [hl] at h5; cases h5
  | cons e1 r => exact ⟨_, e1, r, _, _, rfl, by simpa using h1, h2, h3, h4, h6, h7⟩
theorem mE_isi {sc : Scope} {a : E} {T : String} {e' : Expr} (h : mE m sc (.isi a T) e' = true) : ∃ a' p p2 p3, e' = .Call (.Name (Str.ofString "isinstance") p) [a', .Name (Str.ofString T) p2] [] p3 ∧ T ∈ isiTys ∧ isGl sc (Str.ofString "isinstance") = true ∧ isGl sc (Str.ofString T) = true ∧ nd (Str.ofString T) = true ∧ mE m sc a a' = true := by
  unfold mE at h
  split at h
  all_goals first | (cases h; done) | (cases ‹E.isi _ _ = _›; done) | skip
  cases ‹E.isi _ _ = _›
  simp only [Bool.and_eq_true, decide_eq_true_eq] at h
  obtain ⟨⟨⟨⟨⟨⟨rfl, rfl⟩, h1⟩, h2⟩, h3⟩, h4⟩, h5⟩ := h
  exact ⟨_, _, _, _, rfl, by simpa using h1, h2, h3, h4, h5⟩
theorem mE_lc2 {sc : Scope} {t t1 : Tg} {k k1 : IK} {es es1 : List E} {c c1 e : E} {e' : Expr} (h : mE m sc (.lc2 t k es c t1 k1 es1 c1 e) e' = true) : ∃ elt tg it ifs tg1 it1 ifs1 scope p es' es1', e' = .ListComp elt [⟨tg, it, ifs, 0⟩, ⟨tg1, it1, ifs1, 0⟩] scope p ∧ mTg m.N scope t tg = true ∧ mTg m.N scope t1 tg1 = true ∧
    itX sc k it = some es' ∧ mEs m sc es es' = true ∧ itX (relS scope sc) k1 it1 = some es1' ∧ mEs m (relS scope sc) es1 es1' = true ∧
    (match ifs with | [] => isTrueE c = true | [i] => mE m (relS scope sc) c i = true | _ => False) ∧ (match ifs1 with | [] => isTrueE c1 = true | [i] => mE m (relS scope sc) c1 i = true | _ => False) ∧ mE m (relS scope sc) e elt = true ∧ blkC m.N sc scope ((t.slots ++ t1.slots).map fun i => (m.N.getD i default, i)) = true := by
  unfold mE at h
  split at h
  all_goals first | (cases h; done) | (cases ‹E.lc2 _ _ _ _ _ _ _ _ _ = _›; done) | skip
  cases ‹E.lc2 _ _ _ _ _ _ _ _ _ = _›
  simp only [Bool.and_eq_true] at h
  obtain ⟨⟨⟨⟨⟨⟨⟨⟨⟨h1, h2⟩, h3⟩, h4⟩, h5⟩, h6⟩, h7⟩, h8⟩, h9⟩, h10⟩ := h
  have e0 := eq_of_beq h8
  have e1 := eq_of_beq h9
  subst e0 e1
  split at h3
  · rename_i es' hx
    split at h4
    · rename_i es1' hx1
      refine ⟨_, _, _, _, _, _, _, _, _, es', es1', rfl, h1, h2, hx, h3, hx1, h4, ?_, ?_, h7, h10⟩
      · split at h5
        · exact h5
        · exact h5
        · cases h5
      · split at h6
        · exact h6
        · exact h6
        · cases h6
    · cases h4
  · cases h3
theorem mE_lc {sc : Scope} {t : Tg} {k : IK} {es : List E} {c e : E} {e' : Expr} (h : mE m sc (.lc t k es c e) e' = true) : ∃ elt tg it ifs scope p es', e' = .ListComp elt [⟨tg, it, ifs, 0⟩] scope p ∧ mTg m.N scope t tg = true ∧ itX sc k it = some es' ∧ mEs m sc es es' = true ∧
    (match ifs with | [] => isTrueE c = true | [i] => mE m (relS scope sc) c i = true | _ => False) ∧ mE m (relS scope sc) e elt = true ∧ blkC m.N sc scope (t.slots.map fun i => (m.N.getD i default, i)) = true := by
  unfold mE at h
  split at h
  all_goals first | (cases h; done) | (cases ‹E.lc _ _ _ _ _ = _›; done) | skip
  cases ‹E.lc _ _ _ _ _ = _›
  simp only [Bool.and_eq_true] at h
  obtain ⟨⟨⟨⟨⟨h1, h2⟩, h3⟩, h4⟩, h5⟩, h6⟩ := h
  have e0 := eq_of_beq h5
  subst e0
  split at h2
  · rename_i es' hx
    refine ⟨_, _, _, _, _, _, es', rfl, h1, hx, h2, ?_, h4, h6⟩
    split at h3
    · exact h3
    · exact h3
    · cases h3
  · cases h2
/-- the arguments of what is walked -/
theorem pi_es {k : IK} {es : List E} {tg it : Expr} {es' : List Expr} (G : Good m c kk X) (h2 : itX X.env.scope k it = some es') (h3 : mEs m X.env.scope es es' = true) (pa : PA X es' (LA X.K (evEs c es))) (one : ∀ e0 e', es = [e0] → es' = [e'] → PE X e' (LE X.K (evE c e0))) : PI X tg it (LI X.K k (evEs c es)) := by
  have st := stars_of (env := X.env) h3
  refine pi_of G h2 pa (fun e' z => ?_) st (fun a b z => ?_) (fun env S xs S' z => by rw [evEs_len z, mEs_len h3])
  · subst z
    match es, h3 with
    | [e0], h3 =>
      refine ⟨evE c e0, one e0 e' rfl rfl, fun env S => ?_⟩
      rw [evEs]
      rfl
    | [], h3 => simp [mEs] at h3
    | _ :: _ :: _, h3 => simp [mEs] at h3
  · subst z
    exact stars_tl st
theorem pts_of {cnd : E} {ifs : List Expr} (h : match ifs with | [] => isTrueE cnd = true | [i] => PT X i (LTe X.K (evE c cnd)) | _ => False) : PTs X ifs (LTe X.K (evE c cnd)) := by
  match ifs, h with
  | [], h4 =>
    refine pts_weak pts_nil fun σ H Q q => ?_
    obtain ⟨ρ, env, S, k, S', hs, he, hf, hq⟩ := q
    have hc : cnd = .cn (.bl true) := isTrueE_ok h4
    subst hc
    have hf : tst (evE c (.cn (.bl true)) env S) = some (k, S') := hf
    rw [evE] at hf
    cases hf
    exact hq H ρ Mono.refl (List.prefix_refl _) hs
  | [i], h4 => exact pts_one h4
mutual
theorem sE (c : Cfg) (m : MC) (kk : Nat) : ∀ (e : E) (X : Cx) (e' : Expr), Good m c kk X → mE m X.env.scope e e' = true → Both X e' (evE c e)
  | .var i, X, e', G, h => by
    cases e' <;> first | (simp [mE] at h; done) | skip
    exact b_var G h
  | .cn k, X, e', G, h => by
    cases e' <;> first | (simp [mE] at h; done) | skip
    exact b_cn (by simpa [mE] using h)
  | .glb g, X, e', G, h => by
    cases e' <;> first | (simp [mE] at h; done) | skip
    exact b_glb G h
  | .bin op a b, X, e', G, h => by
    cases e' <;> first | (simp [mE] at h; done) | skip
    rw [mE, Bool.and_eq_true, Bool.and_eq_true] at h
    exact b_bin h.1.1 (sE c m kk a X _ G h.1.2).1 (sE c m kk b X _ G h.2).1
  | .neg a, X, e', G, h => by
    cases e' with
    | UnaryOp op a' p =>
      cases op with
      | USub => exact b_neg (sE c m kk a X _ G (by simpa [mE] using h)).1
      | _ => simp [mE] at h
    | _ => simp [mE] at h
  | .cmp op a b, X, e', G, h => by
    cases e' with
    | Compare l ops cs p =>
      match ops, cs, h with
      | [o], [b'], h =>
        simp only [mE, Bool.and_eq_true, Bool.not_eq_true'] at h
        exact b_cmp G h.1.1.1 h.2 (sE c m kk a X _ G h.1.1.2).1 (sE c m kk b X _ G h.1.2).1
      | [], _, h => simp [mE] at h
      | [_], [], h => simp [mE] at h
      | [_], _ :: _ :: _, h => simp [mE] at h
      | _ :: _ :: _, _, h => simp [mE] at h
    | _ => simp [mE] at h
  | .isN a, X, e', G, h => by
    obtain ⟨a', n, p, p2, rfl, h2⟩ := mE_isN h
    exact b_isN (sE c m kk a X _ G h2).1
  | .notN a, X, e', G, h => by
    obtain ⟨a', n, p, p2, rfl, h2⟩ := mE_notN h
    exact b_notN (sE c m kk a X _ G h2).1
  | .isB a b, X, e', G, h => by
    obtain ⟨a', n, p, p2, rfl, h2⟩ := mE_isB h
    exact b_isB (sE c m kk a X _ G h2).1
  | .nt a, X, e', G, h => by
    cases e' with
    | UnaryOp op a' p =>
      cases op with
      | Not => exact b_nt (sE c m kk a X _ G (by simpa [mE] using h))
      | _ => simp [mE] at h
    | _ => simp [mE] at h
  | .and a b, X, e', G, h => by
    cases e' with
    | BoolOp op vs p =>
      cases op with
      | Or => simp [mE] at h
      | And =>
        match vs, h with
        | [a', b'], h =>
          simp only [mE, Bool.and_eq_true] at h
          obtain ⟨i1, i2⟩ := sE c m kk b X _ G h.2
          exact b_and (sE c m kk a X _ G h.1) (pe_one i1) (pw_and1 i2)
        | a' :: b' :: d' :: r, h =>
          simp only [mE, Bool.and_eq_true] at h
          obtain ⟨i1, i2⟩ := sE c m kk b X _ G h.2
          exact b_and (sE c m kk a X _ G h.1) i1 (pw_of_pt i2)
        | [], h => simp [mE] at h
        | [_], h => simp [mE] at h
    | _ => simp [mE] at h
  | .or a b, X, e', G, h => by
    cases e' with
    | BoolOp op vs p =>
      cases op with
      | And => simp [mE] at h
      | Or =>
        match vs, h with
        | [a', b'], h =>
          simp only [mE, Bool.and_eq_true] at h
          obtain ⟨i1, i2⟩ := sE c m kk b X _ G h.2
          exact b_or (sE c m kk a X _ G h.1) (pe_one i1) (pw_or1 i2)
        | a' :: b' :: d' :: r, h =>
          simp only [mE, Bool.and_eq_true] at h
          obtain ⟨i1, i2⟩ := sE c m kk b X _ G h.2
          exact b_or (sE c m kk a X _ G h.1) i1 (pw_of_pt i2)
        | [], h => simp [mE] at h
        | [_], h => simp [mE] at h
    | _ => simp [mE] at h
  | .ife t a b, X, e', G, h => by
    cases e' with
    | IfExp t' a' b' p =>
      simp only [mE, Bool.and_eq_true] at h
      exact b_ife (sE c m kk t X _ G h.1.1).2 (sE c m kk a X _ G h.1.2) (sE c m kk b X _ G h.2)
    | _ => simp [mE] at h
  | .tup es, X, e', G, h => by
    cases e' with
    | Tuple es' n p =>
      simp only [mE, Bool.and_eq_true, decide_eq_true_eq] at h
      exact b_tup (sEs c m kk es X _ G h.1) (fun _ _ _ _ => evEs_len) h.2
    | _ => simp [mE] at h
  | .lst es, X, e', G, h => by
    cases e' with
    | List es' p =>
      simp only [mE, Bool.and_eq_true, decide_eq_true_eq] at h
      exact b_lst (sEs c m kk es X _ G h.1) (fun _ _ _ _ => evEs_len) h.2
    | _ => simp [mE] at h
  | .idx a i, X, e', G, h => by
    cases e' with
    | Subscript a' i' p =>
      simp only [mE, Bool.and_eq_true] at h
      exact b_idx (sE c m kk a X _ G h.1).1 (sE c m kk i X _ G h.2).1 (plainIx_of h.2)
    | _ => simp [mE] at h
  | .slc a lo hi, X, e', G, h => by
    obtain ⟨a', l', h', p, p2, rfl, h1, h2, h3⟩ := mE_slc h
    refine b_slc (sE c m kk a X _ G h1).1 (po_of ?_) (po_of ?_)
    · cases l' with
      | none => exact h2
      | some l => exact ⟨(sE c m kk lo X _ G h2.1).1, h2.2⟩
    · cases h' with
      | none => exact h3
      | some l => exact ⟨(sE c m kk hi X _ G h3.1).1, h3.2⟩
  | .call f es, X, e', G, h => by
    obtain ⟨e1, es', p, p2, rfl, h1, h2, h3, h4⟩ := mE_call h
    have st := stars_of (env := X.env) h4
    have st2 := stars_tl st
    exact b_call G h1 h2 h3 (sEs c m kk es X _ G h4) (by rw [st, st2]; rfl) (plain_of st2)
  | .blt f es, X, e', G, h => by
    obtain ⟨e1, es', p, p2, rfl, h1, h2, h3, h4⟩ := mE_blt h
    have st := stars_of (env := X.env) h4
    have st2 := stars_tl st
    exact b_blt G h1 h2 h3 (sEs c m kk es X _ G h4) (by rw [st, st2]; rfl) (plain_of st2)
  | .mth f o es, X, e', G, h => by
    obtain ⟨o', e1, es', p, p2, rfl, h1, h2, h3, h4, h5, h6⟩ := mE_mth h
    have st := stars_of (env := X.env) h4
    exact b_mth (sc := X.env.scope) (p := p) (by have := G.room.un; omega) h1 (sE c m kk o X _ G h2).1 (sEs c m kk es X _ G h4) (base_of h2 h3) st (stars_tl st) h6 (by rw [← mEs_len h4]; exact h5)
  | .isi a T, X, e', G, h => by
    obtain ⟨a', p, p2, p3, rfl, h1, h2, h3, h4, h5⟩ := mE_isi h
    exact b_isi G h1 h2 h3 h4 (sE c m kk a X _ G h5).1 (star_of h5)
  | .lc t k es cnd e, X, e', G, h => by
    obtain ⟨elt, tg, it, ifs, scope, p, es', rfl, h1, h2, h3, h4, h5, h6⟩ := mE_lc h
    refine b_lc G (pi_es G h2 h3 (sEs c m kk es X _ G h3) fun e0 e' z z' => ?_) (fold_of h2 h3) h6 h1 (fun X' G' hs hK => ?_) (fun X' G' hs hK => ?_)
    · match es, h3, z with
      | [e1], h3, z =>
        rw [← (List.cons.inj z).1]
        subst z'
        simp only [mEs, Bool.and_eq_true] at h3
        exact (sE c m kk e1 X _ G h3.1).1
    · rw [← hK]
      refine pts_of ?_
      match ifs, h4 with
      | [], h4 => exact h4
      | [i], h4 => exact (sE c m kk cnd X' _ G' (by rw [hs]; exact h4)).2
    · rw [← hK]
      exact (sE c m kk e X' _ G' (by rw [hs]; exact h5)).1
  | .lc2 t k es cnd t1 k1 es1 cnd1 e, X, e', G, h => by
    obtain ⟨elt, tg, it, ifs, tg1, it1, ifs1, scope, p, es', es1', rfl, h1, h2, h3, h4, h5, h6, h7, h8, h9, h10⟩ := mE_lc2 h
    refine b_lc2 G (pi_es G h3 h4 (sEs c m kk es X _ G h4) fun e0 e' z z' => ?_) (fold_of h3 h4) (fun env => fold_of h5 h6) h10 h1 h2 (fun X' G' hs hK => ?_) (fun X' G' hs hK => ?_) (fun X' G' hs hK => ?_) (fun X' G' hs hK => ?_)
    · match es, h4, z with
      | [e1], h4, z =>
        rw [← (List.cons.inj z).1]
        subst z'
        simp only [mEs, Bool.and_eq_true] at h4
        exact (sE c m kk e1 X _ G h4.1).1
    · rw [← hK]
      have pa := sEs c m kk es1 X' _ G' (by rw [hs]; exact h6)
      refine pi_es G' (by rw [hs]; exact h5) (by rw [hs]; exact h6) pa fun e0 e' z z' => ?_
      match es1, h6, z with
      | [e1], h6, z =>
        rw [← (List.cons.inj z).1]
        subst z'
        simp only [mEs, Bool.and_eq_true] at h6
        exact (sE c m kk e1 X' _ G' (by rw [hs]; exact h6.1)).1
    · rw [← hK]
      refine pts_of ?_
      match ifs, h7 with
      | [], h7 => exact h7
      | [i], h7 => exact (sE c m kk cnd X' _ G' (by rw [hs]; exact h7)).2
    · rw [← hK]
      refine pts_of ?_
      match ifs1, h8 with
      | [], h8 => exact h8
      | [i], h8 => exact (sE c m kk cnd1 X' _ G' (by rw [hs]; exact h8)).2
    · rw [← hK]
      exact (sE c m kk e X' _ G' (by rw [hs]; exact h9)).1
  | .tr e, X, e', G, h => b_tr (sE c m kk e X e' G (by simpa [mE] using h))
theorem sEs (c : Cfg) (m : MC) (kk : Nat) : ∀ (es : List E) (X : Cx) (es' : List Expr), Good m c kk X → mEs m X.env.scope es es' = true → PA X es' (LA X.K (evEs c es))
  | [], X, es', G, h => by
    cases es' with
    | nil => exact pa_nil'
    | cons _ _ => simp [mEs] at h
  | e :: es, X, es', G, h => by
    cases es' with
    | nil => simp [mEs] at h
    | cons e' es' =>
      rw [mEs, Bool.and_eq_true] at h
      exact pa_cons' (sE c m kk e X e' G h.1).1 (sEs c m kk es X es' G h.2) (star_of h.1)
end
end
end Cs

set_option Elab.async false
set_option linter.all false
set_option maxRecDepth 100000
namespace Cs
open PySem PySem.Spec PyProof.Rows L2

/-! ### statements against the own ones -/
def lineEq (a b : Pos) : Bool := a.line == b.line
/-- x = e: a comprehension on the same line into a local changes the road -/
def setOk (sc : Scope) (x : Str) (px : Pos) : Expr → Bool
  | .ListComp _ gens s p => (match sc.names.lookup x with | some .local => decide (gens.length = 1) && px.line == p.line && !(s.names.any fun (n, k) => n == x && (k == .local || k == .cell)) | _ => true)
  | .SetComp .. | .DictComp .. => false
  | _ => true
def notTup : Expr → Bool
  | .Tuple .. => false | _ => true
def notSlc : Expr → Bool
  | .Slice .. => false | _ => true
def noComp : Expr → Bool
  | .ListComp .. | .SetComp .. | .DictComp .. => false
  | _ => true
def parOk (px py : Pos) (a b : Expr) : Bool := py.line == px.line && !([a, b].all (foldedForSure 8)) && !([a, b].all (constantsAlone 8))
mutual
def mS (m : MC) (sc : Scope) : S → Stmt → Bool
  | .set i e, .Assign [.Name x px] e' _ => mName m.N i x && isLoc sc x && mE m sc e e' && setOk sc x px e'
  | .setT is e, .Assign [.Tuple es k p] e' _ => mTg m.N sc (.t is) (.Tuple es k p) && mE m sc e e' && noComp e' && notTup e'
  | .par i j a b, .Assign [.Tuple [.Name x px, .Name y py] _ _] (.Tuple [a', b'] _ _) _ => parOk px py a' b' && mName m.N i x && mName m.N j y && decide (i ≠ j) && (match sc.names.lookup x with | some .local => true | _ => false) && (match sc.names.lookup y with | some .local => true | _ => false) && decide (x ≠ y) &&
      mE m sc a a' && mE m sc b b'
  | .setI o k v, .Assign [.Subscript o' k' _] v' _ => mE m sc o o' && mE m sc k k' && mE m sc v v' && noComp v' && notSlc k'
  | .ex e, .Expr e' _ => mE m sc e e' && noComp e'
  | .ret e, .Return (some e') _ => mE m sc e e'
  | .iff t a b, .If t' a' b' _ => mE m sc t t' && mSs m sc a a' && mSs m sc b b'
  | .whl t b, .While t' b' [] _ => mE m sc t t' && mSs m sc b b'
  | .for_ t k es b, .For tg it b' [] _ => mTg m.N sc t tg && (match itX sc k it with | some es' => mEs m sc es es' | none => false) && mSs m sc b b'
  | .brk, .Break _ => true
  | .cont, .Continue _ => true
  | .pass, .Pass _ => true
  | _, _ => false
termination_by structural s _ => s
def mSs (m : MC) (sc : Scope) : List S → List Stmt → Bool
  | [], [] => true
  | s :: ss, s' :: ss' => mS m sc s s' && mSs m sc ss ss'
  | _, _ => false
termination_by structural ss _ => ss
end

/-! ### their readings -/
def FlP (K : PySem.W.Frag) (H' : Hp) (ρ' : List Addr) (Dn : Ends) (n : Nat) : Fl → Prop
  | .nx env => ∀ σ', σ'.length = n → EnvR K H' ρ' env σ' → Dn.nx σ' H'
  | .rt d => ∀ v, Rp K H' ρ' d v → Dn.rt v H'
  | .bk env => ∀ σ', σ'.length = n → EnvR K H' ρ' env σ' → Dn.bk σ' H'
  | .ct env => ∀ σ', σ'.length = n → EnvR K H' ρ' env σ' → Dn.ct σ' H'
def LS (K : PySem.W.Frag) (f : X1) : TS := fun Dn σ H => ∃ ρ env S fl S', Sr K H ρ S ∧ EnvR K H ρ env σ ∧ f env S = some (fl, S') ∧ ∀ H' ρ', Mono H H' → ρ <+: ρ' → Sr K H' ρ' S' → FlP K H' ρ' Dn σ.length fl
section
variable {X : Cx} {m : MC} {c : Cfg} {kk : Nat}
theorem _root_.L2.PS.weakC {s : Stmt} {t t' : TS} (h : PS X s t) (w : ∀ D σ H, t' D σ H → t D σ H) : PS X s t' := ⟨fun pins s σ H D I q => h.run pins s σ H D I (w _ _ _ q)⟩
theorem _root_.L2.PSs.weakC {s : List Stmt} {t t' : TS} (h : PSs X s t) (w : ∀ D σ H, t' D σ H → t D σ H) : PSs X s t' := ⟨fun pins s σ H D I q => h.run pins s σ H D I (w _ _ _ q)⟩
structure GoodS (m : MC) (c : Cfg) (kk : Nat) (X : Cx) : Prop where
  g : Good m c kk X
  fn : ∀ x, X.fn x = true
  own : PassesOwn (model X.prog X.w) X.A X.env X.xe
  kind : X.env.scope.kind = .function
theorem GoodS.fc (G : GoodS m c kk X) : FnC X X.env.scope := fun x h => ⟨isLoc_ok h, .inl (G.fn x)⟩

theorem tr_core {K : PySem.W.Frag} {e : E} {σ : L2.St} {H : Hp} {Q : VK} (q : LE K (evE c (.tr e)) σ H Q) : LE K (evE c e) σ H Q := by
  obtain ⟨ρ, env, S, d, S', hs, he, hf, hq⟩ := q
  rw [evE] at hf
  obtain ⟨x, S1, e1, hf⟩ := bnd_inv hf
  refine LE.mk hs he e1 fun H1 ρ1 v mm p s1 he1 r1 => ?_
  obtain ⟨ρ2, p2, s2, r2⟩ := fin_ok hs p s1 r1 hf
  exact hq H1 ρ2 v mm p2 s2 r2
theorem lc_any {sc : Scope} {elt : Expr} {gen : Comprehension} {scope : Scope} {p : Pos} : ∀ e : E, mE m sc e (.ListComp elt [gen] scope p) = true →
    ∃ t k es cnd e0, mE m sc (.lc t k es cnd e0) (.ListComp elt [gen] scope p) = true ∧ ∀ K σ H Q, LE K (evE c e) σ H Q → LE K (evE c (.lc t k es cnd e0)) σ H Q
  | .tr e, h => by
    rw [mE] at h
    obtain ⟨t, k, es, cnd, e0, h1, h2⟩ := lc_any e h
    exact ⟨t, k, es, cnd, e0, h1, fun K σ H Q q => h2 K σ H Q (tr_core q)⟩
  | .lc t k es cnd e0, h => ⟨t, k, es, cnd, e0, h, fun _ _ _ _ q => q⟩
  | .var _, h | .cn _, h | .glb _, h | .bin .., h | .neg _, h | .cmp .., h | .isN _, h | .notN _, h | .isB .., h | .isi .., h | .nt _, h | .and .., h | .or .., h | .ife .., h | .tup _, h | .lst _, h | .idx .., h | .slc .., h | .call .., h | .blt .., h | .mth .., h | .lc2 .., h => by simp [mE] at h
theorem lc_parts {t : Tg} {k : IK} {es : List E} {cnd e : E} {elt : Expr} {gens : List Comprehension} {scope : Scope} {p : Pos} (G : Good m c kk X) (h : mE m X.env.scope (.lc t k es cnd e) (.ListComp elt gens scope p) = true) :
    ∃ tg it ifs, gens = [⟨tg, it, ifs, 0⟩] ∧ PI X tg it (LI X.K k (evEs c es)) ∧ (∀ x, foldedSetIterable it X.env x = pure x) ∧ BlkOk X.N X.env.scope scope (t.slots.map fun i => (m.N.getD i default, i)) ∧
      (∀ (s : Shared) (H : Hp) (C : Addr) (cl : List (Str × Addr)) (fp : List Addr), PG (X.blk s H scope (compEnvC scope cl C X.env) fp) tg (LG X.K t)) ∧
      (∀ (s : Shared) (H : Hp) (C : Addr) (cl : List (Str × Addr)) (fp : List Addr), PTs (X.blk s H scope (compEnvC scope cl C X.env) fp) ifs (LTe X.K (evE c cnd))) ∧
      (∀ (s : Shared) (H : Hp) (C : Addr) (cl : List (Str × Addr)) (fp : List Addr), PE (X.blk s H scope (compEnvC scope cl C X.env) fp) elt (LE X.K (evE c e))) := by
  obtain ⟨elt', tg, it, ifs, scope', p', es', e1, h1, h2, h3, h4, h5, h6⟩ := mE_lc h
  cases e1
  have st := stars_of (env := X.env) h3
  refine ⟨tg, it, ifs, rfl, ?_, fold_of h2 h3, blkOk_by (by rw [G.N]; exact h6), fun s H C cl fp => pg_tg (X := X.blk s H scope (compEnvC scope cl C X.env) fp) G.N G.nd G.calm (blk_fn s H scope cl C fp) h1, fun s H C cl fp => ?_, fun s H C cl fp => ?_⟩
  · refine pi_of G h2 (sEs c m kk es X _ G h3) (fun e' z => ?_) st (fun a b z => ?_) (fun env S xs S' z => by rw [evEs_len z, mEs_len h3])
    · subst z
      match es, h3 with
      | [e0], h3 =>
        simp only [mEs, Bool.and_eq_true] at h3
        refine ⟨evE c e0, (sE c m kk e0 X _ G h3.1).1, fun env S => ?_⟩
        rw [evEs]
        rfl
      | [], h3 => simp [mEs] at h3
      | _ :: _ :: _, h3 => simp [mEs] at h3
    · subst z
      exact stars_tl st
  · cases ifs with
    | nil =>
      refine pts_weak pts_nil fun σ H Q q => ?_
      obtain ⟨ρ, env, S, k, S', hs, he, hf, hq⟩ := q
      have hc : cnd = .cn (.bl true) := isTrueE_ok h4
      subst hc
      have hf : tst (evE c (.cn (.bl true)) env S) = some (k, S') := hf
      rw [evE] at hf
      cases hf
      exact hq H ρ Mono.refl (List.prefix_refl _) hs
    | cons i r =>
      cases r with
      | nil => exact pts_one (sE c m kk cnd _ _ (G.blk s H scope cl C fp) h4).2
      | cons _ _ => cases h4
  · exact (sE c m kk e _ _ (G.blk s H scope cl C fp) h5).1
theorem own_slots {t : Tg} : (t.slots.map fun i => (m.N.getD i default, i)).map (·.2) = t.slots := by
  rw [List.map_map]
  show t.slots.map (fun i => i) = _
  simp
theorem set_w {te : TE} {i : Nat} {e : E} {Dn : Ends} {σ : L2.St} {H : Hp} {K : PySem.W.Frag} (w : ∀ Q, LE K (evE c e) σ H Q → te σ H Q) (q : LS K (exS c (.set i e)) Dn σ H) : tAsg te (gName i) Dn σ H := by
  obtain ⟨ρ, env, S, fl, S', hs, he, hf, hq⟩ := q
  rw [exS] at hf
  obtain ⟨x, S1, e1, hf⟩ := bnd_inv hf
  cases hf
  exact w _ (LE.mk hs he e1 fun H1 ρ1 v mm p s1 he1 r1 => hq H1 ρ1 mm p s1 (σ.set i (some v)) (by simp) (he1.set r1))
theorem sw_false {e' : Expr} {t : Option Expr} {l : Nat} {env : Env} (h : noComp e' = true) : swapsWith e' t l env = pure false := by
  cases e' <;> first | rfl | cases h
theorem s_set {i : Nat} {x : Str} {px p : Pos} {e : E} {e' : Expr} (G : GoodS m c kk X) (h1 : mName m.N i x = true) (h2 : isLoc X.env.scope x = true) (h3 : mE m X.env.scope e e' = true) (h4 : setOk X.env.scope x px e' = true) :
    PS X (.Assign [.Name x px] e' p) (LS X.K (exS c (.set i e))) := by
  have hN : X.N.Nodup := by rw [G.g.N]; exact G.g.nd
  have hi : X.N[i]? = some x := by rw [G.g.N]; exact mName_ok h1
  have hx := isLoc_ok h2
  have plain : swapsWith e' (some (.Name x px)) p.line X.env = pure false → PS X (.Assign [.Name x px] e' p) (LS X.K (exS c (.set i e))) := fun hs =>
    (ps_set hN hi hx (sE c m kk e X e' G.g h3).1 hs (.inl (G.fn x))).weakC fun D σ H q => set_w (fun Q q => q) q
  cases e' with
  | ListComp elt gens scope lp =>
    have conv : ∀ q : NameKind, X.env.scope.names.lookup x = some q → X.env.kindOf x = some q := fun q z => z
    rcases hx with hx | hx
    · -- into a local
      have h4' : (decide (gens.length = 1) && px.line == lp.line && !(scope.names.any fun (n, k) => n == x && (k == .local || k == .cell))) = true := by
        unfold setOk at h4
        simp only [hx] at h4
        exact h4
      rw [Bool.and_eq_true, Bool.and_eq_true, Bool.not_eq_true', decide_eq_true_eq] at h4'
      obtain ⟨⟨h40, h41⟩, h42⟩ := h4'
      match gens, h40 with
      | [gen], _ =>
      obtain ⟨t, k, es, cnd, e0, hm, hw⟩ := lc_any (c := c) e h3
      obtain ⟨tg, it, ifs, ge, q1, q2, q3, q4, q5, q6⟩ := lc_parts (c := c) G.g hm
      cases ge
      refine (ps_setLc (own := t.slots.map fun i => (m.N.getD i default, i)) G.g.calm hN hi hx (sw_true G.kind hx h41 h42) q1 q3 q4 q5 q6 q2).weakC fun D σ H q => ?_
      refine set_w (fun Q q => ?_) q
      rw [own_slots]
      exact lc_core' (hw _ _ _ _ q)
    · refine plain ?_
      unfold swapsWith
      simp only [conv _ hx]
      have : (some NameKind.cell == some NameKind.local) = false := by decide
      rw [this]
      simp
  | SetComp _ _ _ _ => cases h4
  | DictComp _ _ _ _ _ => cases h4
  | _ => exact plain rfl
theorem s_setT {is : List Nat} {tg : Expr} {p : Pos} {e : E} {e' : Expr} (G : GoodS m c kk X) (h1 : mTg m.N X.env.scope (.t is) tg = true) (h3 : mE m X.env.scope e e' = true) (h4 : noComp e' = true) (h5 : notTup e' = true) :
    PS X (.Assign [tg] e' p) (LS X.K (exS c (.setT is e))) := by
  cases tg with
  | Tuple es n tp =>
    have hw : swappedStores [.Tuple es n tp] e' X.env = pure none := by
      cases e' <;> first | rfl | (cases h5; done) | cases h4
    have hs : swapsWithSole [.Tuple es n tp] e' p.line X.env = pure false := sw_false (t := some (.Tuple es n tp)) (l := p.line) (env := X.env) h4
    refine (ps_asg (sE c m kk e X e' G.g h3).1 (pg_tg G.g.N G.g.nd G.g.calm G.fc h1) hs hw rfl).weakC fun D σ H q => ?_
    obtain ⟨ρ, env, S, fl, S', hs, he, hf, hq⟩ := q
    rw [exS] at hf
    obtain ⟨x, S1, e1, hf1⟩ := bnd_inv hf
    obtain ⟨env1, S2, e2, hf2⟩ := bnd_inv hf1
    cases hf2
    unfold lift at e2
    cases ea : asg (.t is) x env with
    | none => rw [ea] at e2; cases e2
    | some env2 =>
      rw [ea] at e2; cases e2
      exact LE.mk hs he e1 fun H1 ρ1 v mm p s1 he1 r1 => ⟨ρ1, env, x, env1, he1, r1, ea, fun σ' l e' _ => hq H1 ρ1 mm p s1 σ' l e'⟩
  | _ => simp [mTg] at h1
theorem s_par {i j : Nat} {x y : Str} {px py tp vp p : Pos} {n1 n2 : Nat} {a b : E} {a' b' : Expr} (G : GoodS m c kk X) (hpo : parOk px py a' b' = true) (h1 : mName m.N i x = true) (h2 : mName m.N j y = true) (hij : i ≠ j) (hx : X.env.scope.names.lookup x = some .local) (hy : X.env.scope.names.lookup y = some .local)
    (hxy : x ≠ y) (ha : mE m X.env.scope a a' = true) (hb : mE m X.env.scope b b' = true) : PS X (.Assign [.Tuple [.Name x px, .Name y py] n1 tp] (.Tuple [a', b'] n2 vp) p) (LS X.K (exS c (.par i j a b))) := by
  have hN : X.N.Nodup := by rw [G.g.N]; exact G.g.nd
  have hm : mEs m X.env.scope [a, b] [a', b'] = true := by simp [mEs, ha, hb]
  have hw : swappedStores [.Tuple [.Name x px, .Name y py] n1 tp] (.Tuple [a', b'] n2 vp) X.env = pure (some [x, y]) := by
    unfold parOk at hpo
    simp only [Bool.and_eq_true, Bool.not_eq_true'] at hpo
    obtain ⟨⟨l1, l2⟩, l3⟩ := hpo
    have k1 : X.env.kindOf x = some .local := hx
    have k2 : X.env.kindOf y = some .local := hy
    have kb : X.env.blockKind = .function := by unfold Env.blockKind; rw [G.kind]; rfl
    have l1' : py.line = px.line := eq_of_beq l1
    unfold swappedStores
    simp only [List.length_cons, List.length_nil, kb]
    refine (if_neg (by decide)).trans ?_
    refine (if_neg ?_).trans ?_
    · intro h
      rw [List.any_eq_true] at h
      obtain ⟨z, hz, hm⟩ := h
      cases z <;> first | (cases hm; done) | skip
      simp only [List.mem_cons, List.not_mem_nil, or_false] at hz
      rcases hz with rfl | rfl
      · rw [mE_star] at ha; cases ha
      · rw [mE_star] at hb; cases hb
    have dd : ([x, y].eraseDups) = [x, y] := by
      rw [List.eraseDups_cons]
      have : (List.filter (fun b => !b == x) [y]) = [y] := by simp [Ne.symm hxy]
      rw [this]
      simp [List.eraseDups_cons]
    simp [k1, k2, Expr.pos, l1', l2, l3, dd]
  refine (ps_par G.g.calm hN (by rw [G.g.N]; exact mName_ok h1) (by rw [G.g.N]; exact mName_ok h2) hij hx hy (sEs c m kk [a, b] X [a', b'] G.g hm) hw rfl).weakC fun D σ H q => ?_
  obtain ⟨ρ, env, S, fl, S', hs, he, hf, hq⟩ := q
  rw [exS] at hf
  obtain ⟨x1, S1, e1, hf1⟩ := bnd_inv hf
  obtain ⟨y1, S2, e2, hf2⟩ := bnd_inv hf1
  cases hf2
  refine LA.mk (x := [x1, y1]) (S1 := S') hs he (by rw [evEs, e1]; show bnd (evEs c [b] env S1) _ = _; rw [evEs, e2]; rfl) fun H1 ρ1 vs mm p s1 he1 r1 => ?_
  obtain ⟨v, r, rfl, q1, w, r', rfl, q2, rfl⟩ := r1
  exact ⟨v, w, rfl, hq H1 ρ1 mm p s1 _ (by simp) ((he1.set q1).set q2)⟩
theorem s_setI {o k v : E} {o' k' v' : Expr} {tp p : Pos} (G : GoodS m c kk X) (h1 : mE m X.env.scope o o' = true) (h2 : mE m X.env.scope k k' = true) (h3 : mE m X.env.scope v v' = true) (h4 : noComp v' = true) (h5 : notSlc k' = true) :
    PS X (.Assign [.Subscript o' k' tp] v' p) (LS X.K (exS c (.setI o k v))) := by
  have hg := pg_sub (pos := tp) (sE c m kk o X o' G.g h1).1 (sE c m kk k X k' G.g h2).1 (set_list (X := X)) (by
    intro u
    cases k' <;> first | rfl | cases h5)
  have hw : swappedStores [.Subscript o' k' tp] v' X.env = pure none := by
    cases v' <;> first | rfl | cases h4
  have hs : swapsWithSole [.Subscript o' k' tp] v' p.line X.env = pure false := sw_false (t := some (.Subscript o' k' tp)) (l := p.line) (env := X.env) h4
  refine (ps_asg (sE c m kk v X v' G.g h3).1 hg hs hw rfl).weakC fun D σ H q => ?_
  obtain ⟨ρ, env, S, fl, S', hs, he, hf, hq⟩ := q
  rw [exS] at hf
  obtain ⟨z, S1, e1, hf1⟩ := bnd_inv hf
  obtain ⟨x, S2, e2, hf2⟩ := bnd_inv hf1
  obtain ⟨y, S3, e3, hf3⟩ := bnd_inv hf2
  cases x with
  | loc n =>
    cases y with
    | int i =>
      simp only at hf3
      split at hf3
      · rename_i xs eg
        split at hf3
        · rename_i j ej
          cases hf3
          refine LE.mk hs he e1 fun H1 ρ1 v mm p s1 he1 r1 => ?_
          refine LE.mk s1 he1 e2 fun H2 ρ2 w m2 p2 s2 he2 r2 => ?_
          refine LE.mk s2 he2 e3 fun H3 ρ3 u m3 p3 s3 he3 r3 => ?_
          obtain ⟨a, vs, rfl, ea, hv, rv⟩ := s3.lstM eg (r2.mono m3 p3 _ _)
          cases r3
          obtain ⟨s4, m4⟩ := s3.write (getM_so eg) ea (rv.set j ((r1.mono m2 p2 _ _).mono m3 p3 _ _))
          refine ⟨a, vs, i, j, rfl, rfl, hv, by rw [← rv.length]; exact ej, ?_⟩
          exact hq _ ρ3 (((mm.trans m2).trans m3).trans m4) ((p.trans p2).trans p3) s4 σ rfl (he3.mono m4 (List.prefix_refl _))
        · cases hf3
      · cases hf3
    | _ => cases hf3
  | _ => cases hf3
theorem s_ex {e : E} {e' : Expr} {p : Pos} (G : GoodS m c kk X) (h : mE m X.env.scope e e' = true) (h4 : noComp e' = true) : PS X (.Expr e' p) (LS X.K (exS c (.ex e))) :=
  (ps_expr (sE c m kk e X e' G.g h).1 (sw_false h4)).weakC fun D σ H q => by
    obtain ⟨ρ, env, S, fl, S', hs, he, hf, hq⟩ := q
    rw [exS] at hf
    obtain ⟨z, S1, e1, hf1⟩ := bnd_inv hf
    cases hf1
    exact LE.mk hs he e1 fun H1 ρ1 v mm p s1 he1 r1 => hq H1 ρ1 mm p s1 σ rfl he1
theorem s_ret {e : E} {e' : Expr} {p : Pos} (G : GoodS m c kk X) (h : mE m X.env.scope e e' = true) : PS X (.Return (some e') p) (LS X.K (exS c (.ret e))) :=
  (ps_ret (sE c m kk e X e' G.g h).1).weakC fun D σ H q => by
    obtain ⟨ρ, env, S, fl, S', hs, he, hf, hq⟩ := q
    rw [exS] at hf
    obtain ⟨z, S1, e1, hf1⟩ := bnd_inv hf
    cases hf1
    exact LE.mk hs he e1 fun H1 ρ1 v mm p s1 he1 r1 => hq H1 ρ1 mm p s1 v r1
/-- a block's reading behind a state that has grown -/
theorem LS.mk' {K : PySem.W.Frag} {H H1 : Hp} {ρ ρ1 : List Addr} {S S' : Sto} {env : Ev} {σ : L2.St} {f : X1} {Dn : Ends} {fl : Fl} (s : Sr K H1 ρ1 S) (he : EnvR K H1 ρ1 env σ) (hf : f env S = some (fl, S')) (mm : Mono H H1) (p : ρ <+: ρ1)
    (hq : ∀ H' ρ', Mono H H' → ρ <+: ρ' → Sr K H' ρ' S' → FlP K H' ρ' Dn σ.length fl) : LS K f Dn σ H1 :=
  ⟨ρ1, env, S, fl, S', s, he, hf, fun H' ρ' m' p' s' => hq H' ρ' (mm.trans m') (p.trans p') s'⟩
theorem s_iff {t : E} {a b : List S} {t' : Expr} {a' b' : List Stmt} {p : Pos} (G : GoodS m c kk X) (h : mE m X.env.scope t t' = true) (ha : PSs X a' (LS X.K (exSs c a))) (hb : PSs X b' (LS X.K (exSs c b))) : PS X (.If t' a' b' p) (LS X.K (exS c (.iff t a b))) :=
  (ps_if (sE c m kk t X t' G.g h).2 ha hb).weakC fun D σ H q => by
    obtain ⟨ρ, env, S, fl, S', hs, he, hf, hq⟩ := q
    rw [exS] at hf
    obtain ⟨k, S1, e1, hf1⟩ := ifT_inv hf
    refine LT.mk hs he e1 fun H1 ρ1 mm p s1 he1 => ?_
    cases k with
    | true => exact LS.mk' s1 he1 hf1 mm p hq
    | false => exact LS.mk' s1 he1 hf1 mm p hq
theorem whN_step {cnd : Ev → Sto → Option (Bool × Sto)} {body : X1} {env : Ev} {S : Sto} {r : Fl × Sto} (h : whE cnd body env S = some r) : ∃ n, whN cnd body n env S = some r := by
  unfold whE at h
  split at h
  · exact ⟨_, h⟩
  · cases h
theorem s_whl {t : E} {b : List S} {t' : Expr} {b' : List Stmt} {p : Pos} (G : GoodS m c kk X) (h : mE m X.env.scope t t' = true) (hb : PSs X b' (LS X.K (exSs c b))) : PS X (.While t' b' [] p) (LS X.K (exS c (.whl t b))) :=
  (ps_while G.own (sE c m kk t X t' G.g h).2 hb).weakC fun D σ H q => by
    obtain ⟨ρ, env, S, fl, S', hs, he, hf, hq⟩ := q
    rw [exS] at hf
    obtain ⟨n, hn⟩ := whN_step hf
    refine ⟨fun n σ2 H2 => ∃ ρ2 env2 S2, σ2.length = σ.length ∧ Mono H H2 ∧ ρ <+: ρ2 ∧ Sr X.K H2 ρ2 S2 ∧ EnvR X.K H2 ρ2 env2 σ2 ∧ whN (fun env S => tst (evE c t env S)) (exSs c b) n env2 S2 = some (fl, S'),
      ⟨n, ρ, env, S, rfl, Mono.refl, List.prefix_refl _, hs, he, hn⟩, ?_⟩
    rintro n σ2 H2 ⟨ρ2, env2, S2, hl, m2, p2, s2, he2, hw⟩
    cases n with
    | zero => cases hw
    | succ n =>
      rw [whN] at hw
      obtain ⟨k, S3, e3, hw1⟩ := bnd_inv hw
      refine LT.mk s2 he2 e3 fun H3 ρ3 m3 p3 s3 he3 => ?_
      cases k with
      | false =>
        simp only [Bool.false_eq_true, if_false] at hw1 ⊢
        cases hw1
        exact hq H3 ρ3 (m2.trans m3) (p2.trans p3) s3 σ2 hl he3
      | true =>
        simp only [if_true] at hw1 ⊢
        obtain ⟨f, S4, e4, hw2⟩ := bnd_inv hw1
        refine ⟨fun σ5 H5 => ∃ ρ5 env5 S5, σ5.length = σ.length ∧ Mono H H5 ∧ ρ <+: ρ5 ∧ Sr X.K H5 ρ5 S5 ∧ EnvR X.K H5 ρ5 env5 σ5 ∧ whN (fun env S => tst (evE c t env S)) (exSs c b) n env5 S5 = some (fl, S'),
          fun σ' H' ⟨ρ5, env5, S5, a1, a2, a3, a4, a5, a6⟩ => ⟨n, Nat.lt_succ_self _, ρ5, env5, S5, a1, a2, a3, a4, a5, a6⟩, ?_⟩
        refine LS.mk' s3 he3 e4 Mono.refl (List.prefix_refl _) fun H5 ρ5 m5 p5 s5 => ?_
        cases f with
        | nx env5 => exact fun σ5 l5 he5 => ⟨ρ5, env5, S4, by rw [l5, hl], (m2.trans m3).trans m5, (p2.trans p3).trans p5, s5, he5, hw2⟩
        | ct env5 => exact fun σ5 l5 he5 => ⟨ρ5, env5, S4, by rw [l5, hl], (m2.trans m3).trans m5, (p2.trans p3).trans p5, s5, he5, hw2⟩
        | bk env5 =>
          cases hw2
          exact fun σ5 l5 he5 => hq H5 ρ5 ((m2.trans m3).trans m5) ((p2.trans p3).trans p5) s5 σ5 (by rw [l5, hl]) he5
        | rt d =>
          cases hw2
          exact fun v rv => hq H5 ρ5 ((m2.trans m3).trans m5) ((p2.trans p3).trans p5) s5 v rv
theorem s_for {t : Tg} {k : IK} {es : List E} {b : List S} {tg it : Expr} {es' : List Expr} {b' : List Stmt} {p : Pos} (G : GoodS m c kk X) (h1 : mTg m.N X.env.scope t tg = true) (h2 : itX X.env.scope k it = some es') (h3 : mEs m X.env.scope es es' = true) (hb : PSs X b' (LS X.K (exSs c b))) :
    PS X (.For tg it b' [] p) (LS X.K (exS c (.for_ t k es b))) := by
  have st := stars_of (env := X.env) h3
  have hi : PI X tg it (LI X.K k (evEs c es)) := by
    refine pi_of G.g h2 (sEs c m kk es X _ G.g h3) (fun e' z => ?_) st (fun a b z => ?_) (fun env S xs S' z => by rw [evEs_len z, mEs_len h3])
    · subst z
      match es, h3 with
      | [e0], h3 =>
        simp only [mEs, Bool.and_eq_true] at h3
        refine ⟨evE c e0, (sE c m kk e0 X _ G.g h3.1).1, fun env S => ?_⟩
        rw [evEs]
        rfl
      | [], h3 => simp [mEs] at h3
      | _ :: _ :: _, h3 => simp [mEs] at h3
    · subst z
      exact stars_tl st
  refine (ps_for G.own G.g.calm hi (pg_tg G.g.N G.g.nd G.g.calm G.fc h1) hb (fold_of h2 h3)).weakC fun D σ H q => ?_
  obtain ⟨ρ, env, S, fl, S', hs, he, hf, hq⟩ := q
  rw [exS] at hf
  obtain ⟨xs, S1, e1, hf1⟩ := bnd_inv hf
  obtain ⟨iw, S1', e2, hf2⟩ := bnd_inv hf1
  obtain ⟨e2, rfl⟩ : items k xs S1 = some iw ∧ S1' = S1 := by
    unfold lift at e2
    cases z : items k xs S1 with
    | none => rw [z] at e2; cases e2
    | some iw' => rw [z] at e2; cases e2; exact ⟨rfl, rfl⟩
  refine ⟨ρ, env, S, xs, S1', iw, hs, he, e1, e2, fun H1 ρ1 J mm p s1 he1 jok => ?_⟩
  refine ⟨fun i n σ2 H2 => n = iw.1.length - i ∧ i ≤ iw.1.length ∧ ∃ ρ2 env2 S2, σ2.length = σ.length ∧ Mono H1 H2 ∧ ρ1 <+: ρ2 ∧ Sr X.K H2 ρ2 S2 ∧ EnvR X.K H2 ρ2 env2 σ2 ∧ forL iw.2 t (exSs c b) (iw.1.drop i) env2 S2 = some (fl, S'),
    ⟨iw.1.length, by simp, Nat.zero_le _, ρ1, env, S1', rfl, Mono.refl, List.prefix_refl _, s1, he1, by rw [List.drop_zero]; exact hf2⟩, ?_⟩
  rintro i n σ2 H2 ⟨rfl, hi, ρ2, env2, S2, hl, m2, p2, s2, he2, hw⟩
  by_cases hlt : i < iw.1.length
  · rw [List.drop_eq_getElem_cons hlt] at hw
    unfold forL at hw
    split at hw
    · rename_i stl
      obtain ⟨_, j2⟩ := jok i H2 ρ2 S2 m2 p2 s2 stl
      obtain ⟨go, yl⟩ := j2 iw.1[i] (List.getElem?_eq_getElem hlt)
      split at hw
      · cases hw
      · rename_i env1 ha
        obtain ⟨f, S4, e4, hw2⟩ := bnd_inv hw
        refine .inr ⟨go, fun σ5 H5 => ∃ ρ5 env5 S5, σ5.length = σ.length ∧ Mono H1 H5 ∧ ρ1 <+: ρ5 ∧ Sr X.K H5 ρ5 S5 ∧ EnvR X.K H5 ρ5 env5 σ5 ∧ forL iw.2 t (exSs c b) (iw.1.drop (i + 1)) env5 S5 = some (fl, S'),
          fun σ' H' ⟨ρ5, env5, S5, a1, a2, a3, a4, a5, a6⟩ => ⟨iw.1.length - (i + 1), by omega, rfl, hlt, ρ5, env5, S5, a1, a2, a3, a4, a5, a6⟩, fun x H3 y => ?_⟩
        obtain ⟨s3, m3, r3⟩ := yl x H3 y
        refine ⟨ρ2, env2, _, env1, he2.mono m3 (List.prefix_refl _), r3, ha, fun σ' l e' _ => ?_⟩
        refine LS.mk' s3 e' e4 Mono.refl (List.prefix_refl _) fun H5 ρ5 m5 p5 s5 => ?_
        cases f with
        | nx env5 => exact fun σ5 l5 he5 => ⟨ρ5, env5, S4, by rw [l5, l, hl], (m2.trans m3).trans m5, p2.trans p5, s5, he5, hw2⟩
        | ct env5 => exact fun σ5 l5 he5 => ⟨ρ5, env5, S4, by rw [l5, l, hl], (m2.trans m3).trans m5, p2.trans p5, s5, he5, hw2⟩
        | bk env5 =>
          cases hw2
          exact fun σ5 l5 he5 => hq H5 ρ5 (((mm.trans m2).trans m3).trans m5) ((p.trans p2).trans p5) s5 σ5 (by rw [l5, l, hl]) he5
        | rt d =>
          cases hw2
          exact fun v rv => hq H5 ρ5 (((mm.trans m2).trans m3).trans m5) ((p.trans p2).trans p5) s5 v rv
    · cases hw
  · have ei : i = iw.1.length := by omega
    subst ei
    rw [List.drop_length] at hw
    unfold forL at hw
    split at hw
    · rename_i stl
      cases hw
      obtain ⟨j1, _⟩ := jok _ H2 ρ2 S' m2 p2 s2 stl
      exact .inl ⟨j1 rfl, hq H2 ρ2 (mm.trans m2) (p.trans p2) s2 σ2 hl he2⟩
    · cases hw
mutual
theorem sS (c : Cfg) (m : MC) (kk : Nat) (X : Cx) (G : GoodS m c kk X) : ∀ (s : S) (s' : Stmt), mS m X.env.scope s s' = true → PS X s' (LS X.K (exS c s))
  | .set i e, s', h => by
    unfold mS at h
    split at h
    all_goals first | (cases h; done) | (cases ‹S.set _ _ = _›; done) | skip
    cases ‹S.set _ _ = _›
    simp only [Bool.and_eq_true] at h
    exact s_set G h.1.1.1 h.1.1.2 h.1.2 h.2
  | .setT is e, s', h => by
    unfold mS at h
    split at h
    all_goals first | (cases h; done) | (cases ‹S.setT _ _ = _›; done) | skip
    cases ‹S.setT _ _ = _›
    simp only [Bool.and_eq_true] at h
    exact s_setT G h.1.1.1 h.1.1.2 h.1.2 h.2
  | .par i j a b, s', h => by
    unfold mS at h
    split at h
    all_goals first | (cases h; done) | (cases ‹S.par _ _ _ _ = _›; done) | skip
    cases ‹S.par _ _ _ _ = _›
    simp only [Bool.and_eq_true, decide_eq_true_eq] at h
    obtain ⟨⟨⟨⟨⟨⟨⟨⟨h0, h1⟩, h2⟩, h3⟩, h4⟩, h5⟩, h6⟩, h7⟩, h8⟩ := h
    refine s_par G h0 h1 h2 h3 ?_ ?_ h6 h7 h8
    · split at h4
      · assumption
      · cases h4
    · split at h5
      · assumption
      · cases h5
  | .setI o k v, s', h => by
    unfold mS at h
    split at h
    all_goals first | (cases h; done) | (cases ‹S.setI _ _ _ = _›; done) | skip
    cases ‹S.setI _ _ _ = _›
    simp only [Bool.and_eq_true] at h
    exact s_setI G h.1.1.1.1 h.1.1.1.2 h.1.1.2 h.1.2 h.2
  | .ex e, s', h => by
    unfold mS at h
    split at h
    all_goals first | (cases h; done) | (cases ‹S.ex _ = _›; done) | skip
    cases ‹S.ex _ = _›
    simp only [Bool.and_eq_true] at h
    exact s_ex G h.1 h.2
  | .ret e, s', h => by
    unfold mS at h
    split at h
    all_goals first | (cases h; done) | (cases ‹S.ret _ = _›; done) | skip
    cases ‹S.ret _ = _›
    exact s_ret G h
  | .iff t a b, s', h => by
    unfold mS at h
    split at h
    all_goals first | (cases h; done) | (cases ‹S.iff _ _ _ = _›; done) | skip
    cases ‹S.iff _ _ _ = _›
    simp only [Bool.and_eq_true] at h
    exact s_iff G h.1.1 (sSs c m kk X G a _ h.1.2) (sSs c m kk X G b _ h.2)
  | .whl t b, s', h => by
    unfold mS at h
    split at h
    all_goals first | (cases h; done) | (cases ‹S.whl _ _ = _›; done) | skip
    cases ‹S.whl _ _ = _›
    simp only [Bool.and_eq_true] at h
    exact s_whl G h.1 (sSs c m kk X G b _ h.2)
  | .for_ t k es b, s', h => by
    unfold mS at h
    split at h
    all_goals first | (cases h; done) | (cases ‹S.for_ _ _ _ _ = _›; done) | skip
    cases ‹S.for_ _ _ _ _ = _›
    simp only [Bool.and_eq_true] at h
    obtain ⟨⟨h1, h2⟩, h3⟩ := h
    split at h2
    · rename_i es' hx
      exact s_for G h1 hx h2 (sSs c m kk X G b _ h3)
    · cases h2
  | .brk, s', h => by
    unfold mS at h
    split at h
    all_goals first | (cases h; done) | (cases ‹S.brk = _›; done) | skip
    refine ps_break.weakC fun D σ H q => ?_
    obtain ⟨ρ, env, S, fl, S', hs, he, hf, hq⟩ := q
    rw [exS] at hf; cases hf
    exact hq H ρ Mono.refl (List.prefix_refl _) hs σ rfl he
  | .cont, s', h => by
    unfold mS at h
    split at h
    all_goals first | (cases h; done) | (cases ‹S.cont = _›; done) | skip
    refine ps_continue.weakC fun D σ H q => ?_
    obtain ⟨ρ, env, S, fl, S', hs, he, hf, hq⟩ := q
    rw [exS] at hf; cases hf
    exact hq H ρ Mono.refl (List.prefix_refl _) hs σ rfl he
  | .pass, s', h => by
    unfold mS at h
    split at h
    all_goals first | (cases h; done) | (cases ‹S.pass = _›; done) | skip
    refine ps_pass.weakC fun D σ H q => ?_
    obtain ⟨ρ, env, S, fl, S', hs, he, hf, hq⟩ := q
    rw [exS] at hf; cases hf
    exact hq H ρ Mono.refl (List.prefix_refl _) hs σ rfl he
theorem sSs (c : Cfg) (m : MC) (kk : Nat) (X : Cx) (G : GoodS m c kk X) : ∀ (ss : List S) (ss' : List Stmt), mSs m X.env.scope ss ss' = true → PSs X ss' (LS X.K (exSs c ss))
  | [], [], _ => pss_nil.weakC fun D σ H q => by
    obtain ⟨ρ, env, S, fl, S', hs, he, hf, hq⟩ := q
    rw [exSs] at hf; cases hf
    exact hq H ρ Mono.refl (List.prefix_refl _) hs σ rfl he
  | [], _ :: _, h => by simp [mSs] at h
  | _ :: _, [], h => by simp [mSs] at h
  | s :: ss, s' :: ss', h => by
    rw [mSs, Bool.and_eq_true] at h
    refine (pss_cons (sS c m kk X G s s' h.1) (sSs c m kk X G ss ss' h.2)).weakC fun D σ H q => ?_
    obtain ⟨ρ, env, S, fl, S', hs, he, hf, hq⟩ := q
    rw [exSs] at hf
    obtain ⟨f, S1, e1, hf1⟩ := bnd_inv hf
    refine LS.mk' hs he e1 Mono.refl (List.prefix_refl _) fun H1 ρ1 m1 p1 s1 => ?_
    cases f with
    | nx env1 =>
      intro σ1 l1 he1
      exact LS.mk' s1 he1 hf1 m1 p1 (by rw [l1]; exact hq)
    | rt d => cases hf1; exact hq H1 ρ1 m1 p1 s1
    | bk e => cases hf1; exact hq H1 ρ1 m1 p1 s1
    | ct e => cases hf1; exact hq H1 ρ1 m1 p1 s1
end
end
end Cs

set_option Elab.async false
set_option linter.all false
set_option maxRecDepth 100000
namespace Cs
open PySem PySem.Spec PyProof.Rows L2

/-! ### the defs of a text -/
structure Entry where
  f : String
  st : Stmt
  N : List Str
  ps : List Str
  d : FDef
/-- the text's defs say what the own ones say -/
structure Entry.Ok (fs gs : List String) (e : Entry) : Prop where
  sc : FnScope e.N e.ps (defScope e.st)
  ms : mSs ⟨e.N, fs, gs⟩ (defScope e.st) e.d.body (defBody e.st) = true
  np : e.d.np = e.ps.length
  nl : e.d.nl = e.N.length
/-- .. and stand behind the top -/
def Entry.At (K : PySem.W.Frag) (mg : Str → Option Value) (e : Entry) : Prop := ∃ a fd, mg (Str.ofString e.f) = some (.ref a) ∧ Fun K (Str.ofString e.f) (Str.ofString e.f) e.st a fd ∧ Binds K fd e.ps []
/-- the names that are told, and what they stand for -/
structure Top (K : PySem.W.Frag) (mg : Str → Option Value) (T : List Entry) (gs : List String) (G : String → Option D) (gcd : Bool) : Prop where
  at_ : ∀ e ∈ T, e.At K mg
  gl : ∀ g ∈ gs, ∃ u v d, mg (Str.ofString g) = some u ∧ RelV v u ∧ G g = some d ∧ ∀ H ρ, Rp K H ρ d v
  bt : ∀ f ∈ bltAll, mg (Str.ofString f) = none
  gc : gcd = true → mg (Str.ofString "gcd") = some (.builtin "math.gcd")
def spF (K : PySem.W.Frag) (n : Nat) (C : List D → Sto → Option (D × Sto)) : List V → Hp → VK → Prop := fun vs H Q => vs.length = n ∧ LC K C vs H Q
theorem start_ok {K : PySem.W.Frag} {H : Hp} {ρ : List Addr} {fd : FDef} {N : List Str} {ds : List D} {vs : List V} (r : RpL K H ρ ds vs) (hl : ds.length = fd.np) (hn : fd.nl = N.length) : EnvR K H ρ (start' fd ds) (L2.start N vs) := by
  unfold start' L2.start
  refine ⟨by simp [r.length, ← hl, hn], fun i d e => ?_⟩
  by_cases hi : i < ds.length
  · rw [List.getElem?_append_left (by simpa using hi), List.getElem?_map] at e
    cases q : ds[i]? with
    | none => rw [q] at e; cases e
    | some d' =>
      rw [q] at e
      cases e
      obtain ⟨v, ev, rv⟩ := r.get q
      refine ⟨v, ?_, rv⟩
      rw [List.getElem?_append_left (by simpa [← r.length] using hi), List.getElem?_map, ev]; rfl
  · rw [List.getElem?_append_right (by simpa using hi)] at e
    have := List.mem_of_getElem? e
    simp at this
theorem entry_ok {P : Program} {w : World} {K : PySem.W.Frag} {mg : Str → Option Value} {base : Heap} {T : List Entry} {gs : List String} {G : String → Option D} {gcd : Bool} (tp : Top K mg T gs G gcd)
    (Γ : String → Option FDef) (fs : List String) (hfs : ∀ f ∈ fs, (∃ e ∈ T, e.f = f) ∨ (f = "gcd" ∧ gcd = true)) (hT : ∀ e ∈ T, e.Ok fs gs ∧ e.f ≠ "gcd" ∧ Γ e.f = some e.d) :
    ∀ (k : Nat), ∀ e ∈ T, ∃ a fd, mg (Str.ofString e.f) = some (.ref a) ∧ Fun K (Str.ofString e.f) (Str.ofString e.f) e.st a fd ∧ Binds K fd e.ps [] ∧ FnG P w K mg base k a fd e.ps (spF K e.ps.length (callF Γ G k e.f)) := by
  intro k
  induction k with
  | zero =>
    intro e he
    obtain ⟨a, fd, h1, h2, h3⟩ := tp.at_ e he
    refine ⟨a, fd, h1, h2, h3, ⟨fun vs H Q h => h.1, fun A outer s H args us vs Q hg hr e0 hb r h => ?_⟩⟩
    obtain ⟨_, ρ, S, ds, d, S', hs, rr, hf, hq⟩ := h
    rw [callF, if_neg (hT e he).2.1] at hf
    cases hf
  | succ k ih =>
    intro e he
    obtain ⟨a, fd, h1, h2, h3⟩ := tp.at_ e he
    obtain ⟨ok, ng, tb⟩ := hT e he
    refine ⟨a, fd, h1, h2, h3, ?_⟩
    have mo : Mo P w K mg base ⟨callF Γ G k, G⟩ k ⟨e.N, fs, gs⟩ := by
      refine ⟨fun f hf => ?_, tp.gl, tp.bt⟩
      rcases hfs f hf with ⟨e', he', rfl⟩ | ⟨rfl, hg⟩
      · have tb' := (hT e' he').2.2
        obtain ⟨a', fd', q1, q2, q3, q4⟩ := ih e' he'
        refine .inl ⟨a', fd', e'.ps, _, q1, q2.kp, q3, q4, fun vs H Q h => ⟨?_, h⟩⟩
        obtain ⟨ρ, S, ds, d, S', hs, rr, hf, hq⟩ := h
        have hf : callF Γ G k e'.f ds S = some (d, S') := hf
        cases k with
        | zero => rw [callF, if_neg (hT e' he').2.1] at hf; cases hf
        | succ k =>
          rw [callF, if_neg (hT e' he').2.1, tb'] at hf
          simp only [runF] at hf
          split at hf
          · rename_i hl
            rw [← rr.length, hl, (hT e' he').1.np]
          · cases hf
      · refine .inr ⟨rfl, tp.gc hg, ?_⟩
        funext vs S
        show callF Γ G k "gcd" vs S = bGcd vs S
        cases k <;> rw [callF, if_pos rfl]
    refine fnG_of h2 ok.sc (fun vs H Q h => h.1) fun cdv A outer s H vs Q hgd hr h => ?_
    obtain ⟨hlen, ρ, S, ds, d, S', hs, rr, hf, hq⟩ := h
    have gs' : GoodS ⟨e.N, fs, gs⟩ ⟨callF Γ G k, G⟩ k (cxOf CX0 P w K mg base e.N (Str.ofString e.f) (defScope e.st) a cdv A outer s H E0).nox :=
      ⟨⟨rfl, ok.sc.nd, rfl, hr, hgd, mo⟩, fun _ => rfl, PassesOwn.never, ok.sc.kind⟩
    refine ⟨LS K (exSs ⟨callF Γ G k, G⟩ e.d.body), sSs ⟨callF Γ G k, G⟩ ⟨e.N, fs, gs⟩ k _ gs' e.d.body (defBody e.st) ok.ms, ?_⟩
    rw [callF, if_neg ng, tb] at hf
    simp only [runF] at hf
    split at hf
    · rename_i hl
      obtain ⟨fl, S1, e1, hf1⟩ := bnd_inv hf
      refine ⟨ρ, start' e.d ds, S, fl, S1, hs, start_ok rr hl ok.nl, e1, fun H' ρ' mm p s' => ?_⟩
      cases fl with
      | rt d1 =>
        intro v rv
        simp only at hf1
        split at hf1
        · cases hf1
          exact hq H' ρ' v mm p s' rv
        · obtain ⟨ρ2, p2, s2, r2⟩ := fin_ok hs p s' rv hf1
          exact hq H' ρ2 v mm p2 s2 r2
      | nx env1 =>
        intro σ' _ _
        simp only at hf1
        split at hf1
        · cases hf1
          exact hq H' ρ' .non mm p s' rfl
        · obtain ⟨ρ2, p2, s2, r2⟩ := fin_ok (v := V.non) hs p s' (show Rp K H' ρ' D.non V.non from rfl) hf1
          exact hq H' ρ2 .non mm p2 s2 r2
      | bk _ => cases hf1
      | ct _ => cases hf1
    · cases hf
/-- the law's own promise -/
theorem law_sp {K : PySem.W.Frag} {C : List D → Sto → Option (D × Sto)} {H : Hp} {a : Addr} {ns : List Int} (ho : Only H) (hS : SqL K H a (ns.map V.int)) (h : ∃ S', C [.loc 0] [.ro (ns.map D.int)] = some (.bl true, S')) :
    spF K 1 C [.ref a] H (fun v _ => v = .bl true) := by
  obtain ⟨S', h⟩ := h
  refine ⟨rfl, [a], [.ro (ns.map D.int)], [.loc 0], .bl true, S', ⟨rfl, fun n so e => ?_, fun n m so so' b e e' hm => ?_⟩, ⟨.ref a, [], rfl, ⟨a, rfl, rfl⟩, rfl⟩, h, fun H' ρ' v m p s r => r⟩
  · cases n with
    | zero =>
      cases e
      refine ⟨a, rfl, ns.map V.int, ?_, RpL.ints.mpr rfl⟩
      rcases hS with (q | q) | q
      · rcases ho a with z | ⟨o, xs, z⟩
        · rw [z] at q; cases q
        · rw [z] at q; cases q
      · exact .inl q
      · exact .inr q
    | succ n => simp at e
  · cases n with
    | zero => cases e; cases hm
    | succ n => simp at e
/-- the law's call: nothing but the script is told at its entry -/
theorem law_run {P : Program} {w : World} {K : PySem.W.Frag} {mg mb : Str → Option Value} {k : Nat} {fa a : Addr} {fd : FuncData} {x : Str} {sp : List V → Hp → VK → Prop} {s1 : Shared} {vs : List Value} {ns : List Int}
    (kin : K.In s1.heap) (gns : s1.heap.Ns mainGlobals mg) (bns : s1.heap.Ns builtinsNs mb) (bbt : ∀ x : Str, x ≠ "__name__" → mb x = bootBuiltins x) (nl : s1.heap.NoLimit) (gens : s1.gens = #[])
    (scr : s1.heap.get? a = some { cls := .type "list", data := .seq vs.toArray }) (areI : IntsAre vs ns) (short : ns.length ≤ sizeLine) (room : Room k callerA)
    (F : ∀ base : Heap, K.In base → base.Ns mainGlobals mg → FnG P w K mg base k fa fd [x] sp) (bind : ∀ (s : Shared) (u : Value), BindsTo s fd ⟨[u], []⟩ [(x, u)])
    (want : ∀ H : Hp, Only H → SqL K H a (ns.map V.int) → sp [.ref a] H (fun v _ => v = .bl true)) :
    codeAny (model P w) callerA (.call (.ref fa) ⟨[.ref a], []⟩) (fun r s' => r = .ok (.ret (.bool true)) ∧ OldK s1.heap s'.heap ∧ s'.os = s1.os ∧ AllBare s'.gens) s1 := by
  have rel : Vals (ns.map V.int) vs := vals_ints areI
  -- the abstract heap: the script alone, unless it is one of the text's own objects
  obtain ⟨H, only, sq, ok, near, away⟩ : ∃ H : Hp, Only H ∧ SqL K H a (ns.map V.int) ∧ HOk P w H s1.heap ∧ (∀ b, H b ≠ none → b = a) ∧ (H a ≠ none → K.lookup a = none) := by
    cases look : K.lookup a with
    | some o =>
      have z := kin a o look
      rw [scr] at z
      cases z
      refine ⟨fun _ => none, fun _ => .inl rfl, .inr ⟨_, vs.toArray, _, look, rfl, rfl, rfl, ?_, by simpa using rel⟩, (fun b u z => by cases z), fun b z => absurd rfl z, fun z => absurd rfl z⟩
      rw [List.size_toArray, areI.length]
      exact short
    | none =>
      refine ⟨fun b => if b = a then some (.frz { cls := .type "list", data := .seq vs.toArray } (.lst (ns.map V.int))) else none, fun b => ?_, .inl (.inr ⟨_, if_pos rfl⟩), fun b u z => ?_, fun b z => ?_, fun _ => rfl⟩
      · by_cases q : b = a
        · exact .inr ⟨_, _, if_pos q⟩
        · exact .inl (if_neg q)
      · simp only at z
        split at z
        · rename_i q
          cases z
          subst q
          exact ⟨scr, by simpa using short, vs, _, rel, scr⟩
        · cases z
      · simp only at z
        split at z
        · assumption
        · exact absurd rfl z
  have free : ∀ {b : Addr} {o : Obj}, s1.heap.get? b = some o → (∀ xs n, o.data ≠ .seq xs n) → H b = none := by
    intro b o e nd
    cases q : H b with
    | none => rfl
    | some u =>
      have eb := near b (by rw [q]; simp)
      subst eb
      rw [scr] at e
      cases e
      exact absurd rfl (nd _ _)
  have keepN : ∀ {b : Addr} {m : Str → Option Value}, s1.heap.Ns b m → (hidT s1.heap H).Ns b m := by
    rintro b m ⟨o, es, ep, e, d, r⟩
    exact ⟨o, es, ep, hidT_get e (free e fun _ _ z => by rw [d] at z; cases z), d, r⟩
  have kin' : K.In (hidT s1.heap H) := by
    intro b o e
    refine hidT_get (kin b o e) ?_
    cases q : H b with
    | none => rfl
    | some u =>
      have eb := near b (by rw [q]; simp)
      subst eb
      rw [away (by rw [q]; simp)] at e
      cases e
  have e0 : Env0 P w K mg (hidT s1.heap H) callerA [] s1 H := by
    obtain ⟨mc, h1, h2⟩ := nl
    exact { frames := rfl, mod := ⟨kin', keepN gns, ⟨mb, keepN bns, bbt⟩, ⟨mc, keepN h1, h2⟩⟩, bs := fun b o z => of_hidT z, bsz := by rw [hidT_size]; exact Nat.le_refl _, funs := trivial, frf := (fun b hb => nomatch hb), hok := ok, bare := .of_eq gens }
  refine codeAny_mono ((F _ kin' (keepN gns)).go callerA [] s1 H ⟨[.ref a], []⟩ [.ref a] [.ref a] _ rfl room e0 (bind s1 _) (.cons rfl .nil) (want H only sq)) ?_
  rintro r s' ⟨u, rfl, v, H', os, bare, un, ok', ru, ev⟩
  have ev : v = .bl true := ev
  subst ev
  have eu : u = .bool true := ru
  subst eu
  refine ⟨rfl, OldK.of_keep fun b o e => ?_, os, bare⟩
  rcases only b with z | ⟨ob, xs, z⟩
  · exact un.keep b o e z (by intro hb; cases hb) (by intro hb; cases hb)
  · obtain ⟨g1, _⟩ := ok b _ z
    obtain ⟨g2, _⟩ := ok' b _ (un.frzs b ob _ z)
    rw [e] at g1
    cases g1
    exact g2
/-- the goal that the head leaves -/
theorem walkG {l : PySem.W.OpenLaw} {n k : Nat} {q : Program} {loose : List Str} {XP : (Str → Option Value) → Heap → Prop} {YP : World → Heap → Prop} {d : DefRec} {K : Params → PySem.W.Frag} {C : List D → Sto → Option (D × Sto)} {x : Str}
    (most : l.most = some n) (short : n ≤ sizeLine) (nodef : d.params.defaults = []) (room : Room k callerA) (kin : ∀ (w : World) (h : Heap), YP w h → (K w.params).In h)
    (F : ∀ (w : World) (mg : Str → Option Value) (fa : Addr) (h : Heap), (K w.params).In h → h.Ns mainGlobals mg → mg d.name = some (.ref fa) →
      ∃ fd : FuncData, (∀ (s : Shared) (u : Value), BindsTo s fd ⟨[u], []⟩ [(x, u)]) ∧ ∀ base : Heap, (K w.params).In base → base.Ns mainGlobals mg → FnG l.prog w (K w.params) mg base k fa fd [x] (spF (K w.params) 1 C))
    (law : ∀ ns : List Int, ns.length ≤ n → ∃ S', C [.loc 0] [.ro (ns.map D.int)] = some (.bl true, S')) :
    PySem.W.WalkO q loose XP YP l.row.toRowW d [] (fun f vs => PySem.call f vs) := by
  apply Att.attach_call most nodef
  intro w s0 s1 mg mb fa o pm cd doc a vs ns G Y ho hd hcd hmg hobj hints hlen hg
  obtain ⟨fd, hb, hF⟩ := F w mg fa _ (kin w _ Y) G.T.g hmg
  exact law_run (kin w _ Y) G.T.g G.T.b G.T.builtins G.T.nolimit hg hobj hints (Nat.le_trans hlen short) room hF hb fun H only sq => law_sp only sq (law ns hlen)
end Cs

set_option Elab.async false
set_option linter.all false
set_option maxRecDepth 100000
namespace K80
open PySem PySem.Spec PyProof.Rows L2 Cs
/-- lowest(numerator, denominator): slots 0 numerator, 1 denominator, 2 common -/
def d_lowest : FDef where
  np := 2
  nl := 3
  keep := false
  body := [
    .iff (.cmp .lt (.var 1) (.cn (.int 0))) [.par 0 1 (.neg (.var 0)) (.neg (.var 1))] [],
    .set 2 (.call "gcd" [(.var 0), (.var 1)]),
    .ret (.tup [(.bin .fdiv (.var 0) (.var 2)), (.bin .fdiv (.var 1) (.var 2))])]
/-- plus(a, b): slots 0 a, 1 b -/
def d_plus : FDef where
  np := 2
  nl := 2
  keep := false
  body := [
    .ret (.call "lowest" [(.bin .add (.bin .mul (.idx (.var 0) (.cn (.int 0))) (.idx (.var 1) (.cn (.int 1)))) (.bin .mul (.idx (.var 1) (.cn (.int 0))) (.idx (.var 0) (.cn (.int 1))))), (.bin .mul (.idx (.var 0) (.cn (.int 1))) (.idx (.var 1) (.cn (.int 1))))])]
/-- minus(a, b): slots 0 a, 1 b -/
def d_minus : FDef where
  np := 2
  nl := 2
  keep := false
  body := [
    .ret (.call "lowest" [(.bin .sub (.bin .mul (.idx (.var 0) (.cn (.int 0))) (.idx (.var 1) (.cn (.int 1)))) (.bin .mul (.idx (.var 1) (.cn (.int 0))) (.idx (.var 0) (.cn (.int 1))))), (.bin .mul (.idx (.var 0) (.cn (.int 1))) (.idx (.var 1) (.cn (.int 1))))])]
/-- over(a, b): slots 0 a, 1 b -/
def d_over : FDef where
  np := 2
  nl := 2
  keep := false
  body := [
    .ret (.call "lowest" [(.bin .mul (.idx (.var 0) (.cn (.int 0))) (.idx (.var 1) (.cn (.int 1)))), (.bin .mul (.idx (.var 0) (.cn (.int 1))) (.idx (.var 1) (.cn (.int 0))))])]
/-- compare(a, b): slots 0 a, 1 b, 2 left, 3 right -/
def d_compare : FDef where
  np := 2
  nl := 4
  keep := false
  body := [
    .set 2 (.bin .mul (.idx (.var 0) (.cn (.int 0))) (.idx (.var 1) (.cn (.int 1)))),
    .set 3 (.bin .mul (.idx (.var 1) (.cn (.int 0))) (.idx (.var 0) (.cn (.int 1)))),
    .ret (.bin .sub (.blt "int" [(.cmp .gt (.var 2) (.var 3))]) (.blt "int" [(.cmp .lt (.var 2) (.var 3))]))]
/-- floor_of(a): slots 0 a -/
def d_floor_of : FDef where
  np := 1
  nl := 1
  keep := false
  body := [
    .ret (.bin .fdiv (.idx (.var 0) (.cn (.int 0))) (.idx (.var 0) (.cn (.int 1))))]
/-- least_whole(low, with_low): slots 0 low, 1 with_low -/
def d_least_whole : FDef where
  np := 2
  nl := 2
  keep := false
  body := [
    .iff (.and (.cmp .eq (.idx (.var 0) (.cn (.int 1))) (.cn (.int 1))) (.var 1)) [.ret (.idx (.var 0) (.cn (.int 0)))] [],
    .ret (.bin .add (.call "floor_of" [(.var 0)]) (.cn (.int 1)))]
/-- simplest_above(low, with_low, high, with_high): slots 0 low, 1 with_low, 2 high, 3 with_high, 4 wholes, 5 whole, 6 found, 7 rest -/
def d_simplest_above : FDef where
  np := 4
  nl := 8
  keep := false
  body := [
    .set 4 (.lst []),
    .whl (.cn (.bl true)) [.set 6 (.tup [(.call "least_whole" [(.var 0), (.var 1)]), (.cn (.int 1))]), .iff (.or (.isN (.var 2)) (.or (.cmp .lt (.call "compare" [(.var 6), (.var 2)]) (.cn (.int 0))) (.and (.var 3) (.cmp .eq (.var 6) (.var 2))))) [.brk] [], .set 5 (.tup [(.call "floor_of" [(.var 0)]), (.cn (.int 1))]), .ex (.mth "append" (.var 4) [(.var 5)]), .set 7 (.call "minus" [(.var 0), (.var 5)]), .set 0 (.call "over" [(.glb "ONE"), (.call "minus" [(.var 2), (.var 5)])]), .set 2 (.cn .non), .iff (.cmp .ne (.var 7) (.glb "ZERO")) [.set 2 (.call "over" [(.glb "ONE"), (.var 7)])] [], .par 1 3 (.var 3) (.var 1)],
    .for_ (.v 5) .rev [(.var 4)] [.set 6 (.call "plus" [(.var 5), (.call "over" [(.glb "ONE"), (.var 6)])])],
    .ret (.var 6)]
/-- simplest(span): slots 0 span, 1 found, 2 low, 3 high, 4 closed -/
def d_simplest : FDef where
  np := 1
  nl := 5
  keep := false
  body := [
    .setT [2, 3, 4] (.var 0),
    .iff (.cmp .gt (.call "compare" [(.var 2), (.glb "ZERO")]) (.cn (.int 0))) [.ret (.call "simplest_above" [(.var 2), (.cn (.bl true)), (.var 3), (.var 4)])] [],
    .iff (.or (.cmp .gt (.call "compare" [(.var 3), (.glb "ZERO")]) (.cn (.int 0))) (.and (.var 4) (.cmp .eq (.var 3) (.glb "ZERO")))) [.ret (.glb "ZERO")] [],
    .set 1 (.call "simplest_above" [(.call "minus" [(.glb "ZERO"), (.var 3)]), (.var 4), (.call "minus" [(.glb "ZERO"), (.var 2)]), (.cn (.bl true))]),
    .ret (.call "minus" [(.glb "ZERO"), (.var 1)])]
/-- _law_tape(_law_script): slots 0 _law_script, 1 _law_total, 2 _law_cell -/
def d_law_tape : FDef where
  np := 1
  nl := 3
  keep := true
  body := [
    .set 1 (.cn (.int 7)),
    .for_ (.v 2) .seq [(.var 0)] [.set 1 (.bin .mod (.blt "int" [(.bin .add (.bin .mul (.var 1) (.cn (.int 31))) (.blt "abs" [(.blt "int" [(.var 2)])]))]) (.cn (.int 2147483647)))],
    .ret (.lst [(.blt "list" [(.var 0)]), (.cn (.int 0)), (.cn (.int 0)), (.var 1)])]
/-- _law_draw(_law_tape_here, _law_many): slots 0 _law_tape_here, 1 _law_many, 2 _law_number, 3 _law_place -/
def d_law_draw : FDef where
  np := 2
  nl := 4
  keep := false
  body := [
    .iff (.cmp .eq (.idx (.var 0) (.cn (.int 2))) (.cn (.int 0))) [.set 3 (.idx (.var 0) (.cn (.int 1))), .set 2 (.cn (.int 0)), .iff (.cmp .lt (.var 3) (.blt "len" [(.idx (.var 0) (.cn (.int 0)))])) [.set 2 (.blt "abs" [(.blt "int" [(.idx (.idx (.var 0) (.cn (.int 0))) (.var 3))])])] [.setI (.var 0) (.cn (.int 3)) (.bin .mod (.blt "int" [(.bin .add (.bin .add (.bin .mul (.idx (.var 0) (.cn (.int 3))) (.cn (.int 48271))) (.var 3)) (.cn (.int 1)))]) (.cn (.int 2147483647))), .set 2 (.idx (.var 0) (.cn (.int 3)))], .setI (.var 0) (.cn (.int 1)) (.bin .add (.var 3) (.cn (.int 1))), .iff (.cmp .lt (.var 2) (.bin .pow (.cn (.int 10)) (.cn (.int 18)))) [.set 2 (.bin .mod (.blt "int" [(.bin .add (.bin .add (.bin .mul (.var 2) (.cn (.int 48271))) (.bin .mul (.var 3) (.cn (.int 69621)))) (.cn (.int 5)))]) (.cn (.int 2147483647))), .set 2 (.bin .mod (.blt "int" [(.bin .mul (.var 2) (.cn (.int 69621)))]) (.cn (.int 2147483629))), .ret (.bin .mod (.blt "int" [(.var 2)]) (.blt "max" [(.var 1), (.cn (.int 1))]))] [], .setI (.var 0) (.cn (.int 2)) (.var 2)] [],
    .set 2 (.idx (.var 0) (.cn (.int 2))),
    .setI (.var 0) (.cn (.int 2)) (.bin .fdiv (.var 2) (.blt "max" [(.var 1), (.cn (.int 2))])),
    .ret (.bin .mod (.blt "int" [(.var 2)]) (.blt "max" [(.var 1), (.cn (.int 1))]))]
/-- _law_lowest(_law_n, _law_d): slots 0 _law_n, 1 _law_d, 2 _law_a, 3 _law_b, 4 _law_rest -/
def d_law_lowest : FDef where
  np := 2
  nl := 5
  keep := false
  body := [
    .set 2 (.blt "abs" [(.var 0)]),
    .set 3 (.blt "abs" [(.var 1)]),
    .whl (.cmp .gt (.var 3) (.cn (.int 0))) [.set 4 (.bin .mod (.blt "int" [(.var 2)]) (.var 3)), .set 2 (.var 3), .set 3 (.var 4)],
    .iff (.cmp .lt (.var 1) (.cn (.int 0))) [.set 2 (.bin .sub (.cn (.int 0)) (.var 2))] [],
    .ret (.tup [(.bin .fdiv (.var 0) (.var 2)), (.bin .fdiv (.var 1) (.var 2))])]
/-- _law_cell_kind(_law_cell): slots 0 _law_cell -/
def d_law_cell_kind : FDef where
  np := 1
  nl := 1
  keep := false
  body := [
    .iff (.isi (.var 0) "bool") [.ret (.cn (.str "boolean"))] [],
    .iff (.isi (.var 0) "str") [.ret (.cn (.str "text"))] [],
    .ret (.cn (.str "number"))]
/-- _law_comes_before(_law_one, _law_other): slots 0 _law_one, 1 _law_other, 2 _law_ranks -/
def d_law_comes_before : FDef where
  np := 2
  nl := 3
  keep := false
  body := [
    .iff (.or (.isN (.var 0)) (.isN (.var 1))) [.ret (.notN (.var 0))] [],
    .set 2 (.lst [(.cn (.str "boolean")), (.cn (.str "number")), (.cn (.str "text"))]),
    .iff (.cmp .ne (.call "_law_cell_kind" [(.var 0)]) (.call "_law_cell_kind" [(.var 1)])) [.ret (.cmp .lt (.mth "index" (.var 2) [(.call "_law_cell_kind" [(.var 0)])]) (.mth "index" (.var 2) [(.call "_law_cell_kind" [(.var 1)])]))] [],
    .iff (.isi (.var 0) "tuple") [.ret (.cmp .lt (.bin .mul (.idx (.var 0) (.cn (.int 0))) (.idx (.var 1) (.cn (.int 1)))) (.bin .mul (.idx (.var 1) (.cn (.int 0))) (.idx (.var 0) (.cn (.int 1)))))] [],
    .ret (.cmp .lt (.var 0) (.var 1))]
/-- _law_ends(_law_tape_here): slots 0 _law_tape_here, 1 _law_low, 2 _law_size -/
def d_law_ends : FDef where
  np := 1
  nl := 3
  keep := false
  body := [
    .set 1 (.idx (.lst [(.tup [(.cn (.int 0)), (.cn (.int 1))]), (.tup [(.cn (.int 0)), (.cn (.int 1))]), (.tup [(.neg (.cn (.int 3))), (.cn (.int 2))]), (.tup [(.bin .sub (.call "_law_draw" [(.var 0), (.cn (.int 20))]) (.cn (.int 10))), (.cn (.int 1))])]) (.call "_law_draw" [(.var 0), (.cn (.int 4))])),
    .set 2 (.idx (.lst [(.tup [(.cn (.int 10)), (.cn (.int 1))]), (.tup [(.cn (.int 1)), (.cn (.int 1))]), (.tup [(.cn (.int 7)), (.cn (.int 3))]), (.tup [(.bin .add (.cn (.int 1)) (.call "_law_draw" [(.var 0), (.cn (.int 40))])), (.cn (.int 1))])]) (.call "_law_draw" [(.var 0), (.cn (.int 4))])),
    .ret (.tup [(.var 1), (.call "_law_lowest" [(.bin .add (.bin .mul (.idx (.var 1) (.cn (.int 0))) (.idx (.var 2) (.cn (.int 1)))) (.bin .mul (.idx (.var 2) (.cn (.int 0))) (.idx (.var 1) (.cn (.int 1))))), (.bin .mul (.idx (.var 1) (.cn (.int 1))) (.idx (.var 2) (.cn (.int 1))))])])]
/-- _law_edge(_law_domain, _law_length, _law_p): slots 0 _law_domain, 1 _law_length, 2 _law_p, 3 _law_a, 4 _law_b, 5 _law_step -/
def d_law_edge : FDef where
  np := 3
  nl := 6
  keep := false
  body := [
    .set 3 (.idx (.var 0) (.cn (.int 0))),
    .set 4 (.idx (.var 0) (.cn (.int 1))),
    .set 5 (.bin .mul (.bin .sub (.bin .mul (.cn (.int 2)) (.var 2)) (.cn (.int 1))) (.bin .sub (.bin .mul (.idx (.var 4) (.cn (.int 0))) (.idx (.var 3) (.cn (.int 1)))) (.bin .mul (.idx (.var 3) (.cn (.int 0))) (.idx (.var 4) (.cn (.int 1)))))),
    .ret (.call "_law_lowest" [(.bin .add (.bin .mul (.bin .mul (.bin .mul (.idx (.var 3) (.cn (.int 0))) (.cn (.int 2))) (.var 1)) (.idx (.var 4) (.cn (.int 1)))) (.var 5)), (.bin .mul (.bin .mul (.bin .mul (.cn (.int 2)) (.var 1)) (.idx (.var 3) (.cn (.int 1)))) (.idx (.var 4) (.cn (.int 1))))])]
/-- _law_span(_law_ruler, _law_pixel): slots 0 _law_ruler, 1 _law_pixel, 2 _law_p, 3 _law_low, 4 _law_high -/
def d_law_span : FDef where
  np := 2
  nl := 5
  keep := false
  body := [
    .set 2 (.var 1),
    .iff (.idx (.var 0) (.cn (.int 3))) [.set 2 (.bin .sub (.idx (.var 0) (.cn (.int 2))) (.var 1))] [],
    .set 3 (.idx (.idx (.var 0) (.cn (.int 1))) (.cn (.int 0))),
    .iff (.cmp .gt (.var 2) (.cn (.int 0))) [.set 3 (.call "_law_edge" [(.idx (.var 0) (.cn (.int 1))), (.idx (.var 0) (.cn (.int 2))), (.var 2)])] [],
    .set 4 (.idx (.idx (.var 0) (.cn (.int 1))) (.cn (.int 1))),
    .iff (.cmp .lt (.var 2) (.idx (.var 0) (.cn (.int 2)))) [.set 4 (.call "_law_edge" [(.idx (.var 0) (.cn (.int 1))), (.idx (.var 0) (.cn (.int 2))), (.bin .add (.var 2) (.cn (.int 1)))])] [],
    .ret (.tup [(.var 3), (.var 4), (.cmp .eq (.var 2) (.idx (.var 0) (.cn (.int 2))))])]
/-- _law_simplest(_law_span_here): slots 0 _law_span_here, 1 _law_low, 2 _law_high, 3 _law_d, 4 _law_first, 5 _law_last -/
def d_law_simplest : FDef where
  np := 1
  nl := 6
  keep := false
  body := [
    .set 1 (.idx (.var 0) (.cn (.int 0))),
    .set 2 (.idx (.var 0) (.cn (.int 1))),
    .for_ (.v 3) .rng [(.cn (.int 1)), (.bin .add (.idx (.var 1) (.cn (.int 1))) (.cn (.int 1)))] [.set 4 (.neg (.bin .fdiv (.bin .mul (.neg (.idx (.var 1) (.cn (.int 0)))) (.var 3)) (.idx (.var 1) (.cn (.int 1))))), .set 5 (.bin .fdiv (.bin .mul (.idx (.var 2) (.cn (.int 0))) (.var 3)) (.idx (.var 2) (.cn (.int 1)))), .iff (.and (.cmp .eq (.bin .mul (.var 5) (.idx (.var 2) (.cn (.int 1)))) (.bin .mul (.idx (.var 2) (.cn (.int 0))) (.var 3))) (.nt (.idx (.var 0) (.cn (.int 2))))) [.set 5 (.bin .sub (.var 5) (.cn (.int 1)))] [], .iff (.cmp .le (.var 4) (.var 5)) [.ret (.tup [(.blt "max" [(.var 4), (.blt "min" [(.var 5), (.cn (.int 0))])]), (.var 3)])] []],
    .ret (.var 1)]
/-- _law_lies_in(_law_x, _law_span_here): slots 0 _law_x, 1 _law_span_here -/
def d_law_lies_in : FDef where
  np := 2
  nl := 2
  keep := false
  body := [
    .iff (.call "_law_comes_before" [(.var 0), (.idx (.var 1) (.cn (.int 0)))]) [.ret (.cn (.bl false))] [],
    .ret (.or (.call "_law_comes_before" [(.var 0), (.idx (.var 1) (.cn (.int 1)))]) (.and (.idx (.var 1) (.cn (.int 2))) (.cmp .eq (.var 0) (.idx (.var 1) (.cn (.int 1))))))]
/-- _law_drawn_span(_law_tape_here): slots 0 _law_tape_here, 1 _law_low, 2 _law_more, 3 _law_high, 4 _law_ends_here, 5 _law_ruler -/
def d_law_drawn_span : FDef where
  np := 1
  nl := 6
  keep := false
  body := [
    .iff (.cmp .eq (.call "_law_draw" [(.var 0), (.cn (.int 2))]) (.cn (.int 0))) [.set 4 (.call "_law_ends" [(.var 0)]), .set 5 (.tup [(.cn (.str "linear")), (.var 4), (.bin .add (.cn (.int 4)) (.call "_law_draw" [(.var 0), (.cn (.int 397))])), (.cn (.bl false)), (.cn (.bl false))]), .ret (.call "_law_span" [(.var 5), (.call "_law_draw" [(.var 0), (.bin .add (.idx (.var 5) (.cn (.int 2))) (.cn (.int 1)))])])] [],
    .set 1 (.call "_law_lowest" [(.bin .sub (.call "_law_draw" [(.var 0), (.cn (.int 400))]) (.cn (.int 200))), (.bin .add (.cn (.int 1)) (.call "_law_draw" [(.var 0), (.cn (.int 60))]))]),
    .iff (.cmp .eq (.call "_law_draw" [(.var 0), (.cn (.int 3))]) (.cn (.int 0))) [.set 1 (.idx (.lst [(.tup [(.cn (.int 0)), (.cn (.int 1))]), (.tup [(.neg (.cn (.int 1))), (.bin .add (.cn (.int 1)) (.call "_law_draw" [(.var 0), (.cn (.int 9))]))])]) (.call "_law_draw" [(.var 0), (.cn (.int 2))]))] [],
    .set 2 (.call "_law_lowest" [(.bin .add (.cn (.int 1)) (.call "_law_draw" [(.var 0), (.cn (.int 60))])), (.bin .add (.cn (.int 1)) (.call "_law_draw" [(.var 0), (.cn (.int 60))]))]),
    .set 3 (.call "_law_lowest" [(.bin .add (.bin .mul (.idx (.var 1) (.cn (.int 0))) (.idx (.var 2) (.cn (.int 1)))) (.bin .mul (.idx (.var 2) (.cn (.int 0))) (.idx (.var 1) (.cn (.int 1))))), (.bin .mul (.idx (.var 1) (.cn (.int 1))) (.idx (.var 2) (.cn (.int 1))))]),
    .ret (.tup [(.var 1), (.var 3), (.cmp .eq (.call "_law_draw" [(.var 0), (.cn (.int 2))]) (.cn (.int 0)))])]
/-- law(_law_script): slots 0 _law_script, 1 _law_tape_here, 2 _law_span_here, 3 _law_told, 4 _law_low, 5 _law_high, 6 _law_part, 7 _law_whole, 8 _law_other -/
def d_law : FDef where
  np := 1
  nl := 9
  keep := false
  body := [
    .set 1 (.call "_law_tape" [(.var 0)]),
    .set 2 (.call "_law_drawn_span" [(.var 1)]),
    .set 3 (.call "simplest" [(.var 2)]),
    .iff (.or (.cmp .ne (.blt "repr" [(.var 3)]) (.blt "repr" [(.call "_law_simplest" [(.var 2)])])) (.nt (.call "_law_lies_in" [(.var 3), (.var 2)]))) [.ret (.cn (.bl false))] [],
    .set 4 (.idx (.var 2) (.cn (.int 0))),
    .set 5 (.idx (.var 2) (.cn (.int 1))),
    .set 6 (.bin .add (.cn (.int 1)) (.call "_law_draw" [(.var 1), (.cn (.int 30))])),
    .set 7 (.bin .add (.var 6) (.call "_law_draw" [(.var 1), (.cn (.int 30))])),
    .set 8 (.call "_law_lowest" [(.bin .add (.bin .mul (.bin .mul (.idx (.var 4) (.cn (.int 0))) (.idx (.var 5) (.cn (.int 1)))) (.bin .sub (.var 7) (.var 6))) (.bin .mul (.bin .mul (.idx (.var 5) (.cn (.int 0))) (.idx (.var 4) (.cn (.int 1)))) (.var 6))), (.bin .mul (.bin .mul (.idx (.var 4) (.cn (.int 1))) (.idx (.var 5) (.cn (.int 1)))) (.var 7))]),
    .ret (.or (.nt (.call "_law_lies_in" [(.var 8), (.var 2)])) (.cmp .le (.idx (.var 3) (.cn (.int 1))) (.idx (.var 8) (.cn (.int 1)))))]
def tab : String → Option FDef
  | "lowest" => some d_lowest
  | "plus" => some d_plus
  | "minus" => some d_minus
  | "over" => some d_over
  | "compare" => some d_compare
  | "floor_of" => some d_floor_of
  | "least_whole" => some d_least_whole
  | "simplest_above" => some d_simplest_above
  | "simplest" => some d_simplest
  | "_law_tape" => some d_law_tape
  | "_law_draw" => some d_law_draw
  | "_law_lowest" => some d_law_lowest
  | "_law_cell_kind" => some d_law_cell_kind
  | "_law_comes_before" => some d_law_comes_before
  | "_law_ends" => some d_law_ends
  | "_law_edge" => some d_law_edge
  | "_law_span" => some d_law_span
  | "_law_simplest" => some d_law_simplest
  | "_law_lies_in" => some d_law_lies_in
  | "_law_drawn_span" => some d_law_drawn_span
  | "law" => some d_law
  | _ => none
def topS (i : Nat) : Stmt := PySem.Challenge.pw_chartspec_k80_simplest_fractions.main.body.getD i (.Pass ⟨0, 0, 0, 0⟩)
abbrev fs : List String := ["_law_cell_kind", "_law_comes_before", "_law_draw", "_law_drawn_span", "_law_edge", "_law_ends", "_law_lies_in", "_law_lowest", "_law_simplest", "_law_span", "_law_tape", "compare", "floor_of", "gcd", "least_whole", "lowest", "minus", "over", "plus", "simplest", "simplest_above"]
abbrev gs : List String := ["ONE", "ZERO"]
abbrev ed_lowest : Cs.Entry := ⟨"lowest", topS 2, ["numerator", "denominator", "common"], ["numerator", "denominator"], d_lowest⟩
abbrev ed_plus : Cs.Entry := ⟨"plus", topS 3, ["a", "b"], ["a", "b"], d_plus⟩
abbrev ed_minus : Cs.Entry := ⟨"minus", topS 4, ["a", "b"], ["a", "b"], d_minus⟩
abbrev ed_over : Cs.Entry := ⟨"over", topS 5, ["a", "b"], ["a", "b"], d_over⟩
abbrev ed_compare : Cs.Entry := ⟨"compare", topS 6, ["a", "b", "left", "right"], ["a", "b"], d_compare⟩
abbrev ed_floor_of : Cs.Entry := ⟨"floor_of", topS 7, ["a"], ["a"], d_floor_of⟩
abbrev ed_least_whole : Cs.Entry := ⟨"least_whole", topS 11, ["low", "with_low"], ["low", "with_low"], d_least_whole⟩
abbrev ed_simplest_above : Cs.Entry := ⟨"simplest_above", topS 12, ["low", "with_low", "high", "with_high", "wholes", "whole", "found", "rest"], ["low", "with_low", "high", "with_high"], d_simplest_above⟩
abbrev ed_simplest : Cs.Entry := ⟨"simplest", topS 13, ["span", "found", "low", "high", "closed"], ["span"], d_simplest⟩
abbrev ed_law_tape : Cs.Entry := ⟨"_law_tape", topS 15, ["_law_script", "_law_total", "_law_cell"], ["_law_script"], d_law_tape⟩
abbrev ed_law_draw : Cs.Entry := ⟨"_law_draw", topS 16, ["_law_tape_here", "_law_many", "_law_number", "_law_place"], ["_law_tape_here", "_law_many"], d_law_draw⟩
abbrev ed_law_lowest : Cs.Entry := ⟨"_law_lowest", topS 17, ["_law_n", "_law_d", "_law_a", "_law_b", "_law_rest"], ["_law_n", "_law_d"], d_law_lowest⟩
abbrev ed_law_cell_kind : Cs.Entry := ⟨"_law_cell_kind", topS 18, ["_law_cell"], ["_law_cell"], d_law_cell_kind⟩
abbrev ed_law_comes_before : Cs.Entry := ⟨"_law_comes_before", topS 19, ["_law_one", "_law_other", "_law_ranks"], ["_law_one", "_law_other"], d_law_comes_before⟩
abbrev ed_law_ends : Cs.Entry := ⟨"_law_ends", topS 20, ["_law_tape_here", "_law_low", "_law_size"], ["_law_tape_here"], d_law_ends⟩
abbrev ed_law_edge : Cs.Entry := ⟨"_law_edge", topS 21, ["_law_domain", "_law_length", "_law_p", "_law_a", "_law_b", "_law_step"], ["_law_domain", "_law_length", "_law_p"], d_law_edge⟩
abbrev ed_law_span : Cs.Entry := ⟨"_law_span", topS 22, ["_law_ruler", "_law_pixel", "_law_p", "_law_low", "_law_high"], ["_law_ruler", "_law_pixel"], d_law_span⟩
abbrev ed_law_simplest : Cs.Entry := ⟨"_law_simplest", topS 23, ["_law_span_here", "_law_low", "_law_high", "_law_d", "_law_first", "_law_last"], ["_law_span_here"], d_law_simplest⟩
abbrev ed_law_lies_in : Cs.Entry := ⟨"_law_lies_in", topS 24, ["_law_x", "_law_span_here"], ["_law_x", "_law_span_here"], d_law_lies_in⟩
abbrev ed_law_drawn_span : Cs.Entry := ⟨"_law_drawn_span", topS 25, ["_law_tape_here", "_law_low", "_law_more", "_law_high", "_law_ends_here", "_law_ruler"], ["_law_tape_here"], d_law_drawn_span⟩
abbrev ed_law : Cs.Entry := ⟨"law", topS 26, ["_law_script", "_law_tape_here", "_law_span_here", "_law_told", "_law_low", "_law_high", "_law_part", "_law_whole", "_law_other"], ["_law_script"], d_law⟩
theorem okd_lowest : ed_lowest.Ok fs gs := ⟨⟨rfl, rfl, rfl, by decide +kernel, rfl, by decide +kernel, by decide +kernel⟩, by decide +kernel, rfl, rfl⟩
theorem okd_plus : ed_plus.Ok fs gs := ⟨⟨rfl, rfl, rfl, by decide +kernel, rfl, by decide +kernel, by decide +kernel⟩, by decide +kernel, rfl, rfl⟩
theorem okd_minus : ed_minus.Ok fs gs := ⟨⟨rfl, rfl, rfl, by decide +kernel, rfl, by decide +kernel, by decide +kernel⟩, by decide +kernel, rfl, rfl⟩
theorem okd_over : ed_over.Ok fs gs := ⟨⟨rfl, rfl, rfl, by decide +kernel, rfl, by decide +kernel, by decide +kernel⟩, by decide +kernel, rfl, rfl⟩
theorem okd_compare : ed_compare.Ok fs gs := ⟨⟨rfl, rfl, rfl, by decide +kernel, rfl, by decide +kernel, by decide +kernel⟩, by decide +kernel, rfl, rfl⟩
theorem okd_floor_of : ed_floor_of.Ok fs gs := ⟨⟨rfl, rfl, rfl, by decide +kernel, rfl, by decide +kernel, by decide +kernel⟩, by decide +kernel, rfl, rfl⟩
theorem okd_least_whole : ed_least_whole.Ok fs gs := ⟨⟨rfl, rfl, rfl, by decide +kernel, rfl, by decide +kernel, by decide +kernel⟩, by decide +kernel, rfl, rfl⟩
theorem okd_simplest_above : ed_simplest_above.Ok fs gs := ⟨⟨rfl, rfl, rfl, by decide +kernel, rfl, by decide +kernel, by decide +kernel⟩, by decide +kernel, rfl, rfl⟩
theorem okd_simplest : ed_simplest.Ok fs gs := ⟨⟨rfl, rfl, rfl, by decide +kernel, rfl, by decide +kernel, by decide +kernel⟩, by decide +kernel, rfl, rfl⟩
theorem okd_law_tape : ed_law_tape.Ok fs gs := ⟨⟨rfl, rfl, rfl, by decide +kernel, rfl, by decide +kernel, by decide +kernel⟩, by decide +kernel, rfl, rfl⟩
theorem okd_law_draw : ed_law_draw.Ok fs gs := ⟨⟨rfl, rfl, rfl, by decide +kernel, rfl, by decide +kernel, by decide +kernel⟩, by decide +kernel, rfl, rfl⟩
theorem okd_law_lowest : ed_law_lowest.Ok fs gs := ⟨⟨rfl, rfl, rfl, by decide +kernel, rfl, by decide +kernel, by decide +kernel⟩, by decide +kernel, rfl, rfl⟩
theorem okd_law_cell_kind : ed_law_cell_kind.Ok fs gs := ⟨⟨rfl, rfl, rfl, by decide +kernel, rfl, by decide +kernel, by decide +kernel⟩, by decide +kernel, rfl, rfl⟩
theorem okd_law_comes_before : ed_law_comes_before.Ok fs gs := ⟨⟨rfl, rfl, rfl, by decide +kernel, rfl, by decide +kernel, by decide +kernel⟩, by decide +kernel, rfl, rfl⟩
theorem okd_law_ends : ed_law_ends.Ok fs gs := ⟨⟨rfl, rfl, rfl, by decide +kernel, rfl, by decide +kernel, by decide +kernel⟩, by decide +kernel, rfl, rfl⟩
theorem okd_law_edge : ed_law_edge.Ok fs gs := ⟨⟨rfl, rfl, rfl, by decide +kernel, rfl, by decide +kernel, by decide +kernel⟩, by decide +kernel, rfl, rfl⟩
theorem okd_law_span : ed_law_span.Ok fs gs := ⟨⟨rfl, rfl, rfl, by decide +kernel, rfl, by decide +kernel, by decide +kernel⟩, by decide +kernel, rfl, rfl⟩
theorem okd_law_simplest : ed_law_simplest.Ok fs gs := ⟨⟨rfl, rfl, rfl, by decide +kernel, rfl, by decide +kernel, by decide +kernel⟩, by decide +kernel, rfl, rfl⟩
theorem okd_law_lies_in : ed_law_lies_in.Ok fs gs := ⟨⟨rfl, rfl, rfl, by decide +kernel, rfl, by decide +kernel, by decide +kernel⟩, by decide +kernel, rfl, rfl⟩
theorem okd_law_drawn_span : ed_law_drawn_span.Ok fs gs := ⟨⟨rfl, rfl, rfl, by decide +kernel, rfl, by decide +kernel, by decide +kernel⟩, by decide +kernel, rfl, rfl⟩
theorem okd_law : ed_law.Ok fs gs := ⟨⟨rfl, rfl, rfl, by decide +kernel, rfl, by decide +kernel, by decide +kernel⟩, by decide +kernel, rfl, rfl⟩
abbrev ents : List Cs.Entry := [ed_lowest, ed_plus, ed_minus, ed_over, ed_compare, ed_floor_of, ed_least_whole, ed_simplest_above, ed_simplest, ed_law_tape, ed_law_draw, ed_law_lowest, ed_law_cell_kind, ed_law_comes_before, ed_law_ends, ed_law_edge, ed_law_span, ed_law_simplest, ed_law_lies_in, ed_law_drawn_span, ed_law]
theorem entsOk : ∀ e ∈ ents, e.Ok fs gs ∧ e.f ≠ "gcd" ∧ tab e.f = some e.d := by
  intro e h
  simp only [List.mem_cons, List.not_mem_nil, or_false] at h
  rcases h with rfl | rfl | rfl | rfl | rfl | rfl | rfl | rfl | rfl | rfl | rfl | rfl | rfl | rfl | rfl | rfl | rfl | rfl | rfl | rfl | rfl
  · exact ⟨okd_lowest, by decide, rfl⟩
  · exact ⟨okd_plus, by decide, rfl⟩
  · exact ⟨okd_minus, by decide, rfl⟩
  · exact ⟨okd_over, by decide, rfl⟩
  · exact ⟨okd_compare, by decide, rfl⟩
  · exact ⟨okd_floor_of, by decide, rfl⟩
  · exact ⟨okd_least_whole, by decide, rfl⟩
  · exact ⟨okd_simplest_above, by decide, rfl⟩
  · exact ⟨okd_simplest, by decide, rfl⟩
  · exact ⟨okd_law_tape, by decide, rfl⟩
  · exact ⟨okd_law_draw, by decide, rfl⟩
  · exact ⟨okd_law_lowest, by decide, rfl⟩
  · exact ⟨okd_law_cell_kind, by decide, rfl⟩
  · exact ⟨okd_law_comes_before, by decide, rfl⟩
  · exact ⟨okd_law_ends, by decide, rfl⟩
  · exact ⟨okd_law_edge, by decide, rfl⟩
  · exact ⟨okd_law_span, by decide, rfl⟩
  · exact ⟨okd_law_simplest, by decide, rfl⟩
  · exact ⟨okd_law_lies_in, by decide, rfl⟩
  · exact ⟨okd_law_drawn_span, by decide, rfl⟩
  · exact ⟨okd_law, by decide, rfl⟩
theorem fsOk : ∀ f ∈ fs, (∃ e ∈ ents, e.f = f) ∨ (f = "gcd" ∧ true = true) := by
  intro f h
  simp only [List.mem_cons, List.not_mem_nil, or_false] at h
  rcases h with rfl | rfl | rfl | rfl | rfl | rfl | rfl | rfl | rfl | rfl | rfl | rfl | rfl | rfl | rfl | rfl | rfl | rfl | rfl | rfl | rfl
  · exact .inl ⟨ed_law_cell_kind, by simp, rfl⟩
  · exact .inl ⟨ed_law_comes_before, by simp, rfl⟩
  · exact .inl ⟨ed_law_draw, by simp, rfl⟩
  · exact .inl ⟨ed_law_drawn_span, by simp, rfl⟩
  · exact .inl ⟨ed_law_edge, by simp, rfl⟩
  · exact .inl ⟨ed_law_ends, by simp, rfl⟩
  · exact .inl ⟨ed_law_lies_in, by simp, rfl⟩
  · exact .inl ⟨ed_law_lowest, by simp, rfl⟩
  · exact .inl ⟨ed_law_simplest, by simp, rfl⟩
  · exact .inl ⟨ed_law_span, by simp, rfl⟩
  · exact .inl ⟨ed_law_tape, by simp, rfl⟩
  · exact .inl ⟨ed_compare, by simp, rfl⟩
  · exact .inl ⟨ed_floor_of, by simp, rfl⟩
  · exact .inr ⟨rfl, rfl⟩
  · exact .inl ⟨ed_least_whole, by simp, rfl⟩
  · exact .inl ⟨ed_lowest, by simp, rfl⟩
  · exact .inl ⟨ed_minus, by simp, rfl⟩
  · exact .inl ⟨ed_over, by simp, rfl⟩
  · exact .inl ⟨ed_plus, by simp, rfl⟩
  · exact .inl ⟨ed_simplest, by simp, rfl⟩
  · exact .inl ⟨ed_simplest_above, by simp, rfl⟩
end K80

set_option Elab.async false
set_option linter.all false
set_option maxRecDepth 100000
namespace Cs
open PySem PySem.Spec PyProof.Rows L2

/-! ### what a run gives -/
def wp {α : Type} (m : Option (α × Sto)) (Q : α → Sto → Prop) : Prop := ∃ a S, m = some (a, S) ∧ Q a S
@[simp] theorem wp_some {α : Type} (a : α) (S : Sto) (Q : α → Sto → Prop) : wp (some (a, S)) Q ↔ Q a S :=
  ⟨fun ⟨_, _, e, q⟩ => by cases e; exact q, fun q => ⟨a, S, rfl, q⟩⟩
@[simp] theorem wp_none {α : Type} (Q : α → Sto → Prop) : wp none Q ↔ False := ⟨fun ⟨_, _, e, _⟩ => (by cases e), False.elim⟩
@[simp] theorem wp_bnd {α β : Type} (m : Option (α × Sto)) (f : α → Sto → Option (β × Sto)) (Q : β → Sto → Prop) : wp (bnd m f) Q ↔ wp m fun a S => wp (f a S) Q :=
  ⟨fun ⟨r, S', e, q⟩ => by
    obtain ⟨a, S, e1, e2⟩ := bnd_inv e
    exact ⟨a, S, e1, r, S', e2, q⟩,
  fun ⟨a, S, e1, r, S', e2, q⟩ => ⟨r, S', by rw [e1]; exact e2, q⟩⟩
theorem wp.mono {α : Type} {m : Option (α × Sto)} {Q R : α → Sto → Prop} (h : wp m Q) (w : ∀ a S, Q a S → R a S) : wp m R := by
  obtain ⟨a, S, e, q⟩ := h
  exact ⟨a, S, e, w a S q⟩
theorem wp_eq {α : Type} {m : Option (α × Sto)} {a : α} {S : Sto} (h : m = some (a, S)) {Q : α → Sto → Prop} (q : Q a S) : wp m Q := ⟨a, S, h, q⟩
@[simp] theorem lift_some {α : Type} (a : α) (S : Sto) : lift (some a) S = some (a, S) := rfl
theorem wp_ite {α : Type} {p : Prop} [Decidable p] {a b : Option (α × Sto)} {Q : α → Sto → Prop} (h1 : p → wp a Q) (h2 : ¬p → wp b Q) : wp (if p then a else b) Q := by
  split
  · exact h1 (by assumption)
  · exact h2 (by assumption)

/-! ### loops -/
theorem wp_forL {w : Watch} {t : Tg} {body : X1} {Q : Fl → Sto → Prop} (I : List D → Ev → Sto → Prop) (hs : ∀ xs env S, I xs env S → still w S)
    (step : ∀ x xs env S, I (x :: xs) env S → ∃ env1, asg t x env = some env1 ∧ wp (body env1 S) fun f S1 => match f with
      | .nx e => I xs e S1
      | .ct e => I xs e S1
      | .bk e => Q (.nx e) S1
      | .rt d => Q (.rt d) S1)
    (done : ∀ env S, I [] env S → Q (.nx env) S) : ∀ xs env S, I xs env S → wp (forL w t body xs env S) Q
  | [], env, S, h => by
    rw [forL, if_pos (hs _ _ _ h)]
    exact wp_some _ _ _ |>.mpr (done _ _ h)
  | x :: xs, env, S, h => by
    obtain ⟨env1, e1, f, S1, e2, q⟩ := step x xs env S h
    rw [forL, if_pos (hs _ _ _ h), e1]
    simp only [wp_bnd]
    refine ⟨f, S1, e2, ?_⟩
    cases f with
    | nx e => exact wp_forL I hs step done xs e S1 q
    | ct e => exact wp_forL I hs step done xs e S1 q
    | bk e => exact wp_some _ _ _ |>.mpr q
    | rt d => exact wp_some _ _ _ |>.mpr q
theorem wp_lcL {cond : Ev → Sto → Option (Bool × Sto)} {elt : Ev → Sto → Option (D × Sto)} {w : Watch} {t : Tg} {n0 : Nat} {env : Ev} {Q : Sto → Prop} (I : List D → Sto → Prop) (hs : ∀ xs S, I xs S → still w S)
    (step : ∀ x xs S, I (x :: xs) S → ∃ env1, asg t x env = some env1 ∧ wp (cond env1 S) fun k S1 => if k = true then wp (elt env1 S1) fun y S2 => ∃ acc, getM S2 n0 = some acc ∧ acc.length < sizeLine ∧ I xs (S2.set n0 (.lst (acc ++ [y]))) else I xs S1)
    (done : ∀ S, I [] S → Q S) : ∀ xs S, I xs S → wp (lcL cond elt w t n0 env xs S) fun _ S => Q S
  | [], S, h => by
    rw [lcL, if_pos (hs _ _ h)]
    exact wp_some _ _ _ |>.mpr (done _ h)
  | x :: xs, S, h => by
    obtain ⟨env1, e1, k, S1, e2, q⟩ := step x xs S h
    rw [lcL, if_pos (hs _ _ h), e1]
    simp only [wp_bnd]
    refine ⟨k, S1, e2, ?_⟩
    cases k with
    | true =>
      rw [if_pos rfl] at q ⊢
      obtain ⟨y, S2, e3, acc, e4, l, q⟩ := q
      simp only [wp_bnd]
      refine ⟨y, S2, e3, ?_⟩
      simp only [e4]
      rw [if_pos l]
      exact wp_lcL I hs step done xs _ q
    | false =>
      rw [if_neg (by simp)] at q ⊢
      exact wp_lcL I hs step done xs _ q
theorem wp_lc2L {cond : Ev → Sto → Option (Bool × Sto)} {inner : Ev → Sto → Option (Unit × Sto)} {w : Watch} {t : Tg} {env : Ev} {Q : Sto → Prop} (I : List D → Sto → Prop) (hs : ∀ xs S, I xs S → still w S)
    (step : ∀ x xs S, I (x :: xs) S → ∃ env1, asg t x env = some env1 ∧ wp (cond env1 S) fun k S1 => if k = true then wp (inner env1 S1) fun _ S2 => I xs S2 else I xs S1)
    (done : ∀ S, I [] S → Q S) : ∀ xs S, I xs S → wp (lc2L cond inner w t env xs S) fun _ S => Q S
  | [], S, h => by
    rw [lc2L, if_pos (hs _ _ h)]
    exact wp_some _ _ _ |>.mpr (done _ h)
  | x :: xs, S, h => by
    obtain ⟨env1, e1, k, S1, e2, q⟩ := step x xs S h
    rw [lc2L, if_pos (hs _ _ h), e1]
    simp only [wp_bnd]
    refine ⟨k, S1, e2, ?_⟩
    cases k with
    | true =>
      rw [if_pos rfl] at q ⊢
      obtain ⟨y, S2, e3, q⟩ := q
      simp only [wp_bnd]
      exact ⟨y, S2, e3, wp_lc2L I hs step done xs _ q⟩
    | false =>
      rw [if_neg (by simp)] at q ⊢
      exact wp_lc2L I hs step done xs _ q
theorem whN_succ {c : Ev → Sto → Option (Bool × Sto)} {body : X1} : ∀ (n : Nat) (env : Ev) (S : Sto) (r : Fl × Sto), whN c body n env S = some r → whN c body (n + 1) env S = some r
  | 0, env, S, r, h => by cases h
  | n + 1, env, S, r, h => by
    rw [whN] at h
    obtain ⟨k, S1, e1, h⟩ := bnd_inv h
    rw [whN, e1, bnd_some]
    by_cases hk : k = true
    · rw [if_pos hk] at h ⊢
      obtain ⟨f, S2, e2, h⟩ := bnd_inv h
      rw [e2, bnd_some]
      cases f with
      | nx e => exact whN_succ n _ _ _ h
      | ct e => exact whN_succ n _ _ _ h
      | bk e => exact h
      | rt d => exact h
    · rw [if_neg hk] at h ⊢
      exact h
theorem whN_mono {c : Ev → Sto → Option (Bool × Sto)} {body : X1} {n m : Nat} (h : n ≤ m) {env : Ev} {S : Sto} {r : Fl × Sto} (e : whN c body n env S = some r) : whN c body m env S = some r := by
  induction h with
  | refl => exact e
  | step _ ih => exact whN_succ _ _ _ _ ih
theorem whE_of {c : Ev → Sto → Option (Bool × Sto)} {body : X1} {n : Nat} {env : Ev} {S : Sto} {r : Fl × Sto} (e : whN c body n env S = some r) : whE c body env S = some r := by
  have ex : ∃ n, (whN c body n env S).isSome = true := ⟨n, by rw [e]; rfl⟩
  unfold whE
  rw [dif_pos ex]
  obtain ⟨r', e'⟩ := Option.isSome_iff_exists.mp ex.choose_spec
  rw [e']
  rcases Nat.le_total n ex.choose with h | h
  · rw [whN_mono h e] at e'; cases e'; rfl
  · rw [whN_mono h e'] at e; cases e; rfl
theorem wp_whN {c : Ev → Sto → Option (Bool × Sto)} {body : X1} {Q : Fl → Sto → Prop} (I : Nat → Ev → Sto → Prop)
    (step : ∀ n env S, I n env S → wp (c env S) fun k S1 => if k = true then wp (body env S1) fun f S2 => match f with
      | .nx e => ∃ m, m < n ∧ I m e S2
      | .ct e => ∃ m, m < n ∧ I m e S2
      | .bk e => Q (.nx e) S2
      | .rt d => Q (.rt d) S2
      else Q (.nx env) S1) : ∀ N n env S, n < N → I n env S → wp (whN c body N env S) Q
  | 0, n, env, S, h, _ => absurd h (Nat.not_lt_zero _)
  | N + 1, n, env, S, h, i => by
    obtain ⟨k, S1, e1, q⟩ := step n env S i
    rw [whN, e1, bnd_some]
    by_cases hk : k = true
    · rw [if_pos hk] at q ⊢
      obtain ⟨f, S2, e2, q⟩ := q
      rw [e2, bnd_some]
      cases f with
      | nx e => obtain ⟨m, l, q⟩ := q; exact wp_whN I step N m e S2 (by omega) q
      | ct e => obtain ⟨m, l, q⟩ := q; exact wp_whN I step N m e S2 (by omega) q
      | bk e => exact wp_some _ _ _ |>.mpr q
      | rt d => exact wp_some _ _ _ |>.mpr q
    · rw [if_neg hk] at q ⊢
      exact wp_some _ _ _ |>.mpr q
theorem wp_whE {c : Ev → Sto → Option (Bool × Sto)} {body : X1} {Q : Fl → Sto → Prop} (I : Nat → Ev → Sto → Prop)
    (step : ∀ n env S, I n env S → wp (c env S) fun k S1 => if k = true then wp (body env S1) fun f S2 => match f with
      | .nx e => ∃ m, m < n ∧ I m e S2
      | .ct e => ∃ m, m < n ∧ I m e S2
      | .bk e => Q (.nx e) S2
      | .rt d => Q (.rt d) S2
      else Q (.nx env) S1) {n : Nat} {env : Ev} {S : Sto} (i : I n env S) : wp (whE c body env S) Q := by
  obtain ⟨f, S', e, q⟩ := wp_whN I step (n + 1) n env S (Nat.lt_succ_self n) i
  exact ⟨f, S', whE_of e, q⟩

/-! ### data without places -/
mutual
theorem und_pure (n : Nat) : ∀ d : D, d.pure = true → d.und n
  | .non, _ => trivial
  | .bl _, _ => trivial
  | .int _, _ => trivial
  | .str _, _ => trivial
  | .tup xs, h => by
    have h : D.pureL xs = true := by simpa [D.pure] using h
    simpa [D.und] using und_pureL n xs h
  | .loc _, h => by simp [D.pure] at h
theorem und_pureL (n : Nat) : ∀ ds : List D, D.pureL ds = true → D.undL n ds
  | [], _ => trivial
  | d :: ds, h => by
    have h : d.pure = true ∧ D.pureL ds = true := by simpa [D.pureL] using h
    exact ⟨und_pure n d h.1, und_pureL n ds h.2⟩
end
theorem pureL_iff {ds : List D} : D.pureL ds = true ↔ ∀ d ∈ ds, d.pure = true := by
  induction ds with
  | nil => simp [D.pureL]
  | cons d ds ih => simp [D.pureL, ih]
/-! ### a call's end -/
theorem Pre.app (S J : Sto) : Pre S (S ++ J) := ⟨by simp, fun i so h e => .inl (by rwa [List.getElem?_append_left h] at e)⟩
theorem wp_fin_p {S S1 : Sto} {d : D} {Q : D → Sto → Prop} (hp : d.pure = true) (pre : Pre S S1) (q : Q d (S1.take S.length)) : wp (fin S (d, S1)) Q := by
  unfold fin
  rw [if_pos pre, if_pos (und_pure _ _ hp)]
  exact wp_some _ _ _ |>.mpr q
theorem wp_fin_l {S S1 : Sto} {m : Nat} {xs : List D} {Q : D → Sto → Prop} (pre : Pre S S1) (hm : S.length ≤ m) (e : S1[m]? = some (.lst xs)) (hx : D.pureL xs = true) (q : Q (.loc S.length) (S1.take S.length ++ [.lst xs])) : wp (fin S (.loc m, S1)) Q := by
  unfold fin
  have h : ¬ (D.loc m).und S.length := by show ¬ m < S.length; omega
  rw [if_pos pre, if_neg h]
  simp only [e]
  rw [if_pos (und_pureL _ _ hx)]
  exact wp_some _ _ _ |>.mpr q
theorem wp_fin_app {S J : Sto} {d : D} {Q : D → Sto → Prop} (hp : d.pure = true) (q : Q d S) : wp (fin S (d, S ++ J)) Q :=
  wp_fin_p hp (.app S J) (by simpa using q)
theorem wp_fin_same {S : Sto} {d : D} {Q : D → Sto → Prop} (hp : d.pure = true) (q : Q d S) : wp (fin S (d, S)) Q := by
  have := wp_fin_app (J := []) hp q
  rwa [List.append_nil] at this
theorem wp_fin_appL {S J : Sto} {i : Nat} {xs : List D} {Q : D → Sto → Prop} (e : J[i]? = some (.lst xs)) (hx : D.pureL xs = true) (q : Q (.loc S.length) (S ++ [.lst xs])) : wp (fin S (.loc (S.length + i), S ++ J)) Q :=
  wp_fin_l (.app S J) (by omega) (by rw [List.getElem?_append_right (by omega)]; simpa using e) hx (by simpa using q)

/-! ### the tape -/
structure Tp where
  p : Int
  r : Int
  s : Int
def tp (sc : List D) (t : Tp) : Sto := [.ro sc, .lst sc, .lst [.loc 1, .int t.p, .int t.r, .int t.s]]
/-- n draws are still allowed for -/
structure Tp.ok (n : Nat) (t : Tp) : Prop where
  p0 : 0 ≤ t.p
  pn : t.p + n ≤ 1000000
  r0 : 0 ≤ t.r
  s0 : 0 ≤ t.s
  sn : t.s < 2147483647
theorem Tp.ok.mono {n m : Nat} {t : Tp} (h : t.ok n) (l : m ≤ n) : t.ok m := ⟨h.p0, by have := h.pn; omega, h.r0, h.s0, h.sn⟩
def ad (W : Sto) (i : Nat) : Nat := W.length + i + 3
@[simp] theorem ad_app (W J : Sto) (i : Nat) : ad (W ++ J) i = ad W (J.length + i) := by simp only [ad, List.length_append]; omega
@[simp high] theorem tp_len (sc : List D) (t : Tp) (W : Sto) : (tp sc t ++ W).length = ad W 0 := by simp [tp, ad]
@[simp] theorem tp_app (sc : List D) (t : Tp) (W J : Sto) : tp sc t ++ W ++ J = tp sc t ++ (W ++ J) := List.append_assoc ..
@[simp] theorem tp_get1 (sc : List D) (t : Tp) (W : Sto) : getL (tp sc t ++ W) 1 = some sc := rfl
@[simp] theorem tp_get2 (sc : List D) (t : Tp) (W : Sto) : getL (tp sc t ++ W) 2 = some [.loc 1, .int t.p, .int t.r, .int t.s] := rfl
@[simp] theorem tp_getM2 (sc : List D) (t : Tp) (W : Sto) : getM (tp sc t ++ W) 2 = some [.loc 1, .int t.p, .int t.r, .int t.s] := rfl
@[simp] theorem tp_set2 (sc : List D) (t : Tp) (W : Sto) (p r s : Int) : (tp sc t ++ W).set 2 (.lst [.loc 1, .int p, .int r, .int s]) = tp sc ⟨p, r, s⟩ ++ W := rfl
@[simp] theorem tp_get (sc : List D) (t : Tp) (W J : Sto) (i : Nat) : (tp sc t ++ (W ++ J))[ad W i]? = J[i]? := by
  rw [List.getElem?_append_right (by simp only [tp, ad, List.length_cons, List.length_nil]; omega), List.getElem?_append_right (by simp only [tp, ad, List.length_cons, List.length_nil]; omega)]
  congr 1
  simp only [tp, ad, List.length_cons, List.length_nil]; omega
@[simp] theorem tp_getL (sc : List D) (t : Tp) (W J : Sto) (i : Nat) : getL (tp sc t ++ (W ++ J)) (ad W i) = getL J i := by
  unfold getL; rw [tp_get]
@[simp] theorem tp_getM (sc : List D) (t : Tp) (W J : Sto) (i : Nat) : getM (tp sc t ++ (W ++ J)) (ad W i) = getM J i := by
  unfold getM; rw [tp_get]
@[simp] theorem tp_set (sc : List D) (t : Tp) (W J : Sto) (i : Nat) (x : SO) : (tp sc t ++ (W ++ J)).set (ad W i) x = tp sc t ++ (W ++ J.set i x) := by
  rw [List.set_append_right _ _ (by simp only [tp, ad, List.length_cons, List.length_nil]; omega), List.set_append_right _ _ (by simp only [tp, ad, List.length_cons, List.length_nil]; omega)]
  congr 3
  simp only [tp, ad, List.length_cons, List.length_nil]; omega
theorem Pre.tp (sc : List D) (t t' : Tp) (W J : Sto) : Pre (tp sc t ++ W) (tp sc t' ++ (W ++ J)) := by
  refine ⟨by simp [Cs.tp], fun i so h e => ?_⟩
  match i with
  | 0 => exact .inl e
  | 1 => exact .inl e
  | 2 =>
    cases e
    refine .inr ⟨?_, trivial, trivial, trivial, trivial⟩
    show 1 < _
    simp [Cs.tp]
  | i + 3 =>
    left
    have e : (W ++ J)[i]? = some so := e
    have h : i < W.length := by simp [Cs.tp] at h; omega
    show W[i]? = some so
    rwa [List.getElem?_append_left h] at e
theorem tp_take (sc : List D) (t t' : Tp) (W J : Sto) : (tp sc t' ++ (W ++ J)).take (tp sc t ++ W).length = tp sc t' ++ W := by
  have : (tp sc t ++ W).length = (tp sc t' ++ W).length := by simp [tp]
  rw [this, ← List.append_assoc, List.take_left' rfl]
theorem wp_fin_tp {sc : List D} {t t' : Tp} {W J : Sto} {d : D} {Q : D → Sto → Prop} (hp : d.pure = true) (q : Q d (tp sc t' ++ W)) : wp (fin (tp sc t ++ W) (d, tp sc t' ++ (W ++ J))) Q :=
  wp_fin_p hp (.tp ..) (by rw [tp_take]; exact q)
theorem wp_fin_tp0 {sc : List D} {t t' : Tp} {W : Sto} {d : D} {Q : D → Sto → Prop} (hp : d.pure = true) (q : Q d (tp sc t' ++ W)) : wp (fin (tp sc t ++ W) (d, tp sc t' ++ W)) Q := by
  have := wp_fin_tp (J := []) (t := t) hp q
  rwa [List.append_nil] at this
theorem wp_fin_tpL {sc : List D} {t t' : Tp} {W J : Sto} {i : Nat} {xs : List D} {Q : D → Sto → Prop} (e : J[i]? = some (.lst xs)) (hx : D.pureL xs = true) (q : Q (.loc (ad W 0)) (tp sc t' ++ (W ++ [.lst xs]))) :
    wp (fin (tp sc t ++ W) (.loc (ad W i), tp sc t' ++ (W ++ J))) Q :=
  wp_fin_l (.tp ..) (by simp only [tp, ad, List.length_append, List.length_cons, List.length_nil]; omega) (by rw [tp_get]; exact e) hx (by rw [tp_take, tp_app, tp_len]; exact q)

/-! ### a def's run -/
theorem wp_runF {c : Cfg} {fd : FDef} {vs : List D} {S : Sto} {Q : D → Sto → Prop} (hl : vs.length = fd.np) (hk : fd.keep = false)
    (h : wp (exSs c fd.body (start' fd vs) S) fun f S1 => match f with
      | .rt d => wp (fin S (d, S1)) Q
      | .nx _ => wp (fin S (.non, S1)) Q
      | _ => False) : wp (runF c fd vs S) Q := by
  obtain ⟨f, S1, e, q⟩ := h
  rw [runF, if_pos hl, e, bnd_some]
  cases f with
  | rt d => simp only [hk]; exact q
  | nx env => simp only [hk]; exact q
  | bk e => cases q
  | ct e => cases q
theorem callF_succ {Γ : String → Option FDef} {G : String → Option D} {k : Nat} {f : String} {fd : FDef} (hf : f ≠ "gcd") (h : Γ f = some fd) (vs : List D) (S : Sto) : callF Γ G (k + 1) f vs S = runF ⟨callF Γ G k, G⟩ fd vs S := by
  rw [callF, if_neg hf, h]
end Cs

set_option Elab.async false
set_option linter.all false
set_option maxRecDepth 100000
namespace Cs
open PySem PySem.Spec PyProof.Rows L2
section
variable (c : Cfg)
@[simp] theorem evE_var {i} (env : Ev) (S : Sto) : evE c (.var i : E) env S = (evVar i env S) := by
  first | (rw [evE]; done) | (rw [evE]; rfl)
@[simp] theorem evE_cn {k} (env : Ev) (S : Sto) : evE c (.cn k : E) env S = (some (k.d, S)) := by
  first | (rw [evE]; done) | (rw [evE]; rfl)
@[simp] theorem evE_glb {x} (env : Ev) (S : Sto) : evE c (.glb x : E) env S = (lift (c.G x) S) := by
  first | (rw [evE]; done) | (rw [evE]; rfl)
@[simp] theorem evE_bin {op a b} (env : Ev) (S : Sto) : evE c (.bin op a b : E) env S = (bnd (evE c a env S) fun x S1 => bnd (evE c b env S1) fun y S2 => bop op x y S2) := by
  first | (rw [evE]; done) | (rw [evE]; rfl)
@[simp] theorem evE_neg {a} (env : Ev) (S : Sto) : evE c (.neg a : E) env S = (bnd (evE c a env S) fun x S1 => match x with | .int i => some (.int (-i), S1) | _ => none) := by
  first | (rw [evE]; done) | (rw [evE]; rfl)
@[simp] theorem evE_cmp {op a b} (env : Ev) (S : Sto) : evE c (.cmp op a b : E) env S = (bnd (evE c a env S) fun x S1 => bnd (evE c b env S1) fun y S2 => cop op x y S2) := by
  first | (rw [evE]; done) | (rw [evE]; rfl)
@[simp] theorem evE_isN {a} (env : Ev) (S : Sto) : evE c (.isN a : E) env S = (bnd (evE c a env S) fun x S1 => some (.bl (isN x), S1)) := by
  first | (rw [evE]; done) | (rw [evE]; rfl)
@[simp] theorem evE_notN {a} (env : Ev) (S : Sto) : evE c (.notN a : E) env S = (bnd (evE c a env S) fun x S1 => some (.bl (!isN x), S1)) := by
  first | (rw [evE]; done) | (rw [evE]; rfl)
@[simp] theorem evE_isB {a b} (env : Ev) (S : Sto) : evE c (.isB a b : E) env S = (bnd (evE c a env S) fun x S1 => match x with | .bl k => some (.bl (decide (k = b)), S1) | _ => none) := by
  first | (rw [evE]; done) | (rw [evE]; rfl)
@[simp] theorem evE_isi {a T} (env : Ev) (S : Sto) : evE c (.isi a T : E) env S = (bnd (evE c a env S) fun x S1 => some (.bl (isiB T x), S1)) := by
  first | (rw [evE]; done) | (rw [evE]; rfl)
@[simp] theorem evE_nt {a} (env : Ev) (S : Sto) : evE c (.nt a : E) env S = (bnd (evE c a env S) fun x S1 => (truth S1 x).map fun k => (.bl (!k), S1)) := by
  first | (rw [evE]; done) | (rw [evE]; rfl)
@[simp] theorem evE_and {a b} (env : Ev) (S : Sto) : evE c (.and a b : E) env S = (bnd (evE c a env S) fun x S1 => bnd (lift (truth S1 x) S1) fun k S1 => if k = true then evE c b env S1 else some (x, S1)) := by
  first | (rw [evE]; done) | (rw [evE]; rfl)
@[simp] theorem evE_or {a b} (env : Ev) (S : Sto) : evE c (.or a b : E) env S = (bnd (evE c a env S) fun x S1 => bnd (lift (truth S1 x) S1) fun k S1 => if k = true then some (x, S1) else evE c b env S1) := by
  first | (rw [evE]; done) | (rw [evE]; rfl)
@[simp] theorem evE_ife {t a b} (env : Ev) (S : Sto) : evE c (.ife t a b : E) env S = (ifT (tst (evE c t env S)) (evE c a env) (evE c b env)) := by
  first | (rw [evE]; done) | (rw [evE]; rfl)
@[simp] theorem evE_tup {es} (env : Ev) (S : Sto) : evE c (.tup es : E) env S = (bnd (evEs c es env S) fun xs S1 => some (.tup xs, S1)) := by
  first | (rw [evE]; done) | (rw [evE]; rfl)
@[simp] theorem evE_lst {es} (env : Ev) (S : Sto) : evE c (.lst es : E) env S = (bnd (evEs c es env S) fun xs S1 => some (.loc S1.length, S1 ++ [.lst xs])) := by
  first | (rw [evE]; done) | (rw [evE]; rfl)
@[simp] theorem evE_idx {a i} (env : Ev) (S : Sto) : evE c (.idx a i : E) env S = (bnd (evE c a env S) fun x S1 => bnd (evE c i env S1) fun y S2 => iop x y S2) := by
  first | (rw [evE]; done) | (rw [evE]; rfl)
@[simp] theorem evE_slc {a lo hi} (env : Ev) (S : Sto) : evE c (.slc a lo hi : E) env S = (bnd (evE c a env S) fun x S1 => bnd (evE c lo env S1) fun l S2 => bnd (evE c hi env S2) fun h S3 => match bndE lo l, bndE hi h with | some l, some h => slop x l h S3 | _, _ => none) := by
  first | (rw [evE]; done) | (rw [evE]; rfl)
@[simp] theorem evE_call {f es} (env : Ev) (S : Sto) : evE c (.call f es : E) env S = (bnd (evEs c es env S) fun xs S1 => c.C f xs S1) := by
  first | (rw [evE]; done) | (rw [evE]; rfl)
@[simp] theorem evE_blt {f es} (env : Ev) (S : Sto) : evE c (.blt f es : E) env S = (bnd (evEs c es env S) fun xs S1 => blt f xs S1) := by
  first | (rw [evE]; done) | (rw [evE]; rfl)
@[simp] theorem evE_mth {m o es} (env : Ev) (S : Sto) : evE c (.mth m o es : E) env S = (bnd (evE c o env S) fun x S1 => if mTy m x S1 = true then bnd (evEs c es env S1) fun xs S2 => mth m x xs S2 else none) := by
  first | (rw [evE]; done) | (rw [evE]; rfl)
@[simp] theorem evE_lc {t k es cnd e} (env : Ev) (S : Sto) : evE c (.lc t k es cnd e : E) env S = (bnd (evEs c es env S) fun xs S1 => bnd (lift (items k xs S1) S1) fun iw S1 =>
      bnd (lcL (fun env S => tst (evE c cnd env S)) (evE c e) iw.2 t S1.length (wipeE env t.slots) iw.1 (S1 ++ [.lst []])) fun _ S2 => some (.loc S1.length, S2)) := by
  first | (rw [evE]; done) | (rw [evE]; rfl)
@[simp] theorem evE_lc2 {t k es cnd t1 k1 es1 cnd1 e} (env : Ev) (S : Sto) : evE c (.lc2 t k es cnd t1 k1 es1 cnd1 e : E) env S = (bnd (evEs c es env S) fun xs S1 => bnd (lift (items k xs S1) S1) fun iw S1 =>
      bnd (lc2L (fun env S => tst (evE c cnd env S)) (fun env1 S2 => bnd (evEs c es1 env1 S2) fun ys S3 => bnd (lift (items k1 ys S3) S3) fun iw1 S3 =>
          lcL (fun env S => tst (evE c cnd1 env S)) (evE c e) iw1.2 t1 S1.length (wipeE env1 t1.slots) iw1.1 S3) iw.2 t (wipeE env (t.slots ++ t1.slots)) iw.1 (S1 ++ [.lst []])) fun _ S2 => some (.loc S1.length, S2)) := by
  first | (rw [evE]; done) | (rw [evE]; rfl)
@[simp] theorem evE_tr {e} (env : Ev) (S : Sto) : evE c (.tr e : E) env S = (bnd (evE c e env S) fun x S1 => fin S (x, S1)) := by
  first | (rw [evE]; done) | (rw [evE]; rfl)
@[simp] theorem exS_set {i e} (env : Ev) (S : Sto) : exS c (.set i e : Cs.S) env S = (bnd (evE c e env S) fun x S1 => some (.nx (env.set i (some x)), S1)) := by
  first | (rw [exS]; done) | (rw [exS]; rfl)
@[simp] theorem exS_setT {is e} (env : Ev) (S : Sto) : exS c (.setT is e : Cs.S) env S = (bnd (evE c e env S) fun x S1 => bnd (lift (asg (.t is) x env) S1) fun env1 S1 => some (.nx env1, S1)) := by
  first | (rw [exS]; done) | (rw [exS]; rfl)
@[simp] theorem exS_par {i j a b} (env : Ev) (S : Sto) : exS c (.par i j a b : Cs.S) env S = (bnd (evE c a env S) fun x S1 => bnd (evE c b env S1) fun y S2 => some (.nx ((env.set i (some x)).set j (some y)), S2)) := by
  first | (rw [exS]; done) | (rw [exS]; rfl)
@[simp] theorem exS_ex {e} (env : Ev) (S : Sto) : exS c (.ex e : Cs.S) env S = (bnd (evE c e env S) fun _ S1 => some (.nx env, S1)) := by
  first | (rw [exS]; done) | (rw [exS]; rfl)
@[simp] theorem exS_ret {e} (env : Ev) (S : Sto) : exS c (.ret e : Cs.S) env S = (bnd (evE c e env S) fun x S1 => some (.rt x, S1)) := by
  first | (rw [exS]; done) | (rw [exS]; rfl)
@[simp] theorem exS_iff {t a b} (env : Ev) (S : Sto) : exS c (.iff t a b : Cs.S) env S = (ifT (tst (evE c t env S)) (exSs c a env) (exSs c b env)) := by
  first | (rw [exS]; done) | (rw [exS]; rfl)
@[simp] theorem exS_whl {t b} (env : Ev) (S : Sto) : exS c (.whl t b : Cs.S) env S = (whE (fun env S => tst (evE c t env S)) (exSs c b) env S) := by
  first | (rw [exS]; done) | (rw [exS]; rfl)
@[simp] theorem exS_for {t k es b} (env : Ev) (S : Sto) : exS c (.for_ t k es b : Cs.S) env S = (bnd (evEs c es env S) fun xs S1 => bnd (lift (items k xs S1) S1) fun iw S1 => forL iw.2 t (exSs c b) iw.1 env S1) := by
  first | (rw [exS]; done) | (rw [exS]; rfl)
@[simp] theorem exS_brk (env : Ev) (S : Sto) : exS c (.brk : Cs.S) env S = (some (.bk env, S)) := by
  first | (rw [exS]; done) | (rw [exS]; rfl)
@[simp] theorem exS_cont (env : Ev) (S : Sto) : exS c (.cont : Cs.S) env S = (some (.ct env, S)) := by
  first | (rw [exS]; done) | (rw [exS]; rfl)
@[simp] theorem exS_pass (env : Ev) (S : Sto) : exS c (.pass : Cs.S) env S = (some (.nx env, S)) := by
  first | (rw [exS]; done) | (rw [exS]; rfl)
@[simp] theorem evEs_nil (env : Ev) (S : Sto) : evEs c [] env S = some ([], S) := by rw [evEs]
@[simp] theorem evEs_cons {e es} (env : Ev) (S : Sto) : evEs c (e :: es) env S = bnd (evE c e env S) fun x S1 => bnd (evEs c es env S1) fun xs S2 => some (x :: xs, S2) := by rw [evEs]
@[simp] theorem exSs_nil (env : Ev) (S : Sto) : exSs c [] env S = some (.nx env, S) := by rw [exSs]
@[simp] theorem exSs_cons {s ss} (env : Ev) (S : Sto) : exSs c (s :: ss) env S = sqn (exS c s env S) (exSs c ss) := by rw [exSs]
end

@[simp] theorem tst_def (m : Option (D × Sto)) : tst m = bnd m fun x S => lift (truth S x) S := rfl
@[simp] theorem ifT_def {α : Type} (m : Option (Bool × Sto)) (f g : Sto → Option (α × Sto)) : ifT m f g = bnd m fun k S => if k = true then f S else g S := rfl
/-- what comes after a statement -/
def seqQ (k : X1) (Q : Fl → Sto → Prop) : Fl → Sto → Prop
  | .nx env, S => wp (k env S) Q
  | f, S => Q f S
@[simp] theorem seqQ_nx (k : X1) (Q : Fl → Sto → Prop) (env : Ev) (S : Sto) : seqQ k Q (.nx env) S = wp (k env S) Q := rfl
@[simp] theorem seqQ_rt (k : X1) (Q : Fl → Sto → Prop) (d : D) (S : Sto) : seqQ k Q (.rt d) S = Q (.rt d) S := rfl
@[simp] theorem seqQ_bk (k : X1) (Q : Fl → Sto → Prop) (d : Ev) (S : Sto) : seqQ k Q (.bk d) S = Q (.bk d) S := rfl
@[simp] theorem seqQ_ct (k : X1) (Q : Fl → Sto → Prop) (d : Ev) (S : Sto) : seqQ k Q (.ct d) S = Q (.ct d) S := rfl
@[simp] theorem wp_sqn (m : Option (Fl × Sto)) (k : X1) (Q : Fl → Sto → Prop) : wp (sqn m k) Q ↔ wp m (seqQ k Q) := by
  unfold sqn
  rw [wp_bnd]
  constructor <;> intro h <;> refine h.mono fun f S q => ?_ <;> cases f <;> simpa [seqQ] using q
/-- what a loop's body must give -/
def loopQ (P : Ev → Sto → Prop) (Q : Fl → Sto → Prop) : Fl → Sto → Prop
  | .nx e, S => P e S
  | .ct e, S => P e S
  | .bk e, S => Q (.nx e) S
  | .rt d, S => Q (.rt d) S
@[simp] theorem loopQ_nx (P : Ev → Sto → Prop) (Q : Fl → Sto → Prop) (e : Ev) (S : Sto) : loopQ P Q (.nx e) S = P e S := rfl
@[simp] theorem loopQ_ct (P : Ev → Sto → Prop) (Q : Fl → Sto → Prop) (e : Ev) (S : Sto) : loopQ P Q (.ct e) S = P e S := rfl
@[simp] theorem loopQ_bk (P : Ev → Sto → Prop) (Q : Fl → Sto → Prop) (e : Ev) (S : Sto) : loopQ P Q (.bk e) S = Q (.nx e) S := rfl
@[simp] theorem loopQ_rt (P : Ev → Sto → Prop) (Q : Fl → Sto → Prop) (d : D) (S : Sto) : loopQ P Q (.rt d) S = Q (.rt d) S := rfl
theorem wp_forQ {w : Watch} {t : Tg} {body : X1} {Q : Fl → Sto → Prop} (I : List D → Ev → Sto → Prop) (hs : ∀ xs env S, I xs env S → still w S)
    (step : ∀ x xs env S, I (x :: xs) env S → ∃ env1, asg t x env = some env1 ∧ wp (body env1 S) (loopQ (I xs) Q))
    (done : ∀ env S, I [] env S → Q (.nx env) S) (xs : List D) (env : Ev) (S : Sto) (h : I xs env S) : wp (forL w t body xs env S) Q :=
  wp_forL I hs (fun x xs env S h => by
    obtain ⟨env1, e, q⟩ := step x xs env S h
    exact ⟨env1, e, q.mono fun f S1 h => by cases f <;> exact h⟩) done xs env S h
/-- what a call makes of its end -/
def retQ (S0 : Sto) (Q : D → Sto → Prop) : Fl → Sto → Prop
  | .rt d, S => wp (fin S0 (d, S)) Q
  | .nx _, S => wp (fin S0 (.non, S)) Q
  | _, _ => False
@[simp] theorem retQ_rt (S0 : Sto) (Q : D → Sto → Prop) (d : D) (S : Sto) : retQ S0 Q (.rt d) S = wp (fin S0 (d, S)) Q := rfl
@[simp] theorem retQ_nx (S0 : Sto) (Q : D → Sto → Prop) (d : Ev) (S : Sto) : retQ S0 Q (.nx d) S = wp (fin S0 (.non, S)) Q := rfl
theorem wp_run {c : Cfg} {fd : FDef} {vs : List D} {S : Sto} {Q : D → Sto → Prop} (hl : vs.length = fd.np) (hk : fd.keep = false)
    (h : wp (exSs c fd.body (start' fd vs) S) (retQ S Q)) : wp (runF c fd vs S) Q :=
  wp_runF hl hk (h.mono fun f S1 q => by cases f <;> exact q)
/-- a store at a subscript -/
def stI (env : Ev) (z x y : D) (S : Sto) : Option (Fl × Sto) := match x, y with
  | .loc n, .int i => match getM S n with
    | some xs => match ixN xs.length i with
      | some j => some (.nx env, S.set n (.lst (xs.set j z)))
      | none => none
    | none => none
  | _, _ => none
@[simp high] theorem exS_setI' {c : Cfg} {o k v : E} (env : Ev) (S : Sto) : exS c (.setI o k v) env S = bnd (evE c v env S) fun z S1 => bnd (evE c o env S1) fun x S2 => bnd (evE c k env S2) fun y S3 => stI env z x y S3 := by
  rw [exS]; rfl
@[simp] theorem stI_1 (env : Ev) (a : Int) (sc : List D) (t : Tp) (W : Sto) : stI env (.int a) (.loc 2) (.int 1) (tp sc t ++ W) = some (.nx env, tp sc ⟨a, t.r, t.s⟩ ++ W) := rfl
@[simp] theorem stI_2 (env : Ev) (a : Int) (sc : List D) (t : Tp) (W : Sto) : stI env (.int a) (.loc 2) (.int 2) (tp sc t ++ W) = some (.nx env, tp sc ⟨t.p, a, t.s⟩ ++ W) := rfl
@[simp] theorem stI_3 (env : Ev) (a : Int) (sc : List D) (t : Tp) (W : Sto) : stI env (.int a) (.loc 2) (.int 3) (tp sc t ++ W) = some (.nx env, tp sc ⟨t.p, t.r, a⟩ ++ W) := rfl
@[simp] theorem tp_i0 (sc : List D) (t : Tp) (W : Sto) : iop (.loc 2) (.int 0) (tp sc t ++ W) = some (.loc 1, tp sc t ++ W) := rfl
@[simp] theorem tp_i1 (sc : List D) (t : Tp) (W : Sto) : iop (.loc 2) (.int 1) (tp sc t ++ W) = some (.int t.p, tp sc t ++ W) := rfl
@[simp] theorem tp_i2 (sc : List D) (t : Tp) (W : Sto) : iop (.loc 2) (.int 2) (tp sc t ++ W) = some (.int t.r, tp sc t ++ W) := rfl
@[simp] theorem tp_i3 (sc : List D) (t : Tp) (W : Sto) : iop (.loc 2) (.int 3) (tp sc t ++ W) = some (.int t.s, tp sc t ++ W) := rfl
@[simp] theorem tp_n1 (sc : List D) (t : Tp) (W : Sto) : bLen [.loc 1] (tp sc t ++ W) = some (.int sc.length, tp sc t ++ W) := rfl
@[simp] theorem tp_j1 (sc : List D) (t : Tp) (W : Sto) (k : Int) : iop (.loc 1) (.int k) (tp sc t ++ W) = lift (atI sc k) (tp sc t ++ W) := rfl
@[simp] theorem map_lift (o : Option Bool) (S : Sto) : (o.map fun k => (k, S)) = lift o S := rfl
@[simp] theorem Cn_non : Cn.non.d = .non := rfl
@[simp] theorem Cn_bl (b : Bool) : (Cn.bl b).d = .bl b := rfl
@[simp] theorem Cn_int (i : Int) : (Cn.int i).d = .int i := rfl
@[simp] theorem Cn_str (s : String) : (Cn.str s).d = .str (Str.ofString s) := rfl
@[simp] theorem evVar_0 (d : D) (l : Ev) (S : Sto) : evVar 0 (some d :: l) S = some (d, S) := rfl
@[simp] theorem evVar_s (i : Nat) (o : Option D) (l : Ev) (S : Sto) : evVar (i + 1) (o :: l) S = evVar i l S := by
  unfold evVar; simp
@[simp] theorem truth_non (S : Sto) : truth S .non = some false := rfl
@[simp] theorem truth_bl (S : Sto) (b : Bool) : truth S (.bl b) = some b := rfl
@[simp] theorem truth_int (S : Sto) (i : Int) : truth S (.int i) = some (i != 0) := rfl
@[simp] theorem truth_tup (S : Sto) (xs : List D) : truth S (.tup xs) = some (!xs.isEmpty) := rfl
@[simp] theorem bop_add (i j : Int) (S : Sto) : bop .add (.int i) (.int j) S = some (.int (i + j), S) := rfl
@[simp] theorem bop_sub (i j : Int) (S : Sto) : bop .sub (.int i) (.int j) S = some (.int (i - j), S) := rfl
theorem bop_mul {i j : Int} (h : mulOk i j) (S : Sto) : bop .mul (.int i) (.int j) S = some (.int (i * j), S) := if_pos h
theorem bop_fdiv {i j : Int} (h : divOk j) (S : Sto) : bop .fdiv (.int i) (.int j) S = some (.int (i / j), S) := if_pos h
theorem bop_mod {i j : Int} (h : 0 < j) (S : Sto) : bop .mod (.int i) (.int j) S = some (.int (i % j), S) := if_pos h
theorem bop_str {a b : Str} (h : a.length + b.length ≤ sizeLine) (S : Sto) : bop .add (.str a) (.str b) S = some (.str (a ++ b), S) := if_pos h
theorem bop_tup {a b : List D} (h : a.length + b.length ≤ sizeLine) (S : Sto) : bop .add (.tup a) (.tup b) S = some (.tup (a ++ b), S) := if_pos h
theorem bop_loc {n m : Nat} {a b : List D} {S : Sto} (h1 : getM S n = some a) (h2 : getM S m = some b) (h : a.length + b.length ≤ sizeLine) : bop .add (.loc n) (.loc m) S = some (.loc S.length, S ++ [.lst (a ++ b)]) := by
  simp only [bop, h1, h2]; exact if_pos h
@[simp] theorem iop_tup (xs : List D) (k : Int) (S : Sto) : iop (.tup xs) (.int k) S = lift (atI xs k) S := rfl
theorem iop_loc {n : Nat} {S : Sto} {xs : List D} (h : getL S n = some xs) (k : Int) : iop (.loc n) (.int k) S = lift (atI xs k) S := by
  simp only [iop, h]; rfl
@[simp] theorem cop_eq_int (i j : Int) (S : Sto) : cop .eq (.int i) (.int j) S = some (.bl (decide (i = j)), S) := rfl
@[simp] theorem cop_ne_int (i j : Int) (S : Sto) : cop .ne (.int i) (.int j) S = some (.bl (!decide (i = j)), S) := rfl
@[simp] theorem cop_eq_str (i j : Str) (S : Sto) : cop .eq (.str i) (.str j) S = some (.bl (decide (i = j)), S) := rfl
@[simp] theorem cop_ne_str (i j : Str) (S : Sto) : cop .ne (.str i) (.str j) S = some (.bl (!decide (i = j)), S) := rfl
@[simp] theorem cop_lt (i j : Int) (S : Sto) : cop .lt (.int i) (.int j) S = some (.bl (decide (i < j)), S) := rfl
@[simp] theorem cop_le (i j : Int) (S : Sto) : cop .le (.int i) (.int j) S = some (.bl (decide (i ≤ j)), S) := rfl
@[simp] theorem cop_gt (i j : Int) (S : Sto) : cop .gt (.int i) (.int j) S = some (.bl (decide (j < i)), S) := rfl
@[simp] theorem cop_ge (i j : Int) (S : Sto) : cop .ge (.int i) (.int j) S = some (.bl (decide (j ≤ i)), S) := rfl
@[simp] theorem blt_len : blt "len" = bLen := rfl
@[simp] theorem blt_abs : blt "abs" = bAbs := rfl
@[simp] theorem blt_int : blt "int" = bInt := rfl
@[simp] theorem blt_max : blt "max" = bMax := rfl
@[simp] theorem blt_min : blt "min" = bMin := rfl
@[simp] theorem blt_list : blt "list" = bList := rfl
@[simp] theorem blt_tuple : blt "tuple" = bTuple := rfl
@[simp] theorem blt_all : blt "all" = bAll := rfl
@[simp] theorem blt_any : blt "any" = bAny := rfl
@[simp] theorem blt_sorted : blt "sorted" = bSorted := rfl
@[simp] theorem blt_repr : blt "repr" = bRepr := rfl
@[simp] theorem mth_append : mth "append" = mAppend := rfl
@[simp] theorem mth_index : mth "index" = mIndex := rfl
@[simp] theorem bInt_int (i : Int) (S : Sto) : bInt [.int i] S = some (.int i, S) := rfl
@[simp] theorem bInt_bl (b : Bool) (S : Sto) : bInt [.bl b] S = some (.int (if b then 1 else 0), S) := rfl
@[simp] theorem bAbs_int (i : Int) (S : Sto) : bAbs [.int i] S = some (.int (if i < 0 then -i else i), S) := rfl
@[simp] theorem bMax_int (i j : Int) (S : Sto) : bMax [.int i, .int j] S = some (.int (if j > i then j else i), S) := rfl
@[simp] theorem bMin_int (i j : Int) (S : Sto) : bMin [.int i, .int j] S = some (.int (if j < i then j else i), S) := rfl
@[simp] theorem bLen_tup (xs : List D) (S : Sto) : bLen [.tup xs] S = some (.int xs.length, S) := rfl
theorem bLen_loc {n : Nat} {S : Sto} {xs : List D} (h : getL S n = some xs) : bLen [.loc n] S = some (.int xs.length, S) := by
  simp only [bLen, h]; rfl
theorem bList_loc {n : Nat} {S : Sto} {xs : List D} (h : getL S n = some xs) : bList [.loc n] S = some (.loc S.length, S ++ [.lst xs]) := by
  simp only [bList, h]; rfl
@[simp] theorem bList_tup (xs : List D) (S : Sto) : bList [.tup xs] S = some (.loc S.length, S ++ [.lst xs]) := rfl
theorem bTuple_loc {n : Nat} {S : Sto} {xs : List D} (h : getL S n = some xs) : bTuple [.loc n] S = some (.tup xs, S) := by
  simp only [bTuple, h]; rfl
@[simp] theorem bTuple_tup (xs : List D) (S : Sto) : bTuple [.tup xs] S = some (.tup xs, S) := rfl
@[simp] theorem mTy_append {n : Nat} {S : Sto} : mTy "append" (.loc n) S = (getL S n).isSome := rfl
theorem mAppend_loc {n : Nat} {S : Sto} {xs : List D} (h : getM S n = some xs) (hl : xs.length < sizeLine) (y : D) : mAppend (.loc n) [y] S = some (.non, S.set n (.lst (xs ++ [y]))) := by
  simp only [mAppend, h]; exact if_pos hl
@[simp] theorem getL_0 (xs : List D) (J : Sto) : getL (.lst xs :: J) 0 = some xs := rfl
@[simp] theorem getL_0r (xs : List D) (J : Sto) : getL (.ro xs :: J) 0 = some xs := rfl
@[simp] theorem getL_s (x : SO) (J : Sto) (i : Nat) : getL (x :: J) (i + 1) = getL J i := by unfold getL; simp
@[simp] theorem getM_0 (xs : List D) (J : Sto) : getM (.lst xs :: J) 0 = some xs := rfl
@[simp] theorem getM_s (x : SO) (J : Sto) (i : Nat) : getM (x :: J) (i + 1) = getM J i := by unfold getM; simp
end Cs
set_option Elab.async false
set_option linter.all false
set_option maxRecDepth 100000
namespace Cs
open PySem PySem.Spec PyProof.Rows L2

/-! ### texts -/
theorem ofString_inj {a b : String} : Str.ofString a = Str.ofString b ↔ a = b := by
  constructor
  · intro h
    rw [Str.ofString_eq_toList, Str.ofString_eq_toList] at h
    have h1 : (a.toList.map Char.toNat) = (b.toList.map Char.toNat) := by simpa using h
    have h2 : a.toList = b.toList := (List.map_inj_right (fun x y e => Char.ext (UInt32.toNat_inj.mp e))).mp h1
    exact String.toList_inj.mp h2
  · rintro rfl; rfl
theorem strOk_ofString (s : String) : PyData.strOk (Str.ofString s) = true := by
  rw [Str.ofString_eq_toList]
  simp only [PyData.strOk, List.all_toArray', List.all_map, List.all_eq_true]
  intro c _
  have := c.valid
  simp only [Function.comp, decide_eq_true_eq]
  show c.val.toNat < 0x110000
  rcases this with h | ⟨_, h⟩
  · have : c.val.toNat < 0xd800 := h
    omega
  · exact h
/-! ### items -/
theorem atI_0 {α : Type} (a : α) (l : List α) : atI (a :: l) 0 = some a := atI_nat (j := 0) rfl
theorem atI_1 {α : Type} (a b : α) (l : List α) : atI (a :: b :: l) 1 = some b := atI_nat (j := 1) rfl
theorem atI_2 {α : Type} (a b c : α) (l : List α) : atI (a :: b :: c :: l) 2 = some c := atI_nat (j := 2) rfl
theorem atI_3 {α : Type} (a b c d : α) (l : List α) : atI (a :: b :: c :: d :: l) 3 = some d := atI_nat (j := 3) rfl
theorem atI_in {α : Type} {xs : List α} {i : Int} (h0 : 0 ≤ i) (h1 : i < xs.length) : ∃ x ∈ xs, atI xs i = some x := by
  obtain ⟨n, rfl⟩ := Int.eq_ofNat_of_zero_le h0
  have h : n < xs.length := by omega
  exact ⟨xs[n], List.getElem_mem h, atI_nat (List.getElem?_eq_getElem h)⟩
theorem mulOk_small {i j : Int} (hi : i.natAbs < 2 ^ 64) (hj : j.natAbs < 2 ^ 64) : mulOk i j := by
  have f : ∀ n : Nat, n < 2 ^ 64 → n.log2 < 64 := fun n h => by
    by_cases z : n = 0
    · subst z; decide
    · exact (Nat.log2_lt z).mpr h
  have := f _ hi
  have := f _ hj
  unfold mulOk; omega
theorem divOk_small {j : Int} (h0 : 0 < j) (hj : j.natAbs < 2 ^ 64) : divOk j := by
  refine ⟨h0, ?_⟩
  have : j.natAbs.log2 < 64 := (Nat.log2_lt (by omega)).mpr hj
  omega

/-! ### drawing -/
def dDraw : FDef where
  np := 2
  nl := 4
  keep := false
  body := [
    .iff (.cmp .eq (.idx (.var 0) (.cn (.int 2))) (.cn (.int 0))) [.set 3 (.idx (.var 0) (.cn (.int 1))), .set 2 (.cn (.int 0)), .iff (.cmp .lt (.var 3) (.blt "len" [(.idx (.var 0) (.cn (.int 0)))])) [.set 2 (.blt "abs" [(.blt "int" [(.idx (.idx (.var 0) (.cn (.int 0))) (.var 3))])])] [.setI (.var 0) (.cn (.int 3)) (.bin .mod (.blt "int" [(.bin .add (.bin .add (.bin .mul (.idx (.var 0) (.cn (.int 3))) (.cn (.int 48271))) (.var 3)) (.cn (.int 1)))]) (.cn (.int 2147483647))), .set 2 (.idx (.var 0) (.cn (.int 3)))], .setI (.var 0) (.cn (.int 1)) (.bin .add (.var 3) (.cn (.int 1))), .iff (.cmp .lt (.var 2) (.bin .pow (.cn (.int 10)) (.cn (.int 18)))) [.set 2 (.bin .mod (.blt "int" [(.bin .add (.bin .add (.bin .mul (.var 2) (.cn (.int 48271))) (.bin .mul (.var 3) (.cn (.int 69621)))) (.cn (.int 5)))]) (.cn (.int 2147483647))), .set 2 (.bin .mod (.blt "int" [(.bin .mul (.var 2) (.cn (.int 69621)))]) (.cn (.int 2147483629))), .ret (.bin .mod (.blt "int" [(.var 2)]) (.blt "max" [(.var 1), (.cn (.int 1))]))] [], .setI (.var 0) (.cn (.int 2)) (.var 2)] [],
    .set 2 (.idx (.var 0) (.cn (.int 2))),
    .setI (.var 0) (.cn (.int 2)) (.bin .fdiv (.var 2) (.blt "max" [(.var 1), (.cn (.int 2))])),
    .ret (.bin .mod (.blt "int" [(.var 2)]) (.blt "max" [(.var 1), (.cn (.int 1))]))]
theorem draw_ok (c : Cfg) {ns : List Int} {t : Tp} {n : Nat} {m : Int} {W : Sto} {Q : D → Sto → Prop} (ht : t.ok (n + 1)) (hm : 1 ≤ m) (hm2 : m < 2 ^ 60)
    (h : ∀ r t', 0 ≤ r → r < m → t'.ok n → Q (.int r) (tp (ns.map .int) t' ++ W)) : wp (runF c dDraw [.loc 2, .int m] (tp (ns.map .int) t ++ W)) Q := by
  have hmax : (if m < 1 then 1 else m) = m := if_neg (by omega)
  have hmod : ∀ z : Int, 0 ≤ z % m ∧ z % m < m := fun z => ⟨Int.emod_nonneg _ (by omega), Int.emod_lt_of_pos _ (by omega)⟩
  have bm := fun i : Int => bop_mod (i := i) (j := m) (by omega)
  have bm1 := fun i : Int => bop_mod (i := i) (j := 2147483647) (by omega)
  have bm2 := fun i : Int => bop_mod (i := i) (j := 2147483629) (by omega)
  have hp : ∀ S, bop .pow (.int 10) (.int 18) S = some (.int 1000000000000000000, S) := fun S => by
    show (if powOk 10 18 then some (D.int (10 ^ (18 : Int).toNat), S) else none) = _
    rw [if_pos (by decide)]; rfl
  obtain ⟨p0, pn, r0, s0, sn⟩ := ht
  refine wp_run rfl rfl ?_
  have m1 := bop_mul (mulOk_small (i := t.s) (j := 48271) (by omega) (by omega))
  have m2 := bop_mul (mulOk_small (i := t.p) (j := 69621) (by omega) (by omega))
  have bf := fun i : Int => bop_fdiv (i := i) (j := if m < 2 then 2 else m) (divOk_small (by split <;> omega) (by split <;> omega))
  have tail : ∀ (t1 : Tp) (num : Int) (o : Option D), t1.ok n → 0 ≤ num → t1.r = num → wp (exSs c (dDraw.body.drop 1) [some (.loc 2), some (.int m), some (.int num), o] (tp (ns.map .int) t1 ++ W)) (retQ (tp (ns.map .int) t ++ W) Q) := by
    intro t1 num o ok h0 e
    subst e
    simp [dDraw, bf, hmax, bm]
    refine wp_fin_tp0 rfl (h _ _ (hmod _).1 (hmod _).2 ⟨ok.p0, ok.pn, ?_, ok.s0, ok.sn⟩)
    exact Int.ediv_nonneg h0 (by split <;> omega)
  have rest : ∀ (t1 : Tp) (num : Int), t1.p = t.p → t1.r = 0 → 0 ≤ t1.s ∧ t1.s < 2147483647 → 0 ≤ num → wp (exSs c [.setI (.var 0) (.cn (.int 1)) (.bin .add (.var 3) (.cn (.int 1))), .iff (.cmp .lt (.var 2) (.bin .pow (.cn (.int 10)) (.cn (.int 18)))) [.set 2 (.bin .mod (.blt "int" [(.bin .add (.bin .add (.bin .mul (.var 2) (.cn (.int 48271))) (.bin .mul (.var 3) (.cn (.int 69621)))) (.cn (.int 5)))]) (.cn (.int 2147483647))), .set 2 (.bin .mod (.blt "int" [(.bin .mul (.var 2) (.cn (.int 69621)))]) (.cn (.int 2147483629))), .ret (.bin .mod (.blt "int" [(.var 2)]) (.blt "max" [(.var 1), (.cn (.int 1))]))] [], .setI (.var 0) (.cn (.int 2)) (.var 2)]
      [some (.loc 2), some (.int m), some (.int num), some (.int t.p)] (tp (ns.map .int) t1 ++ W)) (seqQ (exSs c (dDraw.body.drop 1)) (retQ (tp (ns.map .int) t ++ W) Q)) := by
    intro t1 num e1 e2 e3 h0
    by_cases hl : num < 1000000000000000000
    · have m3 := bop_mul (mulOk_small (i := num) (j := 48271) (by omega) (by omega))
      have m4 : ∀ z : Int, ∀ S, bop .mul (.int (z % 2147483647)) (.int 69621) S = _ := fun z => bop_mul (mulOk_small (by omega) (by omega))
      simp [hp, hl, m3, m2, m4, bm1, bm2, bm, hmax]
      refine wp_fin_tp0 rfl (h _ _ (hmod _).1 (hmod _).2 ⟨?_, ?_, ?_, e3.1, e3.2⟩)
      · show 0 ≤ t.p + 1; omega
      · show t.p + 1 + n ≤ _; omega
      · show 0 ≤ t1.r; omega
    · simp [hp, hl]
      refine tail _ _ _ ⟨?_, ?_, h0, e3.1, e3.2⟩ h0 rfl
      · show 0 ≤ t.p + 1; omega
      · show t.p + 1 + n ≤ _; omega
  by_cases hr : t.r = 0
  · by_cases hl : t.p < ns.length
    · obtain ⟨x, hx, ex⟩ := atI_in (xs := ns.map D.int) p0 (by simpa using hl)
      obtain ⟨i, _, rfl⟩ := List.mem_map.mp hx
      have := rest t (if i < 0 then -i else i) rfl hr ⟨s0, sn⟩ (by split <;> omega)
      simp [dDraw, start', hr, hl, ex]
      simpa [dDraw, hr] using this
    · have hl' : ¬ t.p < (ns.map D.int).length := by simpa using hl
      have := rest ⟨t.p, t.r, (t.s * 48271 + t.p + 1) % 2147483647⟩ ((t.s * 48271 + t.p + 1) % 2147483647) rfl hr ⟨Int.emod_nonneg _ (by omega), Int.emod_lt_of_pos _ (by omega)⟩ (Int.emod_nonneg _ (by omega))
      simp [dDraw, start', hr, hl, m1, bm1]
      simpa [dDraw, hr] using this
  · have := tail t t.r none ⟨p0, by omega, r0, s0, sn⟩ r0 rfl
    simp [dDraw, start', hr]
    simpa [dDraw] using this
end Cs

set_option Elab.async false
set_option linter.all false
set_option maxRecDepth 100000
namespace Cs
open PySem PySem.Spec PyProof.Rows L2

def dTape : FDef where
  np := 1
  nl := 3
  keep := true
  body := [
    .set 1 (.cn (.int 7)),
    .for_ (.v 2) .seq [(.var 0)] [.set 1 (.bin .mod (.blt "int" [(.bin .add (.bin .mul (.var 1) (.cn (.int 31))) (.blt "abs" [(.blt "int" [(.var 2)])]))]) (.cn (.int 2147483647)))],
    .ret (.lst [(.blt "list" [(.var 0)]), (.cn (.int 0)), (.cn (.int 0)), (.var 1)])]
@[simp] theorem items_loc {n : Nat} {S : Sto} {xs : List D} (h : getL S n = some xs) : items .seq [.loc n] S = some (xs, [(n, xs)]) := by simp only [items, h]; rfl
@[simp] theorem items_tup (xs : List D) (S : Sto) : items .seq [.tup xs] S = some (xs, []) := rfl
theorem items_rng {j : Int} (h : smallI j) (S : Sto) : items .rng [.int j] S = some (rngD 0 j.toNat, []) := if_pos h
theorem items_rng2 {i j : Int} (h : smallI i) (h2 : smallI j) (S : Sto) : items .rng [.int i, .int j] S = some (rngD i (j - i).toNat, []) := if_pos ⟨h, h2⟩
theorem still_nil (S : Sto) : still [] S := fun _ h => nomatch h
theorem still_one {n : Nat} {xs : List D} {S : Sto} (h : getL S n = some xs) : still [(n, xs)] S := fun p hp => by
  rcases List.mem_singleton.mp hp with rfl
  exact h
@[simp] theorem asg_v (i : Nat) (d : D) (env : Ev) : asg (.v i) d env = some (env.set i (some d)) := rfl
inductive TapeI (sc : List D) : List D → Ev → Sto → Prop where
  | mk {xs : List D} {v : Int} {o : Option D} (hx : ∀ x ∈ xs, ∃ i, x = D.int i) (h0 : 0 ≤ v) (h1 : v < 2147483647) : TapeI sc xs [some (.loc 0), some (.int v), o] [.ro sc]
theorem tape_ok (c : Cfg) (ns : List Int) {Q : D → Sto → Prop} (h : ∀ t, t.ok 900000 → Q (.loc 2) (tp (ns.map .int) t ++ [])) : wp (runF c dTape [.loc 0] [.ro (ns.map .int)]) Q := by
  have core : wp (exSs c dTape.body (start' dTape [.loc 0]) [.ro (ns.map .int)]) fun f S => ∃ t, t.ok 900000 ∧ f = .rt (.loc 2) ∧ S = tp (ns.map .int) t ++ [] := by
    have bm1 := fun i : Int => bop_mod (i := i) (j := 2147483647) (by omega)
    simp [dTape, start', items_loc (n := 0) (S := [.ro (ns.map D.int)]) rfl]
    refine wp_forL (I := TapeI (ns.map .int)) ?_ ?_ ?_ _ _ _ (.mk (by simp) (by omega) (by omega))
    · rintro xs env S ⟨⟩
      exact still_one rfl
    · rintro x xs env S ⟨hx, h0, h1⟩
      refine ⟨_, rfl, ?_⟩
      obtain ⟨i, rfl⟩ := hx _ (List.mem_cons_self ..)
      rename_i v o
      have m1 := bop_mul (mulOk_small (i := v) (j := 31) (by omega) (by omega))
      simp [m1, bm1]
      exact .mk (fun x hm => hx x (List.mem_cons_of_mem _ hm)) (Int.emod_nonneg _ (by omega)) (Int.emod_lt_of_pos _ (by omega))
    · rintro env S ⟨hx, h0, h1⟩
      rename_i v o
      simp [bList_loc (n := 0) (S := [.ro (ns.map D.int)]) rfl]
      exact ⟨⟨0, 0, v⟩, ⟨by simp, by simp, by simp, h0, h1⟩, rfl⟩
  obtain ⟨f, S, e, t, ok, rfl, rfl⟩ := core
  exact ⟨.loc 2, _, by rw [runF, if_pos (show [D.loc 0].length = dTape.np from rfl), e]; rfl, h t ok⟩

def dLowest : FDef where
  np := 2
  nl := 5
  keep := false
  body := [
    .set 2 (.blt "abs" [(.var 0)]),
    .set 3 (.blt "abs" [(.var 1)]),
    .whl (.cmp .gt (.var 3) (.cn (.int 0))) [.set 4 (.bin .mod (.blt "int" [(.var 2)]) (.var 3)), .set 2 (.var 3), .set 3 (.var 4)],
    .iff (.cmp .lt (.var 1) (.cn (.int 0))) [.set 2 (.bin .sub (.cn (.int 0)) (.var 2))] [],
    .ret (.tup [(.bin .fdiv (.var 0) (.var 2)), (.bin .fdiv (.var 1) (.var 2))])]
theorem abs_nat (i : Int) : (if i < 0 then -i else i) = (i.natAbs : Int) := by split <;> omega
inductive LowI (n d : Int) (S : Sto) (g : Nat) : Nat → Ev → Sto → Prop where
  | mk {a b : Nat} {o : Option D} (hg : Nat.gcd a b = g) : LowI n d S g b [some (.int n), some (.int d), some (.int (a : Nat)), some (.int (b : Nat)), o] S
theorem lowest_ok (c : Cfg) {n d : Int} {S : Sto} {Q : D → Sto → Prop} (hd : 0 < d) (hd2 : d < 2 ^ 64)
    (h : Q (.tup [.int (n / (Nat.gcd n.natAbs d.natAbs : Nat)), .int (d / (Nat.gcd n.natAbs d.natAbs : Nat))]) S) : wp (runF c dLowest [.int n, .int d] S) Q := by
  refine wp_run rfl rfl ?_
  simp [dLowest, start', abs_nat]
  refine wp_whE (I := LowI n d S (Nat.gcd n.natAbs d.natAbs)) ?_ (.mk rfl)
  rintro k env S' ⟨hg⟩
  rename_i a o
  by_cases hb : 0 < k
  · have bm := bop_mod (i := (a : Int)) (j := (k : Int)) (by omega)
    simp [hb, bm]
    refine ⟨a % k, Nat.mod_lt a hb, ?_⟩
    have := LowI.mk (n := n) (d := d) (S := S) (g := Nat.gcd n.natAbs d.natAbs) (a := k) (b := a % k) (o := some (.int (a % k : Nat))) (by rw [← hg, Nat.gcd_comm a k, Nat.gcd_rec k a, Nat.gcd_comm])
    simpa using this
  · have : k = 0 := by omega
    subst this
    rw [Nat.gcd_zero_right] at hg
    subst hg
    have g0 : 0 < Nat.gcd n.natAbs d.natAbs := Nat.gcd_pos_of_pos_right _ (by omega)
    have gd : Nat.gcd n.natAbs d.natAbs ≤ d.natAbs := Nat.le_of_dvd (by omega) (Nat.gcd_dvd_right _ _)
    have bf := fun i : Int => bop_fdiv (i := i) (j := ((Nat.gcd n.natAbs d.natAbs : Nat) : Int)) (divOk_small (by omega) (by omega))
    have hd' : ¬ d < 0 := by omega
    simp [hd', bf]
    exact wp_fin_same rfl h
end Cs

set_option Elab.async false
set_option linter.all false
set_option maxRecDepth 100000
namespace Cs
open PySem PySem.Spec PyProof.Rows L2

/-! ### data that may be compared and shown -/
structure Nc (n w : Nat) (d : D) : Prop where
  pure : d.pure = true
  lay : d.py.canLay0 = true
  sho : d.py.showable = true
  itn : d.py.intsShort 13 = true
  dep : d.py.depth ≤ n
  wt : d.py.weight ≤ w
theorem Nc.mono {n w n' w' : Nat} {d : D} (h : Nc n w d) (l1 : n ≤ n') (l2 : w ≤ w') : Nc n' w' d := ⟨h.pure, h.lay, h.sho, h.itn, Nat.le_trans h.dep l1, Nat.le_trans h.wt l2⟩
theorem Nc.bl (b : Bool) (n w : Nat) : Nc n w (.bl b) := ⟨rfl, by simp [D.py, PyData.canLay0], by simp [D.py, PyData.showable], by simp [D.py, PyData.intsShort], by simp [D.py, PyData.depth], by simp [D.py, PyData.weight]⟩
theorem Nc.int {i : Int} (h : i.natAbs < 10 ^ 12) (n : Nat) : Nc n 40 (.int i) := by
  have l : i.natAbs = 0 ∨ i.natAbs.log2 < 40 := by
    by_cases z : i.natAbs = 0
    · exact .inl z
    · exact .inr ((Nat.log2_lt z).mpr (by omega))
  refine ⟨rfl, by simp [D.py, PyData.canLay0], ?_, ?_, by simp [D.py, PyData.depth], ?_⟩
  · simp only [D.py, PyData.showable, decide_eq_true_eq]
    rcases l with z | z
    · rw [z]; decide
    · omega
  · simp only [D.py, PyData.intsShort, decide_eq_true_eq]
    exact PyData.shown_int_le h
  · simp only [D.py, PyData.weight]
    split
    · omega
    · rename_i z
      have : i ≠ 0 := by simpa using z
      rcases l with z | z
      · omega
      · omega
theorem Nc.str {z : Str} (h : PyData.strOk z = true) {w : Nat} (hw : z.length ≤ w) (n : Nat) : Nc n w (.str z) :=
  ⟨rfl, by simpa [D.py, PyData.canLay0] using h, by simp [D.py, PyData.showable], by simp [D.py, PyData.intsShort], by simp [D.py, PyData.depth], by simp only [D.py, PyData.weight]; exact hw⟩
theorem Nc.lit (s : String) {w : Nat} (hw : s.length ≤ w) (n : Nat) : Nc n w (.str (Str.ofString s)) := .str (strOk_ofString s) (by rw [PySem.ofString_length]; exact hw) n
theorem NcL_facts {n w : Nat} : ∀ {ds : List D}, (∀ d ∈ ds, Nc n w d) → D.pureL ds = true ∧ PyData.canLayAll0 (D.pyL ds) = true ∧ PyData.showableAll (D.pyL ds) = true ∧ PyData.intsShortAll 13 (D.pyL ds) = true ∧ PyData.depthAll (D.pyL ds) ≤ n ∧ PyData.weightAll (D.pyL ds) ≤ ds.length * (w + 1)
  | [], _ => by simp [D.pureL, D.pyL, PyData.canLayAll0, PyData.showableAll, PyData.intsShortAll, PyData.depthAll, PyData.weightAll]
  | d :: ds, h => by
    obtain ⟨h1, h2, h3, h4, h5, h6⟩ := NcL_facts (ds := ds) fun x hx => h x (List.mem_cons_of_mem _ hx)
    have hd := h d (List.mem_cons_self ..)
    have := hd.wt
    have e : (ds.length + 1) * (w + 1) = ds.length * (w + 1) + (w + 1) := by rw [Nat.add_mul]; omega
    refine ⟨by simp [D.pureL, hd.pure, h1], by simp [D.pyL, PyData.canLayAll0, hd.lay, h2], by simp [D.pyL, PyData.showableAll, hd.sho, h3], by simp [D.pyL, PyData.intsShortAll, hd.itn, h4], ?_, ?_⟩
    · simp only [D.pyL, PyData.depthAll]; have := hd.dep; omega
    · simp only [D.pyL, PyData.weightAll, List.length_cons]; omega
theorem Nc.tup {n w : Nat} {ds : List D} (h : ∀ d ∈ ds, Nc n w d) : Nc (n + 1) (ds.length * (w + 1)) (.tup ds) := by
  obtain ⟨h1, h2, h3, h4, h5, h6⟩ := NcL_facts h
  exact ⟨by simpa [D.pure] using h1, by simpa [D.py, PyData.canLay0] using h2, by simpa [D.py, PyData.showable] using h3, by simpa [D.py, PyData.intsShort] using h4, by simp only [D.py, PyData.depth]; omega, by simpa [D.py, PyData.weight] using h6⟩
theorem Nc.okD {n w : Nat} {d : D} (h : Nc n w d) (hn : n ≤ 64) : d.ok := ⟨h.pure, by simp only [SeqAt.shaped, h.lay, Bool.true_and, decide_eq_true_eq]; have := h.dep; omega⟩
theorem Nc.okL {n w : Nat} {ds : List D} (h : ∀ d ∈ ds, Nc n w d) (hn : n < 64) : okL ds := by
  obtain ⟨h1, h2, h3, h4, h5, h6⟩ := NcL_facts h
  refine ⟨h1, ?_⟩
  have e : PyData.depth (.list (D.pyL ds)) = PyData.depthAll (D.pyL ds) + 1 := by simp [PyData.depth]
  simp only [SeqAt.shaped, PyData.canLay0, h2, Bool.true_and, decide_eq_true_eq, e]
  omega
theorem Nc.sh {n w : Nat} {d : D} (h : Nc n w d) (hn : n ≤ 64) (hw : w ≤ 1000000) : shOk d.py := by
  refine ⟨h.sho, PyData.hasDict_of_canLay _ h.lay, by have := h.dep; omega, ?_⟩
  have := PyData.shown_le 13 (by decide) d.py (PyData.leavesShort_of_canLay0 13 _ h.lay h.itn)
  have := h.wt
  rw [sizeLine_eq]; omega
theorem cmpd_nc {n w : Nat} {d : D} (h : Nc n w d) (hn : n ≤ 64) (S : Sto) : cmpd S d = some d.py := by
  have o := h.okD hn
  cases d with
  | loc m => have := h.pure; simp [D.pure] at this
  | _ => simp only [cmpd]; exact if_pos o
theorem repr_nc {n w : Nat} {xs : List D} (h : Nc n w (.tup xs)) (hn : n ≤ 64) (hw : w ≤ 1000000) (S : Sto) : bRepr [.tup xs] S = some (.str (D.py (.tup xs)).shown, S) :=
  if_pos ⟨by simpa [D.pure] using h.pure, h.sh hn hw⟩
@[simp] theorem repr_bl (b : Bool) (S : Sto) : bRepr [.bl b] S = some (.str (if b then ("True" : String) else "False"), S) := rfl
theorem in_tup {n w : Nat} {x : D} {ys : List D} (hx : Nc n w x) (hy : ∀ d ∈ ys, Nc n w d) (hn : n < 64) (S : Sto) : cop .isin x (.tup ys) S = some (.bl ((D.pyL ys).any fun z => PyData.eqv z x.py), S) := by
  simp only [cop, cmpd_nc hx (Nat.le_of_lt hn)]
  exact if_pos (Nc.okL hy hn)
theorem in_loc {n w m : Nat} {x : D} {ys : List D} {S : Sto} (hx : Nc n w x) (e : getL S m = some ys) (hy : ∀ d ∈ ys, Nc n w d) (hn : n < 64) : cop .isin x (.loc m) S = some (.bl ((D.pyL ys).any fun z => PyData.eqv z x.py), S) := by
  simp only [cop, cmpd_nc hx (Nat.le_of_lt hn), e]
  exact if_pos (Nc.okL hy hn)
theorem notin_loc {n w m : Nat} {x : D} {ys : List D} {S : Sto} (hx : Nc n w x) (e : getL S m = some ys) (hy : ∀ d ∈ ys, Nc n w d) (hn : n < 64) : cop .notin x (.loc m) S = some (.bl (!(D.pyL ys).any fun z => PyData.eqv z x.py), S) := by
  simp only [cop, cmpd_nc hx (Nat.le_of_lt hn), e]
  exact if_pos (Nc.okL hy hn)
theorem eq_loc {n w m m' : Nat} {xs ys : List D} {S : Sto} (e1 : getL S m = some xs) (e2 : getL S m' = some ys) (hx : ∀ d ∈ xs, Nc n w d) (hy : ∀ d ∈ ys, Nc n w d) (hn : n < 64) : cop .eq (.loc m) (.loc m') S = some (.bl (PyData.eqvAll (D.pyL xs) (D.pyL ys)), S) := by
  have h1 : cmpd S (.loc m) = some (.list (D.pyL xs)) := by simp only [cmpd, e1]; exact if_pos (Nc.okL hx hn)
  have h2 : cmpd S (.loc m') = some (.list (D.pyL ys)) := by simp only [cmpd, e2]; exact if_pos (Nc.okL hy hn)
  simp only [cop, copEq, scD, h1, h2, PyData.eqv]; rfl
@[simp] theorem str_beq (a b : String) : (Str.ofString a == Str.ofString b) = (a == b) := by
  rw [Bool.eq_iff_iff]
  simp [ofString_inj]
/-! ### words -/
theorem strOk_app {a b : Str} (ha : PyData.strOk a = true) (hb : PyData.strOk b = true) : PyData.strOk (a ++ b) = true := by
  show ((a.cps ++ b.cps).all _) = true
  rw [Array.all_append]
  exact Bool.and_eq_true_iff.mpr ⟨ha, hb⟩
theorem strOk_one {z : Str} (h : PyData.strOk z = true) {c : Nat} (hc : c ∈ z.cps.toList) : PyData.strOk ⟨#[c]⟩ = true := by
  have := Array.all_eq_true_iff_forall_mem.mp h c (Array.mem_toList_iff.mp hc)
  simpa [PyData.strOk] using this
theorem iop_str {z : Str} (hz : z.length ≤ sizeLine) {k : Int} (h0 : 0 ≤ k) (h1 : k < z.length) (hs : PyData.strOk z = true) (S : Sto) : ∃ y : Str, iop (.str z) (.int k) S = some (.str y, S) ∧ y.length = 1 ∧ PyData.strOk y = true := by
  obtain ⟨c, hc, e⟩ := atI_in (xs := z.cps.toList) h0 (by simpa [Str.length] using h1)
  refine ⟨⟨#[c]⟩, ?_, rfl, strOk_one hs hc⟩
  simp only [iop, if_pos hz, e]
  rfl
end Cs
namespace Cs
open PySem PySem.Spec PyProof.Rows L2
/-! ### lists made in a call -/
section
variable (sc : List D) (t : Tp) (W J : Sto) (i : Nat)
@[simp] theorem iop_ad (k : Int) : iop (.loc (ad W i)) (.int k) (tp sc t ++ (W ++ J)) = match getL J i with | some xs => lift (atI xs k) (tp sc t ++ (W ++ J)) | none => none := by
  simp only [iop, tp_getL]; rfl
@[simp] theorem bTuple_ad : bTuple [.loc (ad W i)] (tp sc t ++ (W ++ J)) = match getL J i with | some xs => some (.tup xs, tp sc t ++ (W ++ J)) | none => none := by
  simp only [bTuple, tp_getL]; cases getL J i <;> rfl
@[simp] theorem bLen_ad : bLen [.loc (ad W i)] (tp sc t ++ (W ++ J)) = match getL J i with | some xs => some (.int xs.length, tp sc t ++ (W ++ J)) | none => none := by
  simp only [bLen, tp_getL]; cases getL J i <;> rfl
@[simp] theorem mTy_ad : mTy "append" (.loc (ad W i)) (tp sc t ++ (W ++ J)) = (getL J i).isSome := by
  simp only [mTy_append, tp_getL]
@[simp] theorem mAppend_ad (y : D) : mAppend (.loc (ad W i)) [y] (tp sc t ++ (W ++ J)) = match getM J i with | some xs => if xs.length < sizeLine then some (.non, tp sc t ++ (W ++ J.set i (.lst (xs ++ [y])))) else none | none => none := by
  simp only [mAppend, tp_getM, tp_set] <;> rfl
@[simp] theorem items_ad : items .seq [.loc (ad W i)] (tp sc t ++ (W ++ J)) = match getL J i with | some xs => some (xs, [(ad W i, xs)]) | none => none := by
  simp only [items, tp_getL]; cases getL J i <;> rfl
@[simp] theorem bop_ad (j : Nat) : bop .add (.loc (ad W i)) (.loc (ad W j)) (tp sc t ++ (W ++ J)) = match getM J i, getM J j with
    | some xs, some ys => if xs.length + ys.length ≤ sizeLine then some (.loc (ad W J.length), tp sc t ++ (W ++ (J ++ [.lst (xs ++ ys)]))) else none
    | _, _ => none := by
  simp only [bop, tp_getM, tp_len, ad_app, tp_app, List.append_assoc, Nat.add_zero] <;> rfl
end
theorem wp_atI {xs : List D} {r : Int} {S : Sto} {Q : D → Sto → Prop} (h0 : 0 ≤ r) (h1 : r < xs.length) (h : ∀ x ∈ xs, Q x S) : wp (lift (atI xs r) S) Q := by
  obtain ⟨x, hx, e⟩ := atI_in h0 h1
  rw [e]
  exact wp_some _ _ _ |>.mpr (h x hx)
theorem rngD_mem {i : Int} {n : Nat} {x : D} (h : x ∈ rngD i n) : ∃ j : Int, x = .int j ∧ i ≤ j ∧ j < i + n := by
  obtain ⟨m, hm, rfl⟩ := List.mem_map.mp h
  have := List.mem_range.mp hm
  exact ⟨_, rfl, by omega, by omega⟩
end Cs

set_option linter.all false
namespace K80
/-! ### the simplest fraction of an interval -/
def Lo (a b : Int) (wl : Bool) (m e : Int) : Prop := a * e < m * b ∨ (wl = true ∧ a * e = m * b)
def Hi : Option (Int × Int) → Bool → Int → Int → Prop
  | none, _, _, _ => True
  | some (c, d), wh, m, e => m * d < c * e ∨ (wh = true ∧ m * d = c * e)
structure Iv where
  a : Int
  b : Int
  wl : Bool
  hi : Option (Int × Int)
  wh : Bool
structure Mem (v : Iv) (m e : Int) : Prop where
  pos : 0 < e
  lo : Lo v.a v.b v.wl m e
  hi : Hi v.hi v.wh m e
structure Best (v : Iv) (n d : Int) : Prop where
  mem : Mem v n d
  pos : 0 < n
  red : Int.gcd n d = 1
  least : ∀ m e, Mem v m e → n ≤ m ∧ d ≤ e
structure Ok (B : Int) (v : Iv) : Prop where
  a0 : 0 ≤ v.a
  b0 : 0 < v.b
  red : Int.gcd v.a v.b = 1
  wl : v.wl = true → 0 < v.a
  aB : v.a ≤ B
  bB : v.b ≤ B
  hi : ∀ c d, v.hi = some (c, d) → 0 < d ∧ Int.gcd c d = 1 ∧ v.a * d < c * v.b ∧ c ≤ B ∧ d ≤ B
theorem Ok.c0 {B : Int} {v : Iv} (h : Ok B v) {c d : Int} (e : v.hi = some (c, d)) : 0 < c := by
  obtain ⟨d0, _, lt, _, _⟩ := h.hi c d e
  have h1 : 0 ≤ v.a * d := Int.mul_nonneg h.a0 (by omega)
  have h2 : 0 < c * v.b := by omega
  exact Int.pos_of_mul_pos_left h2 h.b0
/-- the least whole number above -/
def w0 (v : Iv) : Int := if v.b = 1 ∧ v.wl = true then v.a else v.a / v.b + 1
theorem fl_facts {a b : Int} (hb : 0 < b) : a / b * b ≤ a ∧ a < (a / b + 1) * b := by
  have h1 := Int.ediv_mul_le a (Int.ne_of_gt hb)
  have h2 := Int.lt_ediv_add_one_mul_self a hb
  exact ⟨h1, h2⟩
theorem w0_lo {B : Int} {v : Iv} (h : Ok B v) : Lo v.a v.b v.wl (w0 v) 1 := by
  unfold w0 Lo
  split
  · rename_i e
    right; refine ⟨e.2, ?_⟩; rw [e.1]
  · left
    have := (fl_facts (a := v.a) h.b0).2
    omega
theorem w0_pos {B : Int} {v : Iv} (h : Ok B v) : 0 < w0 v := by
  unfold w0
  split
  · rename_i e; exact h.wl e.2
  · have : 0 ≤ v.a / v.b := Int.ediv_nonneg h.a0 (by have := h.b0; omega)
    omega
/-- no whole number below w0 -/
theorem w0_least {B : Int} {v : Iv} (h : Ok B v) {m e : Int} (he : 0 < e) (hl : Lo v.a v.b v.wl m e) : w0 v ≤ m := by
  have hb := h.b0
  have ha := h.a0
  -- a ≤ m * b
  have key : v.a * 1 ≤ v.a * e := Int.mul_le_mul_of_nonneg_left (by omega) ha
  unfold w0
  rcases hl with lt | ⟨wl, eq⟩
  · have h2 : v.a < m * v.b := by omega
    have h3 : v.a / v.b < m := Int.ediv_lt_of_lt_mul hb h2
    split
    · rename_i q; rw [q.1] at h2; omega
    · omega
  · have h2 : v.a ≤ m * v.b := by omega
    split
    · rename_i q; rw [q.1] at h2; omega
    · rename_i q
      have nb : v.b ≠ 1 := fun z => q ⟨z, wl⟩
      -- a < m * b, as a is not a multiple of b
      have h4 : v.a ≠ m * v.b := fun z => by
        have : v.b ∣ Int.gcd v.a v.b := Int.dvd_coe_gcd ⟨m, by rw [z, Int.mul_comm]⟩ (Int.dvd_refl _)
        rw [h.red] at this
        have := Int.le_of_dvd (by omega) this
        omega
      have h3 : v.a / v.b < m := Int.ediv_lt_of_lt_mul hb (by omega)
      omega
theorem w0_best {B : Int} {v : Iv} (h : Ok B v) (hh : Hi v.hi v.wh (w0 v) 1) : Best v (w0 v) 1 :=
  ⟨⟨by omega, w0_lo h, hh⟩, w0_pos h, by simp, fun m e hm => ⟨w0_least h hm.pos hm.lo, by have := hm.pos; omega⟩⟩
/-- one step of the continued fraction -/
def nxt (v : Iv) (c d : Int) : Iv := ⟨d, c - v.a / v.b * d, v.wh, if v.a - v.a / v.b * v.b = 0 then none else some (v.b, v.a - v.a / v.b * v.b), v.wl⟩
theorem gcd_sub (a w b : Int) : Int.gcd (a - w * b) b = Int.gcd a b := by
  simp
theorem no_whole {B : Int} {v : Iv} (h : Ok B v) {c d : Int} (e : v.hi = some (c, d)) (nh : ¬ Hi v.hi v.wh (w0 v) 1) : c ≤ w0 v * d ∧ (c = w0 v * d → v.wh = false) := by
  rw [e] at nh
  simp only [Hi] at nh
  refine ⟨by omega, fun q => ?_⟩
  cases hw : v.wh with
  | false => rfl
  | true => exact absurd (.inr ⟨hw, by omega⟩) nh
/-- low itself is not a whole member -/
theorem not_low {B : Int} {v : Iv} (h : Ok B v) {c d : Int} (e : v.hi = some (c, d)) (nh : ¬ Hi v.hi v.wh (w0 v) 1) (z : v.b = 1) : v.wl = false := by
  cases hw : v.wl with
  | false => rfl
  | true =>
    obtain ⟨h1, _⟩ := no_whole h e nh
    have : w0 v = v.a := if_pos ⟨z, hw⟩
    obtain ⟨_, _, lt, _⟩ := h.hi c d e
    rw [z, Int.mul_one] at lt
    rw [this] at h1
    omega
theorem zero_one {B : Int} {v : Iv} (h : Ok B v) (z : v.a - v.a / v.b * v.b = 0) : v.b = 1 := by
  have hb := h.b0
  have : v.b ∣ Int.gcd v.a v.b := Int.dvd_coe_gcd ⟨v.a / v.b, by rw [Int.mul_comm]; omega⟩ (Int.dvd_refl _)
  rw [h.red] at this
  have := Int.le_of_dvd (by omega) this
  omega
theorem w0_le {v : Iv} : w0 v ≤ v.a / v.b + 1 := by
  unfold w0
  split
  · rename_i q; rw [q.1, Int.ediv_one]; omega
  · omega
theorem nxt_mem {B : Int} {v : Iv} (h : Ok B v) {c d : Int} (e : v.hi = some (c, d)) (nh : ¬ Hi v.hi v.wh (w0 v) 1) {m g : Int} (hm : Mem v m g) : Mem (nxt v c d) g (m - v.a / v.b * g) := by
  obtain ⟨hg, hl, hh⟩ := hm
  have hb := h.b0
  have f1 := (fl_facts (a := v.a) hb).1
  rw [e] at hh
  generalize hfl : v.a / v.b = fl at *
  have pos : 0 < m - fl * g := by
    have h1 : fl * v.b * g ≤ v.a * g := Int.mul_le_mul_of_nonneg_right f1 (by omega)
    have h2 : v.a * g ≤ m * v.b := by rcases hl with q | q <;> omega
    have h3 : fl * g * v.b ≤ m * v.b := by grind
    have h4 : fl * g ≤ m := Int.le_of_mul_le_mul_right h3 hb
    rcases Int.lt_or_eq_of_le h4 with q | q
    · omega
    · exfalso
      have h5 : v.a * g = fl * v.b * g := by
        have : m * v.b = fl * v.b * g := by rw [← q]; grind
        omega
      have h6 : v.a = fl * v.b := Int.eq_of_mul_eq_mul_right (by omega) h5
      have z : v.a - v.a / v.b * v.b = 0 := by rw [hfl]; omega
      have := not_low h e nh (zero_one h z)
      rcases hl with r | r
      · have : m * v.b = fl * v.b * g := by rw [← q]; grind
        omega
      · rw [this] at r; exact absurd r.1 (by simp)
  refine ⟨pos, ?_, ?_⟩
  · simp only [nxt, Lo, hfl]
    rcases hh with q | q
    · left; grind
    · right; exact ⟨q.1, by grind⟩
  · simp only [nxt, hfl]
    split
    · trivial
    · simp only [Hi]
      rcases hl with q | q
      · left; grind
      · right; exact ⟨q.1, by grind⟩
theorem mem_nxt {B : Int} {v : Iv} (h : Ok B v) {c d : Int} (e : v.hi = some (c, d)) {n q : Int} (hn : 0 < n) (hm : Mem (nxt v c d) n q) : Mem v (v.a / v.b * n + q) n := by
  obtain ⟨hq, hl, hh⟩ := hm
  have hb := h.b0
  simp only [nxt] at hl hh
  generalize hfl : v.a / v.b = fl at *
  refine ⟨hn, ?_, ?_⟩
  · split at hh
    · rename_i z
      left
      have : 0 < q * v.b := Int.mul_pos hq hb
      have : v.a * n = fl * v.b * n := by rw [show v.a = fl * v.b by omega]
      grind
    · simp only [Hi] at hh
      rcases hh with r | r
      · left; grind
      · right; exact ⟨r.1, by grind⟩
  · rw [e]
    simp only [Lo] at hl
    simp only [Hi]
    rcases hl with r | r
    · left; grind
    · right; exact ⟨r.1, by grind⟩
theorem nxt_ok {B : Int} {v : Iv} (h : Ok B v) {c d : Int} (e : v.hi = some (c, d)) (nh : ¬ Hi v.hi v.wh (w0 v) 1) : Ok B (nxt v c d) ∧ (nxt v c d).b ≤ d := by
  obtain ⟨d0, rd, lt, cB, dB⟩ := h.hi c d e
  have hb := h.b0
  have f1 := (fl_facts (a := v.a) hb).1
  have f2 := (fl_facts (a := v.a) hb).2
  have n1 := (no_whole h e nh).1
  have n2 : w0 v * d ≤ (v.a / v.b + 1) * d := Int.mul_le_mul_of_nonneg_right w0_le (by omega)
  have fl0 : 0 ≤ v.a / v.b := Int.ediv_nonneg h.a0 (by omega)
  simp only [nxt]
  generalize hfl : v.a / v.b = fl at *
  have p1 : 0 < c - fl * d := by
    have h1 : fl * v.b * d ≤ v.a * d := Int.mul_le_mul_of_nonneg_right f1 (by omega)
    have h2 : fl * d * v.b < c * v.b := by grind
    have := Int.lt_of_mul_lt_mul_right h2 (by omega)
    omega
  have p2 : c - fl * d ≤ d := by grind
  refine ⟨⟨by (try simp only); omega, by (try simp only); omega, ?_, fun _ => by (try simp only); omega, by (try simp only); omega, by (try simp only); omega, ?_⟩, by (try simp only); omega⟩
  · simp only
    rw [Int.gcd_comm, gcd_sub]; exact rd
  · intro c' d' e'
    simp only at e'
    split at e'
    · cases e'
    · rename_i nz
      cases e'
      simp only
      refine ⟨by omega, ?_, ?_, h.bB, ?_⟩
      · rw [Int.gcd_comm, gcd_sub]; exact h.red
      · grind
      · have := h.bB; grind
theorem nxt_best {B : Int} {v : Iv} (h : Ok B v) {c d : Int} (e : v.hi = some (c, d)) (nh : ¬ Hi v.hi v.wh (w0 v) 1) {n q : Int} (hb : Best (nxt v c d) n q) : Best v (v.a / v.b * n + q) n := by
  have fl0 : 0 ≤ v.a / v.b := Int.ediv_nonneg h.a0 (by have := h.b0; omega)
  refine ⟨mem_nxt h e hb.pos hb.mem, ?_, ?_, fun m g hm => ?_⟩
  · have : 0 ≤ v.a / v.b * n := Int.mul_nonneg fl0 (by have := hb.pos; omega)
    have := hb.mem.pos
    omega
  · have : v.a / v.b * n + q = q - (-(v.a / v.b)) * n := by grind
    rw [this, gcd_sub, Int.gcd_comm]; exact hb.red
  · have h1 := hb.least _ _ (nxt_mem h e nh hm)
    refine ⟨?_, h1.1⟩
    have : v.a / v.b * n ≤ v.a / v.b * g := Int.mul_le_mul_of_nonneg_left h1.1 fl0
    omega
end K80

set_option Elab.async false
set_option linter.all false
set_option maxRecDepth 100000
namespace K80
open PySem PySem.Spec PyProof.Rows L2 Cs

abbrev fr (a b : Int) : D := .tup [.int a, .int b]
def G : String → Option D
  | "ONE" => some (fr 1 1)
  | "ZERO" => some (fr 0 1)
  | _ => none
/-! ### calls -/
theorem fin_pure {S J : Sto} {d : D} (h : d.pure = true) : fin S (d, S ++ J) = some (d, S) := by
  obtain ⟨a, S', e, rfl, rfl⟩ := wp_fin_app (S := S) (J := J) (d := d) (Q := fun a S' => a = d ∧ S' = S) h ⟨rfl, rfl⟩
  exact e
theorem fin_pure0 {S : Sto} {d : D} (h : d.pure = true) : fin S (d, S) = some (d, S) := by
  have := fin_pure (S := S) (J := []) h
  rwa [List.append_nil] at this
@[simp] theorem fin_bl (S J : Sto) (b : Bool) : fin S (.bl b, S ++ J) = some (.bl b, S) := fin_pure rfl
@[simp] theorem fin_bl0 (S : Sto) (b : Bool) : fin S (.bl b, S) = some (.bl b, S) := fin_pure0 rfl
@[simp] theorem fin_int0 (S : Sto) (b : Int) : fin S (.int b, S) = some (.int b, S) := fin_pure0 rfl
@[simp] theorem fin_fr (S J : Sto) (a b : Int) : fin S (.tup [.int a, .int b], S ++ J) = some (fr a b, S) := fin_pure rfl
@[simp] theorem fin_fr0 (S : Sto) (a b : Int) : fin S (.tup [.int a, .int b], S) = some (fr a b, S) := fin_pure0 rfl
theorem run_eq {c : Cfg} {fd : FDef} {vs : List D} {S S2 : Sto} {d : D} (hl : vs.length = fd.np) (hk : fd.keep = false) (h : wp (exSs c fd.body (start' fd vs) S) (retQ S fun a S' => a = d ∧ S' = S2)) : runF c fd vs S = some (d, S2) := by
  obtain ⟨a, S', e, rfl, rfl⟩ := wp_run hl hk h
  exact e
theorem c_gcd (k : Nat) (i j : Int) (S : Sto) : callF tab G k "gcd" [.int i, .int j] S = some (.int (Int.gcd i j : Nat), S) := by
  cases k <;> rfl
def Sm (i : Int) : Prop := i.natAbs < 2 ^ 62
theorem sm_mul {i j : Int} (h1 : Sm i) (h2 : Sm j) : mulOk i j := mulOk_small (by unfold Sm at h1; omega) (by unfold Sm at h2; omega)
theorem c_lowest {p q : Int} (hq : 0 < q) (hg : Int.gcd p q = 1) (k : Nat) (S : Sto) : callF tab G (k + 1) "lowest" [.int p, .int q] S = some (fr p q, S) := by
  rw [callF_succ (by decide) rfl]
  refine run_eq rfl rfl ?_
  have h0 : ¬ q < 0 := by omega
  have bf := fun i : Int => bop_fdiv (i := i) (j := 1) (divOk_small (by omega) (by decide))
  simp [d_lowest, start', h0, c_gcd, hg, bf]
theorem c_minus {a b c d : Int} (h : Int.gcd (a * d - c * b) (b * d) = 1) (h0 : 0 < b * d) (sa : Sm a) (sb : Sm b) (sc : Sm c) (sd : Sm d) (k : Nat) (S : Sto) : callF tab G (k + 2) "minus" [fr a b, fr c d] S = some (fr (a * d - c * b) (b * d), S) := by
  rw [callF_succ (by decide) rfl]
  refine run_eq rfl rfl ?_
  simp [d_minus, start', atI_0, atI_1, bop_mul (sm_mul sa sd), bop_mul (sm_mul sc sb), bop_mul (sm_mul sb sd), c_lowest h0 h]
theorem c_plus {a b c d : Int} (h : Int.gcd (a * d + c * b) (b * d) = 1) (h0 : 0 < b * d) (sa : Sm a) (sb : Sm b) (sc : Sm c) (sd : Sm d) (k : Nat) (S : Sto) : callF tab G (k + 2) "plus" [fr a b, fr c d] S = some (fr (a * d + c * b) (b * d), S) := by
  rw [callF_succ (by decide) rfl]
  refine run_eq rfl rfl ?_
  simp [d_plus, start', atI_0, atI_1, bop_mul (sm_mul sa sd), bop_mul (sm_mul sc sb), bop_mul (sm_mul sb sd), c_lowest h0 h]
theorem c_over {p q : Int} (hp : 0 < p) (hg : Int.gcd q p = 1) (sp : Sm p) (sq : Sm q) (k : Nat) (S : Sto) : callF tab G (k + 2) "over" [fr 1 1, fr p q] S = some (fr q p, S) := by
  rw [callF_succ (by decide) rfl]
  refine run_eq rfl rfl ?_
  have s1 : Sm 1 := by unfold Sm; decide
  simp [d_over, start', atI_0, atI_1, bop_mul (sm_mul s1 sq), bop_mul (sm_mul s1 sp), c_lowest hp hg]
def cmpI (l r : Int) : Int := (if r < l then 1 else 0) - (if l < r then 1 else 0)
theorem c_compare {a b c d : Int} (sa : Sm a) (sb : Sm b) (sc : Sm c) (sd : Sm d) (k : Nat) (S : Sto) : callF tab G (k + 1) "compare" [fr a b, fr c d] S = some (.int (cmpI (a * d) (c * b)), S) := by
  rw [callF_succ (by decide) rfl]
  refine run_eq rfl rfl ?_
  simp [d_compare, start', atI_0, atI_1, bop_mul (sm_mul sa sd), bop_mul (sm_mul sc sb), cmpI]
theorem cmpI_neg (l r : Int) : cmpI l r < 0 ↔ l < r := by
  unfold cmpI; split <;> split <;> omega
theorem cmpI_pos (l r : Int) : 0 < cmpI l r ↔ r < l := by
  unfold cmpI; split <;> split <;> omega
theorem c_floor {a b : Int} (hb : 0 < b) (sb : Sm b) (k : Nat) (S : Sto) : callF tab G (k + 1) "floor_of" [fr a b] S = some (.int (a / b), S) := by
  rw [callF_succ (by decide) rfl]
  refine run_eq rfl rfl ?_
  simp [d_floor_of, start', atI_0, atI_1, bop_fdiv (i := a) (divOk_small hb (by unfold Sm at sb; omega))]
theorem c_least {a b : Int} {wl : Bool} (hb : 0 < b) (sb : Sm b) (k : Nat) (S : Sto) : callF tab G (k + 2) "least_whole" [fr a b, .bl wl] S = some (.int (if b = 1 ∧ wl = true then a else a / b + 1), S) := by
  rw [callF_succ (by decide) rfl]
  refine run_eq rfl rfl ?_
  by_cases c : b = 1
  · subst c
    cases wl
    · simp [d_least_whole, start', atI_0, atI_1, c_floor (a := a) hb sb]
    · simp [d_least_whole, start', atI_0, atI_1]
  · simp [d_least_whole, start', atI_0, atI_1, c, c_floor hb sb]
theorem eq_fr (a b c d : Int) (S : Sto) : copEq (fr a b) (fr c d) S = some (decide (a = c ∧ b = d)) := by
  have o : ∀ x y : Int, (fr x y).ok := fun x y => ⟨rfl, by simp [D.py, D.pyL, SeqAt.shaped, PyData.canLay0, PyData.canLayAll0, PyData.depth, PyData.depthAll]⟩
  have c1 : ∀ x y : Int, cmpd S (fr x y) = some (D.py (fr x y)) := fun x y => by simp only [cmpd]; exact if_pos (o x y)
  simp only [copEq, scD, c1]
  simp [D.py, D.pyL, PyData.eqv, PyData.eqvAll]
  rw [Bool.eq_iff_iff]; simp
@[simp] theorem cop_eq_fr (a b c d : Int) (S : Sto) : cop .eq (.tup [.int a, .int b]) (.tup [.int c, .int d]) S = some (.bl (decide (a = c ∧ b = d)), S) := by
  simp only [cop, eq_fr]; rfl
@[simp] theorem cop_ne_fr (a b c d : Int) (S : Sto) : cop .ne (.tup [.int a, .int b]) (.tup [.int c, .int d]) S = some (.bl (!decide (a = c ∧ b = d)), S) := by
  simp only [cop, eq_fr]; rfl

/-! ### simplest_above -/
def hiD : Option (Int × Int) → D
  | none => .non
  | some (c, d) => fr c d
theorem best_bound {B : Int} {v : Iv} {n q : Int} (ok : Ok B v) (h : Best v n q) : n ≤ 2 * B + 1 ∧ q ≤ 2 * B + 1 := by
  cases e : v.hi with
  | none =>
    have hm : Mem v (w0 v) 1 := ⟨by omega, w0_lo ok, by rw [e]; trivial⟩
    have h1 := h.least _ _ hm
    have h2 := w0_le (v := v)
    have h3 : v.a / v.b ≤ v.a := Int.ediv_le_self _ ok.a0
    have := ok.aB; have := ok.bB; have := ok.b0
    omega
  | some p =>
    obtain ⟨c, d⟩ := p
    obtain ⟨d0, _, lt, cB, dB⟩ := ok.hi c d e
    have hb := ok.b0
    have hm : Mem v (v.a + c) (v.b + d) := ⟨by omega, .inl (by grind), by rw [e]; exact .inl (by grind)⟩
    have h1 := h.least _ _ hm
    have := ok.aB; have := ok.bB
    omega
inductive Chain (B : Int) (orig : Iv) : List Int → Iv → Prop where
  | nil : Chain B orig [] orig
  | snoc {ws : List Int} {v : Iv} {c d : Int} (h : Chain B orig ws v) (ok : Ok B v) (e : v.hi = some (c, d)) (nh : ¬ Hi v.hi v.wh (w0 v) 1) : Chain B orig (ws ++ [v.a / v.b]) (nxt v c d)
abbrev wh1 (w : Int) : D := fr w 1
def hd : Option (Int × Int) → Int
  | none => 0
  | some (_, d) => d
inductive SaI (B : Int) (orig : Iv) (S : Sto) : Nat → Ev → Sto → Prop where
  | mk {v : Iv} {ws : List Int} {o5 o6 o7 : Option D} (ok : Ok B v) (ch : Chain B orig ws v) (hl : ws.length + (v.b + hd v.hi).toNat ≤ 2 ^ 23) :
    SaI B orig S (v.b + hd v.hi).toNat [some (fr v.a v.b), some (.bl v.wl), some (hiD v.hi), some (.bl v.wh), some (.loc S.length), o5, o6, o7] (S ++ [.lst (ws.map wh1)])
inductive FoI (B : Int) (orig : Iv) (S : Sto) (lst : List D) : List D → Ev → Sto → Prop where
  | mk {v : Iv} {ws : List Int} {n q : Int} {o0 o1 o2 o3 o5 o7 : Option D} (ok : Ok B v) (ch : Chain B orig ws v) (hb : Best v n q) :
    FoI B orig S lst (ws.map wh1).reverse [o0, o1, o2, o3, some (.loc S.length), o5, some (fr n q), o7] (S ++ [.lst lst])
theorem items_rev {n : Nat} {S : Sto} {xs : List D} (h : getL S n = some xs) : items .rev [.loc n] S = some (xs.reverse, [(n, xs)]) := by simp only [items, h]; rfl
@[simp] theorem getL_S (S J : Sto) (i : Nat) : getL (S ++ J) (S.length + i) = getL J i := by
  unfold getL; rw [List.getElem?_append_right (by omega)]; simp
@[simp] theorem getM_S (S J : Sto) (i : Nat) : getM (S ++ J) (S.length + i) = getM J i := by
  unfold getM; rw [List.getElem?_append_right (by omega)]; simp
@[simp] theorem getL_S0 (S J : Sto) : getL (S ++ J) S.length = getL J 0 := getL_S S J 0
@[simp] theorem getM_S0 (S J : Sto) : getM (S ++ J) S.length = getM J 0 := getM_S S J 0
@[simp] theorem set_S (S J : Sto) (i : Nat) (x : SO) : List.set (S ++ J) (S.length + i) x = S ++ J.set i x := by
  rw [List.set_append_right _ _ (by omega)]; simp
@[simp] theorem set_S0 (S J : Sto) (x : SO) : List.set (S ++ J) S.length x = S ++ J.set 0 x := set_S S J 0 x
theorem fold_ok {B : Int} {orig : Iv} {S : Sto} {k : Nat} {Q : D → Sto → Prop} (hB : B ≤ 2 ^ 40) {lst : List D} {xs : List D} {env : Ev} {S' : Sto} (h : FoI B orig S lst xs env S')
    (done : ∀ n q, Best orig n q → Q (fr n q) S) :
    wp (forL [(S.length, lst)] (.v 5) (exSs ⟨callF tab G (k + 2), G⟩ [.set 6 (.call "plus" [(.var 5), (.call "over" [(.glb "ONE"), (.var 6)])])]) xs env S') (seqQ (exSs ⟨callF tab G (k + 2), G⟩ [.ret (.var 6)]) (retQ S Q)) := by
  refine wp_forL (I := FoI B orig S lst) ?_ ?_ ?_ _ _ _ h
  · rintro xs env S' ⟨⟩
    exact still_one (by simp)
  · intro x xs env S' I
    generalize hxs : x :: xs = xs' at I
    cases I with
    | mk ok ch hb =>
      rename_i v ws n q o0 o1 o2 o3 o5 o7
      cases ch with
      | nil => cases hxs
      | snoc h ok' e nh =>
        rename_i ws v c d
        simp at hxs
        obtain ⟨rfl, rfl⟩ := hxs
        refine ⟨_, rfl, ?_⟩
        have bb := best_bound ok hb
        have p1 := hb.pos
        have p2 := hb.mem.pos
        have hb' := nxt_best ok' e nh hb
        have w1 : 0 ≤ v.a / v.b := Int.ediv_nonneg ok'.a0 (by have := ok'.b0; omega)
        have w2 : v.a / v.b ≤ v.a := Int.ediv_le_self _ ok'.a0
        have w3 := ok'.aB
        have e1 := c_over (p := n) (q := q) p1 (by rw [Int.gcd_comm]; exact hb.red) (by unfold Sm; omega) (by unfold Sm; omega) k
        have g2 : Int.gcd (v.a / v.b * n + q * 1) (1 * n) = 1 := by simpa using hb'.red
        have e2 := c_plus (a := v.a / v.b) (b := 1) (c := q) (d := n) g2 (by omega) (by unfold Sm; omega) (by unfold Sm; decide) (by unfold Sm; omega) (by unfold Sm; omega) k
        simp at e2
        simp [G, e1, e2]
        have := FoI.mk (B := B) (orig := orig) (S := S) (lst := lst) (o0 := o0) (o1 := o1) (o2 := o2) (o3 := o3) (o5 := some (wh1 (v.a / v.b))) (o7 := o7) ok' h hb'
        simpa using this
  · intro env S' I
    generalize hxs : ([] : List D) = xs' at I
    cases I with
    | mk ok ch hb =>
      cases ch with
      | nil =>
        simp
        exact done _ _ hb
      | snoc h ok' e nh => simp at hxs

/-- the loop's own test: is the least whole number below the upper end? -/
theorem hi_test {B : Int} {v : Iv} (ok : Ok B v) {c d : Int} (e : v.hi = some (c, d)) : Hi v.hi v.wh (w0 v) 1 ↔ (w0 v * d < c ∨ (v.wh = true ∧ w0 v = c ∧ 1 = d)) := by
  obtain ⟨d0, rd, lt, cB, dB⟩ := ok.hi c d e
  rw [e]
  simp only [Hi, Int.mul_one]
  constructor
  · rintro (q | q)
    · exact .inl q
    · refine .inr ⟨q.1, ?_⟩
      have : d ∣ Int.gcd c d := Int.dvd_coe_gcd ⟨w0 v, by rw [← q.2, Int.mul_comm]⟩ (Int.dvd_refl _)
      rw [rd] at this
      have := Int.le_of_dvd (by omega) this
      have d1 : d = 1 := by omega
      rw [d1, Int.mul_one] at q
      exact ⟨q.2, d1.symm⟩
  · rintro (q | ⟨q1, q2, q3⟩)
    · exact .inl q
    · exact .inr ⟨q1, by rw [← q3, Int.mul_one]; exact q2⟩
theorem above_ok {B : Int} {v : Iv} (hB : B ≤ 2 ^ 40) (ok : Ok B v) (hD : v.b + hd v.hi ≤ 2 ^ 22) (k : Nat) (S : Sto) {Q : D → Sto → Prop} (done : ∀ n q, Best v n q → Q (fr n q) S) :
    wp (callF tab G (k + 3) "simplest_above" [fr v.a v.b, .bl v.wl, hiD v.hi, .bl v.wh] S) Q := by
  rw [callF_succ (by decide) rfl]
  refine wp_run rfl rfl ?_
  have hdB : hd v.hi ≤ B := by
    cases e : v.hi with
    | none => have := ok.aB; have := ok.a0; simp only [hd]; omega
    | some p => obtain ⟨c, d⟩ := p; exact (ok.hi c d e).2.2.2.2
  simp [d_simplest_above, start']
  refine wp_whE (I := SaI B v S) ?_ (.mk (v := v) (ws := []) ok .nil (by simp only [List.length_nil]; omega))
  intro N env S' I
  cases I with
  | mk ok' ch hl =>
    rename_i u ws o5 o6 o7
    have a0 := ok'.a0; have b0 := ok'.b0; have aB := ok'.aB; have bB := ok'.bB
    have w1 : 0 ≤ u.a / u.b := Int.ediv_nonneg a0 (by omega)
    have w2 : u.a / u.b ≤ u.a := Int.ediv_le_self _ a0
    have wp0 := w0_pos ok'
    have wle := w0_le (v := u)
    have el : ∀ S, callF tab G (k + 2) "least_whole" [fr u.a u.b, .bl u.wl] S = some (.int (w0 u), S) := fun S => c_least b0 (by unfold Sm; omega) k S
    have ef : ∀ S, callF tab G (k + 2) "floor_of" [fr u.a u.b] S = some (.int (u.a / u.b), S) := fun S => c_floor b0 (by unfold Sm; omega) (k + 1) S
    -- the loop's end
    have out : Hi u.hi u.wh (w0 u) 1 → ∀ o5 o7, wp (exSs ⟨callF tab G (k + 2), G⟩ [.for_ (.v 5) .rev [(.var 4)] [.set 6 (.call "plus" [(.var 5), (.call "over" [(.glb "ONE"), (.var 6)])])], .ret (.var 6)]
        [some (fr u.a u.b), some (.bl u.wl), some (hiD u.hi), some (.bl u.wh), some (.loc S.length), o5, some (fr (w0 u) 1), o7] (S ++ [.lst (ws.map wh1)])) (retQ S Q) := by
      intro hh o5 o7
      simp [items_rev (n := S.length) (S := S ++ [.lst (ws.map wh1)]) (xs := ws.map wh1) (by simp)]
      have := fold_ok (S := S) (k := k) (Q := Q) (by omega) (FoI.mk (lst := ws.map wh1) (o0 := some (fr u.a u.b)) (o1 := some (.bl u.wl)) (o2 := some (hiD u.hi)) (o3 := some (.bl u.wh)) (o5 := o5) (o7 := o7) ok' ch (w0_best ok' hh)) done
      simpa using this
    cases e : u.hi with
    | none =>
      have := out (by rw [e]; trivial) o5 o7
      rw [e] at this
      simp [hiD] at this
      simp [el, hiD, Cs.isN]
      exact this
    | some p =>
      obtain ⟨c, d⟩ := p
      obtain ⟨d0, rd, lt, cB, dB⟩ := ok'.hi c d e
      have c0 := ok'.c0 e
      have ec : ∀ S, callF tab G (k + 2) "compare" [fr (w0 u) 1, fr c d] S = some (.int (cmpI (w0 u * d) (c * 1)), S) := fun S => c_compare (by unfold Sm; omega) (by unfold Sm; decide) (by unfold Sm; omega) (by unfold Sm; omega) (k + 1) S
      have ht := hi_test ok' e
      by_cases hh : Hi u.hi u.wh (w0 u) 1
      · have := out hh o5 o7
        rw [e] at this
        simp [hiD] at this
        rw [ht] at hh
        by_cases q : w0 u * d < c
        · simp [el, hiD, Cs.isN, ec, cmpI_neg, q]
          exact this
        · obtain ⟨q1, q2, q3⟩ := hh.resolve_left q
          subst q2 q3
          simp only [Int.mul_one] at ec
          have q' : ¬ w0 u < w0 u := by omega
          simp [el, hiD, Cs.isN, ec, cmpI_neg, q1]
          simpa [q1] using this
      · have nh : ¬ w0 u * d < c := fun q => hh (ht.mpr (.inl q))
        have ne : ¬ (u.wh = true ∧ w0 u = c ∧ 1 = d) := fun q => hh (ht.mpr (.inr q))
        have hx := nxt_ok ok' e hh
        have f1 := (fl_facts (a := u.a) b0).1
        have f2 := (fl_facts (a := u.a) b0).2
        have g1 : Int.gcd (u.a * 1 - u.a / u.b * u.b) (u.b * 1) = 1 := by
          rw [Int.mul_one, Int.mul_one, gcd_sub]; exact ok'.red
        have em := c_minus (a := u.a) (b := u.b) (c := u.a / u.b) (d := 1) g1 (by omega) (by unfold Sm; omega) (by unfold Sm; omega) (by unfold Sm; omega) (by unfold Sm; decide) k
        have g2 : Int.gcd (c * 1 - u.a / u.b * d) (d * 1) = 1 := by
          rw [Int.mul_one, Int.mul_one, gcd_sub]; exact rd
        have em2 := c_minus (a := c) (b := d) (c := u.a / u.b) (d := 1) g2 (by omega) (by unfold Sm; omega) (by unfold Sm; omega) (by unfold Sm; omega) (by unfold Sm; decide) k
        simp only [Int.mul_one] at em em2
        have nb := hx.1.b0
        have nB := hx.1.bB
        have nr := hx.1.red
        simp only [nxt] at nb nB nr
        have eo := c_over (p := c - u.a / u.b * d) (q := d) nb nr (by unfold Sm; omega) (by unfold Sm; omega) k
        have ch' := Chain.snoc ch ok' e hh
        have fit : ws.length < sizeLine := by rw [sizeLine_eq]; omega
        have ea : ∀ y, mAppend (.loc S.length) [y] (S ++ [.lst (ws.map wh1)]) = some (.non, S ++ [.lst (ws.map wh1 ++ [y])]) := fun y => by
          rw [mAppend_loc (xs := ws.map wh1) (by simp) (by simpa using fit)]; simp
        have hN : (nxt u c d).b + hd (nxt u c d).hi < u.b + d := by
          have := hx.2
          simp only [nxt] at this ⊢
          split
          · simp only [hd]; omega
          · simp only [hd]
            have : u.a < u.a / u.b * u.b + u.b := by grind
            omega
        have hN0 : 0 ≤ hd (nxt u c d).hi := by
          cases e' : (nxt u c d).hi with
          | none => simp [hd]
          | some p => obtain ⟨c', d'⟩ := p; have := (hx.1.hi c' d' e').1; simp only [hd]; omega
        rw [e] at hl
        simp only [hd] at hl
        have nxt' := fun o5 o6 o7 => SaI.mk (S := S) (o5 := o5) (o6 := o6) (o7 := o7) hx.1 ch' (by simp; omega)
        have hlt : ∀ e', SaI B v S ((nxt u c d).b + hd (nxt u c d).hi).toNat e' (S ++ [.lst ((ws ++ [u.a / u.b]).map wh1)]) → ∃ m : Nat, m < (u.b + hd (some (c, d))).toNat ∧ SaI B v S m e' (S ++ [.lst ((ws ++ [u.a / u.b]).map wh1)]) := fun e' h => ⟨_, by show ((nxt u c d).b + hd (nxt u c d).hi).toNat < (u.b + d).toNat; omega, h⟩
        by_cases z : u.a - u.a / u.b * u.b = 0
        · have b1 := zero_one ok' z
          have cn : ∀ S, cop .ne (.tup [.int (u.a - u.a / u.b * u.b), .int u.b]) (.tup [.int 0, .int 1]) S = some (.bl false, S) := fun S => by
            rw [cop_ne_fr, decide_eq_true ⟨z, b1⟩]; rfl
          have en : (nxt u c d).hi = none := if_pos z
          have := nxt' (some (wh1 (u.a / u.b))) (some (fr (w0 u) 1)) (some (fr (u.a - u.a / u.b * u.b) u.b))
          have e2 : hiD (nxt u c d).hi = .non := by rw [en]; rfl
          rw [e2] at this
          simp only [List.map_append, List.map_cons, List.map_nil] at this
          have this2 : SaI B v S ((nxt u c d).b + hd (nxt u c d).hi).toNat [some (fr d (c - u.a / u.b * d)), some (.bl u.wh), some (.non), some (.bl u.wl), some (.loc S.length), some (wh1 (u.a / u.b)), some (fr (w0 u) 1), some (fr (u.a - u.a / u.b * u.b) u.b)] (S ++ [.lst (ws.map wh1 ++ [wh1 (u.a / u.b)])]) := this
          by_cases whw : u.wh = true
          · have q : ¬ (w0 u = c ∧ 1 = d) := fun q => ne ⟨whw, q⟩
            have ce : ∀ S, cop .eq (.tup [.int (w0 u), .int 1]) (.tup [.int c, .int d]) S = some (.bl false, S) := fun S => by
              rw [cop_eq_fr, decide_eq_false q]
            rw [whw] at this2
            simp [-cop_eq_fr, -cop_ne_fr, el, hiD, Cs.isN, ec, cmpI_neg, nh, whw, ce, cn, ef, em, em2, eo, G, ea]
            refine ⟨((nxt u c d).b + hd (nxt u c d).hi).toNat, ?_, this2⟩
            show ((((nxt u c d).b + hd (nxt u c d).hi).toNat : Nat) : Int) < u.b + d
            omega
          · have whf : u.wh = false := by simpa using whw
            rw [whf] at this2
            simp [-cop_ne_fr, el, hiD, Cs.isN, ec, cmpI_neg, nh, whf, cn, ef, em, em2, eo, G, ea]
            refine ⟨((nxt u c d).b + hd (nxt u c d).hi).toNat, ?_, this2⟩
            show ((((nxt u c d).b + hd (nxt u c d).hi).toNat : Nat) : Int) < u.b + d
            omega
        · have cn : ∀ S, cop .ne (.tup [.int (u.a - u.a / u.b * u.b), .int u.b]) (.tup [.int 0, .int 1]) S = some (.bl true, S) := fun S => by
            rw [cop_ne_fr, decide_eq_false (fun h => z h.1)]; rfl
          have en : (nxt u c d).hi = some (u.b, u.a - u.a / u.b * u.b) := if_neg z
          have := nxt' (some (wh1 (u.a / u.b))) (some (fr (w0 u) 1)) (some (fr (u.a - u.a / u.b * u.b) u.b))
          have e2 : hiD (nxt u c d).hi = fr u.b (u.a - u.a / u.b * u.b) := by rw [en]; rfl
          rw [e2] at this
          have p0 : 0 < u.a - u.a / u.b * u.b := by omega
          have pB : u.a - u.a / u.b * u.b < u.b := by grind
          have eo2 := c_over (p := u.a - u.a / u.b * u.b) (q := u.b) p0 (by rw [Int.gcd_comm, gcd_sub]; exact ok'.red) (by unfold Sm; omega) (by unfold Sm; omega) k
          simp only [List.map_append, List.map_cons, List.map_nil] at this
          have this2 : SaI B v S ((nxt u c d).b + hd (nxt u c d).hi).toNat [some (fr d (c - u.a / u.b * d)), some (.bl u.wh), some (fr u.b (u.a - u.a / u.b * u.b)), some (.bl u.wl), some (.loc S.length), some (wh1 (u.a / u.b)), some (fr (w0 u) 1), some (fr (u.a - u.a / u.b * u.b) u.b)] (S ++ [.lst (ws.map wh1 ++ [wh1 (u.a / u.b)])]) := this
          by_cases whw : u.wh = true
          · have q : ¬ (w0 u = c ∧ 1 = d) := fun q => ne ⟨whw, q⟩
            have ce : ∀ S, cop .eq (.tup [.int (w0 u), .int 1]) (.tup [.int c, .int d]) S = some (.bl false, S) := fun S => by
              rw [cop_eq_fr, decide_eq_false q]
            rw [whw] at this2
            simp [-cop_eq_fr, -cop_ne_fr, el, hiD, Cs.isN, ec, cmpI_neg, nh, whw, ce, cn, ef, em, em2, eo, eo2, G, ea]
            refine ⟨((nxt u c d).b + hd (nxt u c d).hi).toNat, ?_, this2⟩
            show ((((nxt u c d).b + hd (nxt u c d).hi).toNat : Nat) : Int) < u.b + d
            omega
          · have whf : u.wh = false := by simpa using whw
            rw [whf] at this2
            simp [-cop_ne_fr, el, hiD, Cs.isN, ec, cmpI_neg, nh, whf, cn, ef, em, em2, eo, eo2, G, ea]
            refine ⟨((nxt u c d).b + hd (nxt u c d).hi).toNat, ?_, this2⟩
            show ((((nxt u c d).b + hd (nxt u c d).hi).toNat : Nat) : Int) < u.b + d
            omega

/-! ### simplest -/
structure In (a b c d : Int) (cl : Bool) (m e : Int) : Prop where
  pos : 0 < e
  lo : a * e ≤ m * b
  hi : m * d < c * e ∨ (cl = true ∧ m * d = c * e)
structure Span (B a b c d : Int) : Prop where
  b0 : 0 < b
  d0 : 0 < d
  ra : Int.gcd a b = 1
  rc : Int.gcd c d = 1
  lt : a * d < c * b
  al : -B ≤ a
  au : a ≤ B
  cl : -B ≤ c
  cu : c ≤ B
  bB : b ≤ 2 ^ 20
  dB : d ≤ 2 ^ 20
structure SB (a b c d : Int) (cl : Bool) (n q : Int) : Prop where
  mem : In a b c d cl n q
  red : Int.gcd n q = 1
  least : ∀ m e, In a b c d cl m e → n.natAbs ≤ m.natAbs ∧ q ≤ e
theorem c_simplest {B a b c d : Int} {cl : Bool} (sp : Span B a b c d) (hB1 : 2 ^ 20 ≤ B) (hB : B ≤ 2 ^ 40) (k : Nat) (S : Sto) {Q : D → Sto → Prop} (done : ∀ n q, n.natAbs ≤ 2 * B + 1 → q ≤ 2 * B + 1 → SB a b c d cl n q → Q (fr n q) S) :
    wp (callF tab G (k + 4) "simplest" [.tup [fr a b, fr c d, .bl cl]] S) Q := by
  obtain ⟨b0, d0, ra, rc, lt, al, au, c1, cu, bB, dB⟩ := sp
  rw [callF_succ (by decide) rfl]
  refine wp_run rfl rfl ?_
  have e1 : ∀ S, callF tab G (k + 3) "compare" [fr a b, fr 0 1] S = some (.int (cmpI (a * 1) (0 * b)), S) := fun S => c_compare (by unfold Sm; omega) (by unfold Sm; omega) (by unfold Sm; decide) (by unfold Sm; decide) (k + 2) S
  have e2 : ∀ S, callF tab G (k + 3) "compare" [fr c d, fr 0 1] S = some (.int (cmpI (c * 1) (0 * d)), S) := fun S => c_compare (by unfold Sm; omega) (by unfold Sm; omega) (by unfold Sm; decide) (by unfold Sm; decide) (k + 2) S
  simp only [Int.mul_one, Int.zero_mul] at e1 e2
  by_cases ha : 0 < a
  · have ok : Ok B ⟨a, b, true, some (c, d), cl⟩ := ⟨by simp only; omega, b0, ra, fun _ => ha, au, by simp only; omega, fun c' d' e => by cases e; exact ⟨d0, rc, lt, cu, by omega⟩⟩
    simp [d_simplest, start', setL, asg, G, e1, cmpI_pos, ha]
    refine above_ok hB ok (by simp only [hd]; omega) k S fun n q hb => ?_
    have bb := best_bound ok hb
    have hp := hb.pos
    simp
    refine done n q (by omega) bb.2 ⟨⟨hb.mem.pos, ?_, hb.mem.hi⟩, hb.red, fun m e hm => ?_⟩
    · rcases hb.mem.lo with r | r
      · exact Int.le_of_lt r
      · exact Int.le_of_eq r.2
    · have hM : Mem ⟨a, b, true, some (c, d), cl⟩ m e := ⟨hm.pos, (Int.lt_or_eq_of_le hm.lo).imp id fun h => ⟨rfl, h⟩, hm.hi⟩
      have := hb.least m e hM
      omega
  · by_cases hc : 0 < c ∨ (cl = true ∧ c = 0)
    · have g : 0 < c ∨ (cl = true ∧ c = 0 ∧ d = 1) := hc.imp id fun h => ⟨h.1, h.2, by
        have r := rc; rw [h.2] at r; simp at r; omega⟩
      have fin : Q (fr 0 1) S := by
        refine done 0 1 (by omega) (by omega) ⟨⟨by omega, by omega, ?_⟩, by simp, fun m e hm => ⟨by omega, by have := hm.pos; omega⟩⟩
        rcases hc with h | h
        · left; omega
        · right; exact ⟨h.1, by omega⟩
      by_cases h0 : 0 < c
      · simp [d_simplest, start', setL, asg, G, e1, e2, cmpI_pos, ha, h0]
        exact fin
      · obtain ⟨h1, h2, h3⟩ := g.resolve_left h0
        subst h1 h2 h3
        simp [d_simplest, start', setL, asg, G, e1, e2, cmpI_pos, ha]
        exact fin
    · have hc0 : ¬ 0 < c := fun h => hc (.inl h)
      have hc1 : cl = true → c ≠ 0 := fun h1 h2 => hc (.inr ⟨h1, h2⟩)
      have ok : Ok B ⟨-c, d, cl, some (-a, b), true⟩ := ⟨by simp only; omega, d0, by simpa using rc, fun h => by have := hc1 h; simp only; omega, by simp only; omega, by simp only; omega, fun c' d' e => by
        cases e; exact ⟨b0, by simpa using ra, by simp only; grind, by omega, by omega⟩⟩
      have m1 : ∀ S, callF tab G (k + 3) "minus" [fr 0 1, fr c d] S = some (fr (0 * d - c * 1) (1 * d), S) := c_minus (by simpa using rc) (by omega) (by unfold Sm; decide) (by unfold Sm; decide) (by unfold Sm; omega) (by unfold Sm; omega) (k + 1)
      have m2 : ∀ S, callF tab G (k + 3) "minus" [fr 0 1, fr a b] S = some (fr (0 * b - a * 1) (1 * b), S) := c_minus (by simpa using ra) (by omega) (by unfold Sm; decide) (by unfold Sm; decide) (by unfold Sm; omega) (by unfold Sm; omega) (k + 1)
      simp only [Int.zero_mul, Int.mul_one, Int.one_mul, Int.zero_sub] at m1 m2
      have abv := fun Q' => above_ok (Q := Q') hB ok (by simp only [hd]; omega) k S
      simp only [hiD] at abv
      have cq : ∀ S, cl = true → cop .eq (.tup [.int c, .int d]) (.tup [.int 0, .int 1]) S = some (.bl false, S) := fun S h => by
        rw [cop_eq_fr, decide_eq_false (fun h2 => hc1 h h2.1)]
      have tail : wp (callF tab G (k + 3) "simplest_above" [fr (-c) d, .bl cl, fr (-a) b, .bl true] S) fun x S1 => wp (callF tab G (k + 3) "minus" [fr 0 1, x] S1) fun y S2 => wp (fin S (y, S2)) Q := by
        refine abv _ fun n q hb => ?_
        have bb := best_bound ok hb
        have hp := hb.pos
        have hq := hb.mem.pos
        have m3 : ∀ S, callF tab G (k + 3) "minus" [fr 0 1, fr n q] S = some (fr (0 * q - n * 1) (1 * q), S) := c_minus (by simpa using hb.red) (by omega) (by unfold Sm; decide) (by unfold Sm; decide) (by unfold Sm; omega) (by unfold Sm; omega) (k + 1)
        simp only [Int.zero_mul, Int.mul_one, Int.one_mul, Int.zero_sub] at m3
        simp [m3]
        refine done (-n) q (by omega) bb.2 ⟨⟨hq, ?_, ?_⟩, by simpa using hb.red, fun m e hm => ?_⟩
        · rcases hb.mem.hi with r | r
          · grind
          · have := r.2; grind
        · rcases hb.mem.lo with r | r
          · left; simp only at r; grind
          · right; exact ⟨r.1, by have := r.2; simp only at this; grind⟩
        · have hM : Mem ⟨-c, d, cl, some (-a, b), true⟩ (-m) e := ⟨hm.pos, by
            simp only
            rcases hm.hi with r | r
            · left; grind
            · right; exact ⟨r.1, by have := r.2; grind⟩, by
            simp only [Hi]
            rcases Int.lt_or_eq_of_le hm.lo with r | r
            · left; grind
            · right; exact ⟨by simp, by grind⟩⟩
          have := hb.least (-m) e hM
          omega
      cases cl with
      | true =>
        simp [-cop_eq_fr, d_simplest, start', setL, asg, G, e1, e2, cmpI_pos, ha, hc0, cq, m1, m2]
        simpa using tail
      | false =>
        simp [d_simplest, start', setL, asg, G, e1, e2, cmpI_pos, ha, hc0, m1, m2]
        simpa using tail

/-! ### the law's own search -/
theorem rngD_cons (lo : Int) (n : Nat) : rngD lo (n + 1) = .int lo :: rngD (lo + 1) n := by
  unfold rngD
  rw [List.range_succ_eq_map]
  simp only [List.map_cons, List.map_map]
  congr 1
  · simp
  · apply List.map_congr_left
    intro i _
    simp only [Function.comp]
    congr 1
    omega
def fst' (a b e : Int) : Int := -(-a * e / b)
def lst' (c d : Int) (cl : Bool) (e : Int) : Int := if c * e / d * d = c * e ∧ cl = false then c * e / d - 1 else c * e / d
theorem in_iff {a b c d : Int} {cl : Bool} (b0 : 0 < b) (d0 : 0 < d) {m e : Int} (he : 0 < e) : In a b c d cl m e ↔ fst' a b e ≤ m ∧ m ≤ lst' c d cl e := by
  have h1 : fst' a b e ≤ m ↔ a * e ≤ m * b := by
    unfold fst'
    have : -m ≤ -a * e / b ↔ -m * b ≤ -a * e := Int.le_ediv_iff_mul_le b0
    have e1 : -m * b = -(m * b) := by grind
    have e2 : -a * e = -(a * e) := by grind
    rw [e1, e2] at this
    rw [e2]
    omega
  have h2 : m ≤ c * e / d ↔ m * d ≤ c * e := Int.le_ediv_iff_mul_le d0
  have h3 : m ≤ lst' c d cl e ↔ (m * d < c * e ∨ (cl = true ∧ m * d = c * e)) := by
    unfold lst'
    split
    · rename_i q
      have h4 : m ≤ c * e / d - 1 ↔ m * d < c * e := by
        constructor
        · intro h
          have : m * d ≤ (c * e / d - 1) * d := Int.mul_le_mul_of_nonneg_right h (by omega)
          grind
        · intro h
          have h5 := h2.mpr (Int.le_of_lt h)
          rcases Int.lt_or_eq_of_le h5 with r | r
          · omega
          · rw [r, q.1] at h; omega
      rw [h4]
      simp [q.2]
    · rename_i q
      rw [h2]
      constructor
      · intro h
        rcases Int.lt_or_eq_of_le h with r | r
        · exact .inl r
        · cases cl with
          | true => exact .inr ⟨rfl, r⟩
          | false =>
            exfalso
            apply q
            refine ⟨?_, rfl⟩
            rw [← r, Int.mul_ediv_cancel _ (by omega)]
      · rintro (r | r)
        · exact Int.le_of_lt r
        · exact Int.le_of_eq r.2
  rw [h1, h3]
  exact ⟨fun h => ⟨h.lo, h.hi⟩, fun h => ⟨he, h.1, h.2⟩⟩
inductive LsI (a b c d : Int) (cl : Bool) (q : Int) (S : Sto) : List D → Ev → Sto → Prop where
  | mk {e : Int} {m : Nat} {o3 o4 o5 : Option D} (e0 : 0 < e) (hm : e + m = b + 1) (hq : e ≤ q) : LsI a b c d cl q S (rngD e m) [some (.tup [fr a b, fr c d, .bl cl]), some (fr a b), some (fr c d), o3, o4, o5] S
theorem c_lsimplest {B a b c d : Int} {cl : Bool} (sp : Span B a b c d) (hB : B ≤ 2 ^ 40) {n q : Int} (hs : SB a b c d cl n q) (k : Nat) (S : Sto) : callF tab G (k + 1) "_law_simplest" [.tup [fr a b, fr c d, .bl cl]] S = some (fr n q, S) := by
  obtain ⟨b0, d0, ra, rc, lt, al, au, c1, cu, bB, dB⟩ := sp
  rw [callF_succ (by decide) rfl]
  refine run_eq rfl rfl ?_
  have q0 := hs.mem.pos
  have qb : q ≤ b := (hs.least a b ⟨b0, Int.le_refl _, .inl lt⟩).2
  simp [d_law_simplest, start', atI_0, atI_1, items_rng2 (show smallI 1 from ⟨by omega, by omega⟩) (show smallI (b + 1) from ⟨by omega, by omega⟩)]
  refine wp_forQ (I := LsI a b c d cl q S) ?_ ?_ ?_ _ _ _ (.mk (e := 1) (by omega) (by omega) (by omega))
  · rintro xs env S' ⟨⟩
    exact still_nil _
  · intro x xs env S' I
    generalize hxs : x :: xs = xs' at I
    cases I with
    | mk e0 hm hq =>
      rename_i e m o3 o4 o5
      cases m with
      | zero => exfalso; omega
      | succ m =>
        rw [rngD_cons] at hxs
        obtain ⟨rfl, rfl⟩ := List.cons.inj hxs
        refine ⟨_, rfl, ?_⟩
        have iff' := fun m => in_iff (a := a) (b := b) (c := c) (d := d) (cl := cl) b0 d0 (m := m) e0
        have m1 := bop_mul (sm_mul (i := -a) (j := e) (by unfold Sm; omega) (by unfold Sm; omega))
        have m2 := bop_mul (sm_mul (i := c) (j := e) (by unfold Sm; omega) (by unfold Sm; omega))
        have bf1 := fun i : Int => bop_fdiv (i := i) (divOk_small b0 (by omega))
        have bf2 := fun i : Int => bop_fdiv (i := i) (divOk_small d0 (by omega))
        have mlast : ∀ S, bop .mul (.int (c * e / d)) (.int d) S = some (.int (c * e / d * d), S) := bop_mul (by
          refine sm_mul ?_ (by unfold Sm; omega)
          unfold Sm
          have h1 : (c * e / d).natAbs ≤ (c * e).natAbs := Int.natAbs_ediv_le_natAbs _ _
          have h2 : (c * e).natAbs = c.natAbs * e.natAbs := Int.natAbs_mul _ _
          have h3 : c.natAbs * e.natAbs ≤ 2 ^ 40 * 2 ^ 20 := Nat.mul_le_mul (by omega) (by omega)
          omega)
        have tail : ∀ l4 : Int, l4 = lst' c d cl e → wp (exSs ⟨callF tab G k, G⟩ [.iff (.cmp .le (.var 4) (.var 5)) [.ret (.tup [(.blt "max" [(.var 4), (.blt "min" [(.var 5), (.cn (.int 0))])]), (.var 3)])] []]
            [some (.tup [fr a b, fr c d, .bl cl]), some (fr a b), some (fr c d), some (.int e), some (.int (fst' a b e)), some (.int l4)] S) (fun f S1 => match f with
              | .nx e' => LsI a b c d cl q S (rngD (e + 1) m) e' S1
              | .rt d' => d' = fr n q ∧ S1 = S
              | _ => False) := by
          rintro l4 rfl
          by_cases hl : fst' a b e ≤ lst' c d cl e
          · have : q ≤ e := (hs.least _ _ ((iff' (fst' a b e)).mpr ⟨Int.le_refl _, hl⟩)).2
            have eq : e = q := by omega
            subst eq
            have g1 := (iff' n).mp hs.mem
            have g2 := (hs.least _ _ ((iff' (fst' a b e)).mpr ⟨Int.le_refl _, hl⟩)).1
            have g3 := (hs.least _ _ ((iff' (lst' c d cl e)).mpr ⟨hl, Int.le_refl _⟩)).1
            have g4 : fst' a b e ≤ 0 → 0 ≤ lst' c d cl e → n = 0 := fun h1 h2 => by
              have := (hs.least _ _ ((iff' 0).mpr ⟨h1, h2⟩)).1
              omega
            simp [hl]
            generalize fst' a b e = f at *
            generalize lst' c d cl e = l at *
            split <;> split <;> omega
          · simp [hl]
            have : e ≠ q := fun z => by
              have := (iff' n).mp (z ▸ hs.mem)
              omega
            exact .mk (by omega) (by omega) (by omega)
        have tail' : ∀ l4 : Int, l4 = lst' c d cl e → wp (exSs ⟨callF tab G k, G⟩ [.iff (.cmp .le (.var 4) (.var 5)) [.ret (.tup [(.blt "max" [(.var 4), (.blt "min" [(.var 5), (.cn (.int 0))])]), (.var 3)])] []]
            [some (.tup [fr a b, fr c d, .bl cl]), some (fr a b), some (fr c d), some (.int e), some (.int (fst' a b e)), some (.int l4)] S) (loopQ (LsI a b c d cl q S (rngD (e + 1) m)) (seqQ (exSs ⟨callF tab G k, G⟩ [.ret (.var 1)]) (retQ S fun a S' => a = fr n q ∧ S' = S))) := fun l4 h4 => (tail l4 h4).mono fun f S1 h => by
          cases f with
          | nx e' => exact h
          | rt d' => obtain ⟨rfl, rfl⟩ := h; simp
          | bk e' => cases h
          | ct e' => cases h
        by_cases c1 : c * e / d * d = c * e
        · cases cl with
          | false =>
            have := tail' (c * e / d - 1) (by simp [lst', c1])
            simp only [fst'] at this
            simp [m1, m2, bf1, bf2, mlast, c1, atI_0, atI_1, atI_2]
            simpa using this
          | true =>
            have := tail' (c * e / d) (by simp [lst', c1])
            simp only [fst'] at this
            simp [m1, m2, bf1, bf2, mlast, c1, atI_0, atI_1, atI_2]
            simpa using this
        · have := tail' (c * e / d) (by simp [lst', c1])
          simp only [fst'] at this
          simp [m1, m2, bf1, bf2, mlast, c1, atI_0, atI_1, atI_2]
          simpa using this
  · intro env S' I
    generalize hxs : ([] : List D) = xs' at I
    cases I with
    | mk e0 hm hq =>
      rename_i e m o3 o4 o5
      cases m with
      | zero => exfalso; omega
      | succ m => rw [rngD_cons] at hxs; cases hxs

/-! ### lies in -/
theorem isiB_tup (T : String) (xs : List D) : isiB T (.tup xs) = isiN T "tuple" := rfl
theorem c_kind (a b : Int) (k : Nat) (S : Sto) : callF tab G (k + 1) "_law_cell_kind" [fr a b] S = some (.str (Str.ofString "number"), S) := by
  rw [callF_succ (by decide) rfl]
  refine run_eq rfl rfl ?_
  simp [d_law_cell_kind, start', isiB_tup, isiN]
  exact wp_fin_same rfl ⟨rfl, rfl⟩
theorem c_before {a b c d : Int} (sa : Sm a) (sb : Sm b) (sc : Sm c) (sd : Sm d) (k : Nat) (S : Sto) : callF tab G (k + 2) "_law_comes_before" [fr a b, fr c d] S = some (.bl (decide (a * d < c * b)), S) := by
  rw [callF_succ (by decide) rfl]
  refine run_eq rfl rfl ?_
  simp [d_law_comes_before, start', isiB_tup, isiN, Cs.isN, c_kind, atI_0, atI_1, bop_mul (sm_mul sa sd), bop_mul (sm_mul sc sb)]
theorem c_lies {a b c d m e : Int} {cl : Bool} (sa : Sm a) (sb : Sm b) (sc : Sm c) (sd : Sm d) (sm : Sm m) (se : Sm e) (k : Nat) (S : Sto) : callF tab G (k + 3) "_law_lies_in" [fr m e, .tup [fr a b, fr c d, .bl cl]] S =
    some (.bl (decide (¬ m * b < a * e ∧ (m * d < c * e ∨ (cl = true ∧ m = c ∧ e = d)))), S) := by
  rw [callF_succ (by decide) rfl]
  refine run_eq rfl rfl ?_
  have e1 := c_before sm se sa sb k
  have e2 := c_before sm se sc sd k
  by_cases h1 : m * b < a * e
  · simp [d_law_lies_in, start', atI_0, atI_1, e1, h1]
  · by_cases h2 : m * d < c * e
    · simp [d_law_lies_in, start', atI_0, atI_1, e1, e2, h1, h2]
    · cases cl with
      | false => simp [d_law_lies_in, start', atI_0, atI_1, atI_2, e1, e2, h1, h2]
      | true => simp [d_law_lies_in, start', atI_0, atI_1, atI_2, e1, e2, h1, h2]
theorem lies_in_iff {a b c d m e : Int} {cl : Bool} (d0 : 0 < d) (he : 0 < e) (rc : Int.gcd c d = 1) (rm : Int.gcd m e = 1) (h : In a b c d cl m e) : ¬ m * b < a * e ∧ (m * d < c * e ∨ (cl = true ∧ m = c ∧ e = d)) := by
  have lo := h.lo
  refine ⟨by omega, h.hi.imp id fun q => ⟨q.1, ?_⟩⟩
  -- m * d = c * e with both in lowest terms
  have q := q.2
  have d1 : d ∣ e := by
    have h1 : d ∣ c * e := ⟨m, by rw [← q, Int.mul_comm]⟩
    have h2 := Int.dvd_gcd_mul_iff_dvd_mul.mpr h1
    rw [Int.gcd_comm, rc] at h2
    simpa using h2
  have d2 : e ∣ d := by
    have h1 : e ∣ m * d := ⟨c, by rw [q, Int.mul_comm]⟩
    have h2 := Int.dvd_gcd_mul_iff_dvd_mul.mpr h1
    rw [Int.gcd_comm, rm] at h2
    simpa using h2
  have l1 := Int.le_of_dvd he d1
  have l2 := Int.le_of_dvd d0 d2
  have : d = e := by omega
  subst this
  exact ⟨Int.eq_of_mul_eq_mul_right (by omega) q, rfl⟩
/-! ### lowest terms -/
structure Red (X Y x y : Int) : Prop where
  ex : ∃ g : Int, 0 < g ∧ X = g * x ∧ Y = g * y
  pos : 0 < y
  red : Int.gcd x y = 1
theorem Red.lt {X Y x y X' Y' x' y' : Int} (h : Red X Y x y) (h' : Red X' Y' x' y') (lt : X * Y' < X' * Y) : x * y' < x' * y := by
  obtain ⟨g, g0, rfl, rfl⟩ := h.ex
  obtain ⟨g', g0', rfl, rfl⟩ := h'.ex
  have p : 0 < g * g' := Int.mul_pos g0 g0'
  have : x * y' * (g * g') < x' * y * (g * g') := by grind
  exact Int.lt_of_mul_lt_mul_right this (Int.le_of_lt p)
theorem Red.self {x y : Int} (h0 : 0 < y) (h : Int.gcd x y = 1) : Red x y x y := ⟨⟨1, by omega, by omega, by omega⟩, h0, h⟩
theorem Red.bound {X Y x y B : Int} (h : Red X Y x y) (h1 : -B ≤ X) (h2 : X ≤ B) : -B ≤ x ∧ x ≤ B := by
  obtain ⟨g, g0, rfl, rfl⟩ := h.ex
  have hn : x.natAbs ≤ (g * x).natAbs := by
    rw [Int.natAbs_mul]
    exact Nat.le_mul_of_pos_left _ (by omega)
  omega
theorem Red.den {X Y x y : Int} (h : Red X Y x y) : y ≤ Y := by
  obtain ⟨g, g0, rfl, rfl⟩ := h.ex
  have := h.pos
  have h1 : 1 * y ≤ g * y := Int.mul_le_mul_of_nonneg_right (by omega) (by omega)
  omega
theorem c_llowest {X Y : Int} (hY : 0 < Y) (hY2 : Y < 2 ^ 62) (k : Nat) (S : Sto) {Q : D → Sto → Prop} (h : ∀ x y, Red X Y x y → Q (fr x y) S) : wp (callF tab G (k + 1) "_law_lowest" [.int X, .int Y] S) Q := by
  rw [callF_succ (by decide) rfl]
  refine lowest_ok _ hY (by omega) (h _ _ ⟨⟨(Nat.gcd X.natAbs Y.natAbs : Nat), ?_, ?_, ?_⟩, ?_, ?_⟩)
  · have : 0 < Nat.gcd X.natAbs Y.natAbs := Nat.gcd_pos_of_pos_right _ (by omega)
    omega
  · rw [Int.mul_ediv_cancel']
    exact Int.gcd_dvd_left X Y
  · rw [Int.mul_ediv_cancel']
    exact Int.gcd_dvd_right X Y
  · have g0 : 0 < ((Nat.gcd X.natAbs Y.natAbs : Nat) : Int) := by
      have : 0 < Nat.gcd X.natAbs Y.natAbs := Nat.gcd_pos_of_pos_right _ (by omega)
      omega
    exact Int.ediv_pos_of_pos_of_dvd hY (Int.le_of_lt g0) (Int.gcd_dvd_right X Y)
  · have g0 : 0 < Int.gcd X Y := Nat.gcd_pos_of_pos_right _ (by omega)
    exact Int.gcd_ediv_gcd_ediv_gcd g0

/-! ### the drawn span -/
def Bd (A : Nat) (i : Int) : Prop := i.natAbs ≤ A
theorem Bd.mul {A C : Nat} {i j : Int} (h1 : Bd A i) (h2 : Bd C j) : Bd (A * C) (i * j) := by
  unfold Bd at *
  rw [Int.natAbs_mul]
  exact Nat.mul_le_mul h1 h2
theorem Bd.add {A C : Nat} {i j : Int} (h1 : Bd A i) (h2 : Bd C j) : Bd (A + C) (i + j) := by unfold Bd at *; omega
theorem Bd.sub {A C : Nat} {i j : Int} (h1 : Bd A i) (h2 : Bd C j) : Bd (A + C) (i - j) := by unfold Bd at *; omega
theorem Bd.sm {A : Nat} {i : Int} (h : Bd A i) (hA : A < 2 ^ 62) : Sm i := by unfold Bd at h; unfold Sm; omega
theorem Bd.ok {A C : Nat} {i j : Int} (h1 : Bd A i) (h2 : Bd C j) (hA : A < 2 ^ 62) (hC : C < 2 ^ 62) : mulOk i j := sm_mul (h1.sm hA) (h2.sm hC)
section
variable {ns : List Int} {k n : Nat} {t : Tp} {W : Sto} {Q : D → Sto → Prop}
theorem c_draw {m : Int} (ht : t.ok (n + 1)) (hm : 1 ≤ m) (hm2 : m < 2 ^ 60) (h : ∀ r t', 0 ≤ r → r < m → t'.ok n → Q (.int r) (tp (ns.map .int) t' ++ W)) :
    wp (callF tab G (k + 1) "_law_draw" [.loc 2, .int m] (tp (ns.map .int) t ++ W)) Q := by
  rw [callF_succ (by decide) rfl]
  exact draw_ok _ ht hm hm2 h
structure Dom (a0 a1 b0 b1 : Int) : Prop where
  a1p : 0 < a1
  b1p : 0 < b1
  ra : Int.gcd a0 a1 = 1
  rb : Int.gcd b0 b1 = 1
  lt : a0 * b1 < b0 * a1
  ba : Bd 10 a0
  ba1 : Bd 2 a1
  bb : Bd 200 b0
  bb1 : Bd 6 b1
theorem fin_dom {sc : List D} {t t' : Tp} {W J : Sto} {a b c d : Int} {Q : D → Sto → Prop} (q : Q (.tup [fr a b, fr c d]) (tp sc t' ++ W)) : wp (fin (tp sc t ++ W) (.tup [.tup [.int a, .int b], .tup [.int c, .int d]], tp sc t' ++ (W ++ J))) Q := wp_fin_tp rfl q
theorem c_ends (ht : t.ok (n + 4)) (h : ∀ a0 a1 b0 b1 t', Dom a0 a1 b0 b1 → t'.ok n → Q (.tup [fr a0 a1, fr b0 b1]) (tp (ns.map .int) t' ++ W)) :
    wp (callF tab G (k + 2) "_law_ends" [.loc 2] (tp (ns.map .int) t ++ W)) Q := by
  rw [callF_succ (by decide) rfl]
  refine wp_run rfl rfl ?_
  simp [d_law_ends, start']
  refine c_draw (n := n + 3) ht (by decide) (by decide) fun r t1 r0 r1 k1 => ?_
  simp
  refine c_draw (n := n + 2) k1 (by decide) (by decide) fun i t2 i0 i1 k2 => ?_
  simp
  refine wp_atI i0 i1 fun x hx => ?_
  obtain ⟨x, y, rfl, y0, y2, rxy, xB⟩ : ∃ a b : Int, x = fr a b ∧ 0 < b ∧ b ≤ 2 ∧ Int.gcd a b = 1 ∧ Bd 10 a := by
    simp at hx
    rcases hx with rfl | rfl | rfl
    · exact ⟨_, _, rfl, by omega, by omega, by simp, by unfold Bd; decide⟩
    · exact ⟨_, _, rfl, by omega, by omega, by decide, by unfold Bd; decide⟩
    · exact ⟨_, _, rfl, by omega, by omega, by simp, by unfold Bd; omega⟩
  simp
  refine c_draw (n := n + 1) k2 (by decide) (by decide) fun r' t3 r0' r1' k3 => ?_
  simp
  refine c_draw (n := n) k3 (by decide) (by decide) fun j t4 j0 j1 k4 => ?_
  simp
  refine wp_atI j0 j1 fun z hz => ?_
  obtain ⟨s, u, rfl, s0, sB, u0, uB⟩ : ∃ a b : Int, z = fr a b ∧ 0 < a ∧ Bd 40 a ∧ 0 < b ∧ b ≤ 3 := by
    simp at hz
    rcases hz with rfl | rfl | rfl | rfl
    · exact ⟨_, _, rfl, by omega, by unfold Bd; decide, by omega, by omega⟩
    · exact ⟨_, _, rfl, by omega, by unfold Bd; decide, by omega, by omega⟩
    · exact ⟨_, _, rfl, by omega, by unfold Bd; decide, by omega, by omega⟩
    · exact ⟨_, _, rfl, by omega, by unfold Bd; omega, by omega, by omega⟩
  have yB : Bd 2 y := by unfold Bd; omega
  have uB : Bd 3 u := by unfold Bd; omega
  have m1 := bop_mul (xB.ok uB (by decide) (by decide))
  have m2 := bop_mul (sB.ok yB (by decide) (by decide))
  have m3 := bop_mul (yB.ok uB (by decide) (by decide))
  have nB := (xB.mul uB).add (sB.mul yB)
  have dB := yB.mul uB
  have d0 : 0 < y * u := Int.mul_pos y0 u0
  simp [atI_0, atI_1, m1, m2, m3]
  refine c_llowest d0 (by unfold Bd at dB; omega) _ _ fun c e hr => ?_
  have lt : x * (y * u) < (x * u + s * y) * y := by
    have : 0 < s * y * y := Int.mul_pos (Int.mul_pos s0 y0) y0
    grind
  have b2 := hr.bound (B := 200) (by unfold Bd at nB; omega) (by unfold Bd at nB; omega)
  have dom : Dom x y c e := ⟨y0, hr.pos, rxy, hr.red, (Red.self y0 rxy).lt hr lt, xB, yB, by unfold Bd; omega, by
    have := hr.den; have := hr.pos; unfold Bd at dB ⊢; omega⟩
  exact fin_dom (h _ _ _ _ _ dom k4)
end
/-- the p-th edge of L pixels -/
def eX (a0 a1 b0 b1 L p : Int) : Int := a0 * 2 * L * b1 + (2 * p - 1) * (b0 * a1 - a0 * b1)
def eY (a1 b1 L : Int) : Int := 2 * L * a1 * b1
theorem c_edge {a0 a1 b0 b1 L p : Int} (dm : Dom a0 a1 b0 b1) (L0 : 0 < L) (L1 : L ≤ 400) (p0 : 0 ≤ p) (p1 : p ≤ 400) (k : Nat) (S : Sto) {Q : D → Sto → Prop} (h : ∀ x y, Red (eX a0 a1 b0 b1 L p) (eY a1 b1 L) x y → Q (fr x y) S) :
    wp (callF tab G (k + 2) "_law_edge" [.tup [fr a0 a1, fr b0 b1], .int L, .int p] S) Q := by
  rw [callF_succ (by decide) rfl]
  refine wp_run rfl rfl ?_
  obtain ⟨a1p, b1p, ra, rb, lt, ba, ba1, bb, bb1⟩ := dm
  have two : Bd 2 2 := by unfold Bd; decide
  have pB : Bd 400 p := by unfold Bd; omega
  have LB : Bd 400 L := by unfold Bd; omega
  have one : Bd 1 1 := by unfold Bd; decide
  have m1 := bop_mul (two.ok pB (by decide) (by decide))
  have m2 := bop_mul (bb.ok ba1 (by decide) (by decide))
  have m3 := bop_mul (ba.ok bb1 (by decide) (by decide))
  have m4 := bop_mul (((two.mul pB).sub one).ok ((bb.mul ba1).sub (ba.mul bb1)) (by decide) (by decide))
  have m5 := bop_mul (ba.ok two (by decide) (by decide))
  have m6 := bop_mul ((ba.mul two).ok LB (by decide) (by decide))
  have m7 := bop_mul (((ba.mul two).mul LB).ok bb1 (by decide) (by decide))
  have m8 := bop_mul (two.ok LB (by decide) (by decide))
  have m9 := bop_mul ((two.mul LB).ok ba1 (by decide) (by decide))
  have m10 := bop_mul (((two.mul LB).mul ba1).ok bb1 (by decide) (by decide))
  have yB := ((two.mul LB).mul ba1).mul bb1
  have y0 : 0 < 2 * L * a1 * b1 := Int.mul_pos (Int.mul_pos (Int.mul_pos (by omega) L0) a1p) b1p
  simp [d_law_edge, start', atI_0, atI_1, m1, m2, m3, m4, m5, m6, m7, m8, m9, m10]
  refine c_llowest y0 (by unfold Bd at yB; omega) _ _ fun x y hr => ?_
  simp
  exact h x y hr
theorem edge_bd {a0 a1 b0 b1 L p : Int} (dm : Dom a0 a1 b0 b1) (L0 : 0 < L) (L1 : L ≤ 400) (p0 : 0 ≤ p) (p1 : p ≤ 400) : Bd (2 ^ 20) (eX a0 a1 b0 b1 L p) ∧ Bd (2 ^ 20) (eY a1 b1 L) := by
  obtain ⟨a1p, b1p, ra, rb, lt, ba, ba1, bb, bb1⟩ := dm
  have two : Bd 2 2 := by unfold Bd; decide
  have pB : Bd 400 p := by unfold Bd; omega
  have LB : Bd 400 L := by unfold Bd; omega
  have one : Bd 1 1 := by unfold Bd; decide
  have h1 := (((ba.mul two).mul LB).mul bb1).add (((two.mul pB).sub one).mul ((bb.mul ba1).sub (ba.mul bb1)))
  have h2 := ((two.mul LB).mul ba1).mul bb1
  exact ⟨Nat.le_trans h1 (by decide), Nat.le_trans h2 (by decide)⟩

abbrev B30 : Int := 2 ^ 30
theorem span_of {a b c d : Int} (b0 : 0 < b) (d0 : 0 < d) (ra : Int.gcd a b = 1) (rc : Int.gcd c d = 1) (lt : a * d < c * b) (ba : Bd (2 ^ 20) a) (bb : Bd (2 ^ 20) b) (bc : Bd (2 ^ 20) c) (bd : Bd (2 ^ 20) d) : Span B30 a b c d := by
  unfold Bd at *
  exact ⟨b0, d0, ra, rc, lt, by simp only [B30]; omega, by simp only [B30]; omega, by simp only [B30]; omega, by simp only [B30]; omega, by omega, by omega⟩
theorem Red.bd {X Y x y : Int} (h : Red X Y x y) (hX : Bd (2 ^ 20) X) (hY : Bd (2 ^ 20) Y) : Bd (2 ^ 20) x ∧ Bd (2 ^ 20) y := by
  have h1 := h.bound (B := 2 ^ 20) (by unfold Bd at hX; omega) (by unfold Bd at hX; omega)
  have h2 := h.den
  have h3 := h.pos
  unfold Bd at *
  exact ⟨by omega, by omega⟩
theorem c_span {a0 a1 b0 b1 L p : Int} (dm : Dom a0 a1 b0 b1) (L0 : 4 ≤ L) (L1 : L ≤ 400) (p0 : 0 ≤ p) (p1 : p ≤ L) (k : Nat) (S : Sto) {Q : D → Sto → Prop} (h : ∀ a b c d cl, Span B30 a b c d → Q (.tup [fr a b, fr c d, .bl cl]) S) :
    wp (callF tab G (k + 3) "_law_span" [.tup [.str (Str.ofString "linear"), .tup [fr a0 a1, fr b0 b1], .int L, .bl false, .bl false], .int p] S) Q := by
  rw [callF_succ (by decide) rfl]
  refine wp_run rfl rfl ?_
  have hd : 0 < b0 * a1 - a0 * b1 := by have := dm.lt; omega
  have y0 : 0 < eY a1 b1 L := Int.mul_pos (Int.mul_pos (Int.mul_pos (by omega) (by omega)) dm.a1p) dm.b1p
  have A1 := dm.a1p
  have B1 := dm.b1p
  have low20 : ∀ {A : Nat} {i : Int}, Bd A i → A ≤ 2 ^ 20 → Bd (2 ^ 20) i := fun h l => Nat.le_trans h l
  have step : ∀ q : Int, eX a0 a1 b0 b1 L q < eX a0 a1 b0 b1 L (q + 1) := fun q => by
    unfold eX
    generalize b0 * a1 - a0 * b1 = D at *
    have : (2 * (q + 1) - 1) * D = (2 * q - 1) * D + 2 * D := by grind
    omega
  have first : a0 * eY a1 b1 L < eX a0 a1 b0 b1 L 1 * a1 := by
    unfold eX eY
    have : 0 < (b0 * a1 - a0 * b1) * a1 := Int.mul_pos hd A1
    grind
  have last : eX a0 a1 b0 b1 L L * b1 < b0 * eY a1 b1 L := by
    unfold eX eY
    have : 0 < (b0 * a1 - a0 * b1) * b1 := Int.mul_pos hd B1
    grind
  by_cases hp : 0 < p
  · by_cases hl : p < L
    · simp [d_law_span, start', atI_0, atI_1, atI_2, atI_3, hp, hl]
      refine c_edge dm (by omega) L1 p0 (by omega) k S fun x y hr => ?_
      refine c_edge dm (by omega) L1 (by omega) (by omega) k S fun x' y' hr' => ?_
      have e1 := hr.bd (edge_bd dm (by omega) L1 p0 (by omega)).1 (edge_bd dm (by omega) L1 p0 (by omega)).2
      have e2 := hr'.bd (edge_bd dm (by omega) L1 (by omega) (by omega)).1 (edge_bd dm (by omega) L1 p0 (by omega)).2
      exact wp_fin_same rfl (h _ _ _ _ _ (span_of hr.pos hr'.pos hr.red hr'.red (hr.lt hr' (Int.mul_lt_mul_of_pos_right (step p) y0)) e1.1 e1.2 e2.1 e2.2))
    · have : p = L := by omega
      subst this
      simp [d_law_span, start', atI_0, atI_1, atI_2, atI_3, hp]
      refine c_edge dm (by omega) L1 p0 (by omega) k S fun x y hr => ?_
      have e1 := hr.bd (edge_bd dm (by omega) L1 p0 (by omega)).1 (edge_bd dm (by omega) L1 p0 (by omega)).2
      exact wp_fin_same rfl (h _ _ _ _ _ (span_of hr.pos B1 hr.red dm.rb (hr.lt (.self B1 dm.rb) last) e1.1 e1.2 (low20 dm.bb (by decide)) (low20 dm.bb1 (by decide))))
  · have : p = 0 := by omega
    subst this
    have hl : (0 : Int) < L := by omega
    simp [d_law_span, start', atI_0, atI_1, atI_2, atI_3, hl]
    refine c_edge dm (by omega) L1 (by omega) (by omega) k S fun x' y' hr' => ?_
    have e2 := hr'.bd (edge_bd dm (by omega) L1 (by omega) (by omega)).1 (edge_bd dm (by omega) L1 p0 (by omega)).2
    exact wp_fin_same rfl (h _ _ _ _ _ (span_of A1 hr'.pos dm.ra hr'.red ((Red.self A1 dm.ra).lt hr' first) (low20 dm.ba (by decide)) (low20 dm.ba1 (by decide)) e2.1 e2.2))
section
variable {ns : List Int} {k n : Nat} {t : Tp} {W : Sto} {Q : D → Sto → Prop}
theorem c_drawn_tail {t1 : Tp} {x y : Int} (J : Sto) (y0 : 0 < y) (rxy : Int.gcd x y = 1) (xB : Bd 200 x) (yB : Bd 60 y) (o4 o5 : Option D) (ht : t.ok (n + 3)) (h : ∀ a b c d cl t', Span B30 a b c d → t'.ok n → Q (.tup [fr a b, fr c d, .bl cl]) (tp (ns.map .int) t' ++ W)) :
    wp (exSs ⟨callF tab G (k + 3), G⟩ (d_law_drawn_span.body.drop 3) [some (.loc 2), some (fr x y), none, none, o4, o5] (tp (ns.map .int) t ++ (W ++ J))) (retQ (tp (ns.map .int) t1 ++ W) Q) := by
  simp [d_law_drawn_span]
  refine c_draw (n := n + 2) ht (by decide) (by decide) fun r t2 r0 r1 k2 => ?_
  simp
  refine c_draw (n := n + 1) k2 (by decide) (by decide) fun u t3 u0 u1 k3 => ?_
  simp
  refine c_llowest (by omega) (by omega) _ _ fun s v hr => ?_
  have hs := hr.bound (B := 60) (by omega) (by omega)
  have hv := hr.den
  have v0 := hr.pos
  have s0 : 0 < s := by
    obtain ⟨g, g0, e1, e2⟩ := hr.ex
    have : 0 < g * s := by omega
    exact Int.pos_of_mul_pos_right this g0
  have sB : Bd 60 s := by unfold Bd; omega
  have vB : Bd 60 v := by unfold Bd; omega
  have m1 := bop_mul (xB.ok vB (by decide) (by decide))
  have m2 := bop_mul (sB.ok yB (by decide) (by decide))
  have m3 := bop_mul (yB.ok vB (by decide) (by decide))
  have nB := (xB.mul vB).add (sB.mul yB)
  have dB := yB.mul vB
  have d0 : 0 < y * v := Int.mul_pos y0 v0
  simp [atI_0, atI_1, m1, m2, m3]
  refine c_llowest d0 (by unfold Bd at dB; omega) _ _ fun c e hr' => ?_
  have lt : x * (y * v) < (x * v + s * y) * y := by
    have : 0 < s * y * y := Int.mul_pos (Int.mul_pos s0 y0) y0
    grind
  have e2 := hr'.bd (Nat.le_trans nB (by decide)) (Nat.le_trans dB (by decide))
  have sp : Span B30 x y c e := span_of y0 hr'.pos rxy hr'.red ((Red.self y0 rxy).lt hr' lt) (Nat.le_trans xB (by decide)) (Nat.le_trans yB (by decide)) e2.1 e2.2
  refine c_draw (n := n) k3 (by decide) (by decide) fun f t4 f0 f1 k4 => ?_
  simp
  exact wp_fin_tp rfl (h _ _ _ _ _ _ sp k4)
theorem c_drawn (ht : t.ok (n + 9)) (h : ∀ a b c d cl t', Span B30 a b c d → t'.ok n → Q (.tup [fr a b, fr c d, .bl cl]) (tp (ns.map .int) t' ++ W)) :
    wp (callF tab G (k + 4) "_law_drawn_span" [.loc 2] (tp (ns.map .int) t ++ W)) Q := by
  rw [callF_succ (by decide) rfl]
  refine wp_run rfl rfl ?_
  simp [d_law_drawn_span, start']
  refine c_draw (n := n + 8) ht (by decide) (by decide) fun r t1 r0 r1 k1 => ?_
  by_cases c0 : r = 0
  · simp [c0]
    refine c_ends (n := n + 4) k1 fun a0 a1 b0 b1 t2 dm k2 => ?_
    refine c_draw (n := n + 3) k2 (by decide) (by decide) fun l t3 l0 l1 k3 => ?_
    simp [atI_2]
    refine c_draw (n := n + 2) k3 (by omega) (by omega) fun p t4 p0 p1 k4 => ?_
    refine c_span dm (by omega) (by omega) p0 (by omega) _ _ fun a b c d cl sp => ?_
    exact wp_fin_tp0 rfl (h _ _ _ _ _ _ sp (k4.mono (by omega)))
  · simp [c0]
    refine c_draw (n := n + 7) k1 (by decide) (by decide) fun u t2 u0 u1 k2 => ?_
    simp
    refine c_draw (n := n + 6) k2 (by decide) (by decide) fun v t3 v0 v1 k3 => ?_
    simp
    refine c_llowest (by omega) (by omega) _ _ fun x y hr => ?_
    have hx := hr.bound (B := 200) (by omega) (by omega)
    have hy := hr.den
    have y0 := hr.pos
    refine c_draw (n := n + 5) k3 (by decide) (by decide) fun f t4 f0 f1 k4 => ?_
    by_cases c1 : f = 0
    · simp [c1]
      refine c_draw (n := n + 4) k4 (by decide) (by decide) fun z t5 z0 z1 k5 => ?_
      simp
      refine c_draw (n := n + 3) k5 (by decide) (by decide) fun i t6 i0 i1 k6 => ?_
      simp
      refine wp_atI i0 i1 fun w hw => ?_
      obtain ⟨p, q, rfl, q0, rpq, pB, qB⟩ : ∃ p q : Int, w = fr p q ∧ 0 < q ∧ Int.gcd p q = 1 ∧ Bd 200 p ∧ Bd 60 q := by
        simp at hw
        rcases hw with rfl | rfl
        · exact ⟨_, _, rfl, by omega, by simp, by unfold Bd; omega, by unfold Bd; omega⟩
        · exact ⟨_, _, rfl, by omega, by simp, by unfold Bd; omega, by unfold Bd; omega⟩
      have := c_drawn_tail (k := k) (t1 := t) (n := n) (W := W) (Q := Q) [.lst [.tup [.int 0, .int 1], .tup [.int (-1), .int (1 + z)]]] q0 rpq pB qB none none k6 h
      simp [d_law_drawn_span] at this
      simpa using this
    · simp [c1]
      have := c_drawn_tail (k := k) (t1 := t) (n := n) (W := W) (Q := Q) [] y0 hr.red (by unfold Bd; omega) (by unfold Bd; omega) none none (k4.mono (by omega)) h
      simp [d_law_drawn_span] at this
      simpa using this
end

/-! ### the law -/
theorem nc_fr {n q : Int} (h1 : n.natAbs < 10 ^ 12) (h2 : q.natAbs < 10 ^ 12) : Nc 1 100 (fr n q) := by
  refine (Nc.tup (n := 0) (w := 40) (ds := [.int n, .int q]) fun d hd => ?_).mono (by omega) (by simp)
  simp at hd
  rcases hd with rfl | rfl
  · exact .int h1 0
  · exact .int h2 0
theorem law_mid (ns : List Int) (k : Nat) (W : Sto) {t : Tp} (ht : t.ok 900000) : wp (exSs ⟨callF tab G (k + 4), G⟩ (d_law.body.drop 1) [some (.loc 0), some (.loc 2), none, none, none, none, none, none, none] (tp (ns.map .int) t ++ W)) (retQ [.ro (ns.map .int)] fun d _ => d = .bl true) := by
  have pre : ∀ (t : Tp) (X : Sto), wp (fin [.ro (ns.map .int)] (.bl true, tp (ns.map .int) t ++ X)) fun d _ => d = .bl true := fun t X =>
    wp_fin_p rfl ⟨by simp [tp], fun i so hi e => by
      have : i = 0 := by simp at hi; omega
      subst this
      exact .inl e⟩ rfl
  simp [d_law]
  refine c_drawn (n := 2) (ht.mono (by omega)) fun a b c d cl t1 sp k1 => ?_
  refine c_simplest sp (by simp only [B30]; omega) (by simp only [B30]; omega) k _ fun n q n1 q1 hs => ?_
  have q0 := hs.mem.pos
  obtain ⟨b0, d0, ra, rc, lt, al, au, c1, cu, bB, dB⟩ := id sp
  simp only [B30] at n1 q1 al au c1 cu
  have ls := c_lsimplest sp (by simp only [B30]; omega) hs (k + 3)
  have nc := nc_fr (n := n) (q := q) (by omega) (by omega)
  have rp := repr_nc nc (by omega) (by omega)
  have sa : Sm a := by unfold Sm; omega
  have sb : Sm b := by unfold Sm; omega
  have sc : Sm c := by unfold Sm; omega
  have sd : Sm d := by unfold Sm; omega
  have sn : Sm n := by unfold Sm; omega
  have sq : Sm q := by unfold Sm; omega
  have li := c_lies (cl := cl) sa sb sc sd sn sq (k + 1)
  rw [show decide (¬ n * b < a * q ∧ (n * d < c * q ∨ (cl = true ∧ n = c ∧ q = d))) = true from decide_eq_true (lies_in_iff d0 q0 rc hs.red hs.mem)] at li
  simp [ls, rp, li, atI_0, atI_1]
  refine c_draw (n := 1) k1 (by decide) (by decide) fun r t2 r0 r1 k2 => ?_
  simp
  refine c_draw (n := 0) k2 (by decide) (by decide) fun s t3 s0 s1 k3 => ?_
  have aB : Bd (2 ^ 30) a := by unfold Bd; omega
  have bB' : Bd (2 ^ 20) b := by unfold Bd; omega
  have cB : Bd (2 ^ 30) c := by unfold Bd; omega
  have dB' : Bd (2 ^ 20) d := by unfold Bd; omega
  have pB : Bd 60 (1 + r) := by unfold Bd; omega
  have wB : Bd 60 (1 + r + s) := by unfold Bd; omega
  have uB : Bd 60 (1 + r + s - (1 + r)) := by unfold Bd; omega
  have m1 := bop_mul (aB.ok dB' (by decide) (by decide))
  have m2 := bop_mul ((aB.mul dB').ok uB (by decide) (by decide))
  have m3 := bop_mul (cB.ok bB' (by decide) (by decide))
  have m4 := bop_mul ((cB.mul bB').ok pB (by decide) (by decide))
  have m5 := bop_mul (bB'.ok dB' (by decide) (by decide))
  have m6 := bop_mul ((bB'.mul dB').ok wB (by decide) (by decide))
  have NB := ((aB.mul dB').mul uB).add ((cB.mul bB').mul pB)
  have DB := (bB'.mul dB').mul wB
  have D0 : 0 < b * d * (1 + r + s) := Int.mul_pos (Int.mul_pos b0 d0) (by omega)
  simp [atI_0, atI_1, m1, m2, m3, m4, m5, m6]
  refine c_llowest D0 (by unfold Bd at DB; omega) _ _ fun x y hr => ?_
  have xb := hr.bound (B := 2 ^ 60) (by unfold Bd at NB; omega) (by unfold Bd at NB; omega)
  have yb := hr.den
  have y0 := hr.pos
  have lo := c_lies (cl := cl) sa sb sc sd (m := x) (e := y) (by unfold Sm; omega) (by unfold Sm; unfold Bd at DB; omega) (k + 1)
  by_cases hin : ¬ x * b < a * y ∧ (x * d < c * y ∨ (cl = true ∧ x = c ∧ y = d))
  · rw [decide_eq_true hin] at lo
    have hI : In a b c d cl x y := ⟨y0, by omega, hin.2.imp id fun h => ⟨h.1, by rw [h.2.1, h.2.2]⟩⟩
    have le := (hs.least x y hI).2
    simp [lo, atI_1, le]
    exact pre _ _
  · rw [decide_eq_false hin] at lo
    simp [lo]
    exact pre _ _
theorem law_holds (ns : List Int) (k : Nat) : ∃ S', callF tab G (k + 5) "law" [.loc 0] [.ro (ns.map D.int)] = some (.bl true, S') := by
  have : wp (callF tab G (k + 5) "law" [.loc 0] [.ro (ns.map D.int)]) fun d _ => d = .bl true := by
    rw [callF_succ (by decide) rfl]
    refine wp_run rfl rfl ?_
    simp [d_law, start']
    rw [callF_succ (by decide) rfl]
    refine tape_ok _ ns fun t ht => ?_
    have := law_mid ns k [] ht
    simpa [d_law] using this
  obtain ⟨d, S', e, rfl⟩ := this
  exact ⟨S', e⟩
end K80

set_option Elab.async false
set_option linter.all false
set_option maxRecDepth 100000
namespace K80
open PySem PySem.Spec PyProof.Rows L2 Cs
abbrev gv0 : List V := [.int 1, .int 1]
abbrev gv1 : List V := [.int 0, .int 1]
end K80
namespace K80
open PySem PySem.Spec PyProof.Rows L2 Cs
theorem all_mk {l : PySem.W.OpenLaw} {w : World} {K : PySem.W.Frag} {h : Heap} {mg : Str → Option Value} {fa : Addr} (X : K.In h) (G' : h.Ns mainGlobals mg) (hfa : mg "law" = some (.ref fa))
    {f0 : Addr} {o0 n0 : Option Addr} {s0 : Array (Option Value)} {p0 q0 r0 t0 u0 v0 : Value}
    (a0 : PySem.W.nsIn K mainGlobals "lowest" = some (some (.ref f0)))
    (l0 : K.lookup f0 = some ⟨p0, o0, .func (PySem.W.fnOf "lowest" "lowest" (defArgs (topS 2)) (defBody (topS 2)) (defScope (topS 2)) .none q0 r0 t0 n0 u0 v0), s0⟩)
    (c0 : PySem.W.codeIn K u0 "lowest" = true) (k0 : PySem.W.keepIn K (.ref f0) = true)
    {f1 : Addr} {o1 n1 : Option Addr} {s1 : Array (Option Value)} {p1 q1 r1 t1 u1 v1 : Value}
    (a1 : PySem.W.nsIn K mainGlobals "plus" = some (some (.ref f1)))
    (l1 : K.lookup f1 = some ⟨p1, o1, .func (PySem.W.fnOf "plus" "plus" (defArgs (topS 3)) (defBody (topS 3)) (defScope (topS 3)) .none q1 r1 t1 n1 u1 v1), s1⟩)
    (c1 : PySem.W.codeIn K u1 "plus" = true) (k1 : PySem.W.keepIn K (.ref f1) = true)
    {f2 : Addr} {o2 n2 : Option Addr} {s2 : Array (Option Value)} {p2 q2 r2 t2 u2 v2 : Value}
    (a2 : PySem.W.nsIn K mainGlobals "minus" = some (some (.ref f2)))
    (l2 : K.lookup f2 = some ⟨p2, o2, .func (PySem.W.fnOf "minus" "minus" (defArgs (topS 4)) (defBody (topS 4)) (defScope (topS 4)) .none q2 r2 t2 n2 u2 v2), s2⟩)
    (c2 : PySem.W.codeIn K u2 "minus" = true) (k2 : PySem.W.keepIn K (.ref f2) = true)
    {f3 : Addr} {o3 n3 : Option Addr} {s3 : Array (Option Value)} {p3 q3 r3 t3 u3 v3 : Value}
    (a3 : PySem.W.nsIn K mainGlobals "over" = some (some (.ref f3)))
    (l3 : K.lookup f3 = some ⟨p3, o3, .func (PySem.W.fnOf "over" "over" (defArgs (topS 5)) (defBody (topS 5)) (defScope (topS 5)) .none q3 r3 t3 n3 u3 v3), s3⟩)
    (c3 : PySem.W.codeIn K u3 "over" = true) (k3 : PySem.W.keepIn K (.ref f3) = true)
    {f4 : Addr} {o4 n4 : Option Addr} {s4 : Array (Option Value)} {p4 q4 r4 t4 u4 v4 : Value}
    (a4 : PySem.W.nsIn K mainGlobals "compare" = some (some (.ref f4)))
    (l4 : K.lookup f4 = some ⟨p4, o4, .func (PySem.W.fnOf "compare" "compare" (defArgs (topS 6)) (defBody (topS 6)) (defScope (topS 6)) .none q4 r4 t4 n4 u4 v4), s4⟩)
    (c4 : PySem.W.codeIn K u4 "compare" = true) (k4 : PySem.W.keepIn K (.ref f4) = true)
    {f5 : Addr} {o5 n5 : Option Addr} {s5 : Array (Option Value)} {p5 q5 r5 t5 u5 v5 : Value}
    (a5 : PySem.W.nsIn K mainGlobals "floor_of" = some (some (.ref f5)))
    (l5 : K.lookup f5 = some ⟨p5, o5, .func (PySem.W.fnOf "floor_of" "floor_of" (defArgs (topS 7)) (defBody (topS 7)) (defScope (topS 7)) .none q5 r5 t5 n5 u5 v5), s5⟩)
    (c5 : PySem.W.codeIn K u5 "floor_of" = true) (k5 : PySem.W.keepIn K (.ref f5) = true)
    {f6 : Addr} {o6 n6 : Option Addr} {s6 : Array (Option Value)} {p6 q6 r6 t6 u6 v6 : Value}
    (a6 : PySem.W.nsIn K mainGlobals "least_whole" = some (some (.ref f6)))
    (l6 : K.lookup f6 = some ⟨p6, o6, .func (PySem.W.fnOf "least_whole" "least_whole" (defArgs (topS 11)) (defBody (topS 11)) (defScope (topS 11)) .none q6 r6 t6 n6 u6 v6), s6⟩)
    (c6 : PySem.W.codeIn K u6 "least_whole" = true) (k6 : PySem.W.keepIn K (.ref f6) = true)
    {f7 : Addr} {o7 n7 : Option Addr} {s7 : Array (Option Value)} {p7 q7 r7 t7 u7 v7 : Value}
    (a7 : PySem.W.nsIn K mainGlobals "simplest_above" = some (some (.ref f7)))
    (l7 : K.lookup f7 = some ⟨p7, o7, .func (PySem.W.fnOf "simplest_above" "simplest_above" (defArgs (topS 12)) (defBody (topS 12)) (defScope (topS 12)) .none q7 r7 t7 n7 u7 v7), s7⟩)
    (c7 : PySem.W.codeIn K u7 "simplest_above" = true) (k7 : PySem.W.keepIn K (.ref f7) = true)
    {f8 : Addr} {o8 n8 : Option Addr} {s8 : Array (Option Value)} {p8 q8 r8 t8 u8 v8 : Value}
    (a8 : PySem.W.nsIn K mainGlobals "simplest" = some (some (.ref f8)))
    (l8 : K.lookup f8 = some ⟨p8, o8, .func (PySem.W.fnOf "simplest" "simplest" (defArgs (topS 13)) (defBody (topS 13)) (defScope (topS 13)) .none q8 r8 t8 n8 u8 v8), s8⟩)
    (c8 : PySem.W.codeIn K u8 "simplest" = true) (k8 : PySem.W.keepIn K (.ref f8) = true)
    {f9 : Addr} {o9 n9 : Option Addr} {s9 : Array (Option Value)} {p9 q9 r9 t9 u9 v9 : Value}
    (a9 : PySem.W.nsIn K mainGlobals "_law_tape" = some (some (.ref f9)))
    (l9 : K.lookup f9 = some ⟨p9, o9, .func (PySem.W.fnOf "_law_tape" "_law_tape" (defArgs (topS 15)) (defBody (topS 15)) (defScope (topS 15)) .none q9 r9 t9 n9 u9 v9), s9⟩)
    (c9 : PySem.W.codeIn K u9 "_law_tape" = true) (k9 : PySem.W.keepIn K (.ref f9) = true)
    {f10 : Addr} {o10 n10 : Option Addr} {s10 : Array (Option Value)} {p10 q10 r10 t10 u10 v10 : Value}
    (a10 : PySem.W.nsIn K mainGlobals "_law_draw" = some (some (.ref f10)))
    (l10 : K.lookup f10 = some ⟨p10, o10, .func (PySem.W.fnOf "_law_draw" "_law_draw" (defArgs (topS 16)) (defBody (topS 16)) (defScope (topS 16)) .none q10 r10 t10 n10 u10 v10), s10⟩)
    (c10 : PySem.W.codeIn K u10 "_law_draw" = true) (k10 : PySem.W.keepIn K (.ref f10) = true)
    {f11 : Addr} {o11 n11 : Option Addr} {s11 : Array (Option Value)} {p11 q11 r11 t11 u11 v11 : Value}
    (a11 : PySem.W.nsIn K mainGlobals "_law_lowest" = some (some (.ref f11)))
    (l11 : K.lookup f11 = some ⟨p11, o11, .func (PySem.W.fnOf "_law_lowest" "_law_lowest" (defArgs (topS 17)) (defBody (topS 17)) (defScope (topS 17)) .none q11 r11 t11 n11 u11 v11), s11⟩)
    (c11 : PySem.W.codeIn K u11 "_law_lowest" = true) (k11 : PySem.W.keepIn K (.ref f11) = true)
    {f12 : Addr} {o12 n12 : Option Addr} {s12 : Array (Option Value)} {p12 q12 r12 t12 u12 v12 : Value}
    (a12 : PySem.W.nsIn K mainGlobals "_law_cell_kind" = some (some (.ref f12)))
    (l12 : K.lookup f12 = some ⟨p12, o12, .func (PySem.W.fnOf "_law_cell_kind" "_law_cell_kind" (defArgs (topS 18)) (defBody (topS 18)) (defScope (topS 18)) .none q12 r12 t12 n12 u12 v12), s12⟩)
    (c12 : PySem.W.codeIn K u12 "_law_cell_kind" = true) (k12 : PySem.W.keepIn K (.ref f12) = true)
    {f13 : Addr} {o13 n13 : Option Addr} {s13 : Array (Option Value)} {p13 q13 r13 t13 u13 v13 : Value}
    (a13 : PySem.W.nsIn K mainGlobals "_law_comes_before" = some (some (.ref f13)))
    (l13 : K.lookup f13 = some ⟨p13, o13, .func (PySem.W.fnOf "_law_comes_before" "_law_comes_before" (defArgs (topS 19)) (defBody (topS 19)) (defScope (topS 19)) .none q13 r13 t13 n13 u13 v13), s13⟩)
    (c13 : PySem.W.codeIn K u13 "_law_comes_before" = true) (k13 : PySem.W.keepIn K (.ref f13) = true)
    {f14 : Addr} {o14 n14 : Option Addr} {s14 : Array (Option Value)} {p14 q14 r14 t14 u14 v14 : Value}
    (a14 : PySem.W.nsIn K mainGlobals "_law_ends" = some (some (.ref f14)))
    (l14 : K.lookup f14 = some ⟨p14, o14, .func (PySem.W.fnOf "_law_ends" "_law_ends" (defArgs (topS 20)) (defBody (topS 20)) (defScope (topS 20)) .none q14 r14 t14 n14 u14 v14), s14⟩)
    (c14 : PySem.W.codeIn K u14 "_law_ends" = true) (k14 : PySem.W.keepIn K (.ref f14) = true)
    {f15 : Addr} {o15 n15 : Option Addr} {s15 : Array (Option Value)} {p15 q15 r15 t15 u15 v15 : Value}
    (a15 : PySem.W.nsIn K mainGlobals "_law_edge" = some (some (.ref f15)))
    (l15 : K.lookup f15 = some ⟨p15, o15, .func (PySem.W.fnOf "_law_edge" "_law_edge" (defArgs (topS 21)) (defBody (topS 21)) (defScope (topS 21)) .none q15 r15 t15 n15 u15 v15), s15⟩)
    (c15 : PySem.W.codeIn K u15 "_law_edge" = true) (k15 : PySem.W.keepIn K (.ref f15) = true)
    {f16 : Addr} {o16 n16 : Option Addr} {s16 : Array (Option Value)} {p16 q16 r16 t16 u16 v16 : Value}
    (a16 : PySem.W.nsIn K mainGlobals "_law_span" = some (some (.ref f16)))
    (l16 : K.lookup f16 = some ⟨p16, o16, .func (PySem.W.fnOf "_law_span" "_law_span" (defArgs (topS 22)) (defBody (topS 22)) (defScope (topS 22)) .none q16 r16 t16 n16 u16 v16), s16⟩)
    (c16 : PySem.W.codeIn K u16 "_law_span" = true) (k16 : PySem.W.keepIn K (.ref f16) = true)
    {f17 : Addr} {o17 n17 : Option Addr} {s17 : Array (Option Value)} {p17 q17 r17 t17 u17 v17 : Value}
    (a17 : PySem.W.nsIn K mainGlobals "_law_simplest" = some (some (.ref f17)))
    (l17 : K.lookup f17 = some ⟨p17, o17, .func (PySem.W.fnOf "_law_simplest" "_law_simplest" (defArgs (topS 23)) (defBody (topS 23)) (defScope (topS 23)) .none q17 r17 t17 n17 u17 v17), s17⟩)
    (c17 : PySem.W.codeIn K u17 "_law_simplest" = true) (k17 : PySem.W.keepIn K (.ref f17) = true)
    {f18 : Addr} {o18 n18 : Option Addr} {s18 : Array (Option Value)} {p18 q18 r18 t18 u18 v18 : Value}
    (a18 : PySem.W.nsIn K mainGlobals "_law_lies_in" = some (some (.ref f18)))
    (l18 : K.lookup f18 = some ⟨p18, o18, .func (PySem.W.fnOf "_law_lies_in" "_law_lies_in" (defArgs (topS 24)) (defBody (topS 24)) (defScope (topS 24)) .none q18 r18 t18 n18 u18 v18), s18⟩)
    (c18 : PySem.W.codeIn K u18 "_law_lies_in" = true) (k18 : PySem.W.keepIn K (.ref f18) = true)
    {f19 : Addr} {o19 n19 : Option Addr} {s19 : Array (Option Value)} {p19 q19 r19 t19 u19 v19 : Value}
    (a19 : PySem.W.nsIn K mainGlobals "_law_drawn_span" = some (some (.ref f19)))
    (l19 : K.lookup f19 = some ⟨p19, o19, .func (PySem.W.fnOf "_law_drawn_span" "_law_drawn_span" (defArgs (topS 25)) (defBody (topS 25)) (defScope (topS 25)) .none q19 r19 t19 n19 u19 v19), s19⟩)
    (c19 : PySem.W.codeIn K u19 "_law_drawn_span" = true) (k19 : PySem.W.keepIn K (.ref f19) = true)
    {f20 : Addr} {o20 n20 : Option Addr} {s20 : Array (Option Value)} {p20 q20 r20 t20 u20 v20 : Value}
    (a20 : PySem.W.nsIn K mainGlobals "law" = some (some (.ref f20)))
    (l20 : K.lookup f20 = some ⟨p20, o20, .func (PySem.W.fnOf "law" "law" (defArgs (topS 26)) (defBody (topS 26)) (defScope (topS 26)) .none q20 r20 t20 n20 u20 v20), s20⟩)
    (c20 : PySem.W.codeIn K u20 "law" = true) (k20 : PySem.W.keepIn K (.ref f20) = true)
    (z0 : PySem.W.nsIn K mainGlobals "len" = some none)
    (z1 : PySem.W.nsIn K mainGlobals "abs" = some none)
    (z2 : PySem.W.nsIn K mainGlobals "max" = some none)
    (z3 : PySem.W.nsIn K mainGlobals "min" = some none)
    (z4 : PySem.W.nsIn K mainGlobals "all" = some none)
    (z5 : PySem.W.nsIn K mainGlobals "any" = some none)
    (z6 : PySem.W.nsIn K mainGlobals "repr" = some none)
    (z7 : PySem.W.nsIn K mainGlobals "sorted" = some none)
    (z8 : PySem.W.nsIn K mainGlobals "int" = some none)
    (z9 : PySem.W.nsIn K mainGlobals "list" = some none)
    (z10 : PySem.W.nsIn K mainGlobals "tuple" = some none)
    (z11 : PySem.W.nsIn K mainGlobals "range" = some none)
    (z12 : PySem.W.nsIn K mainGlobals "reversed" = some none)
    (z13 : PySem.W.nsIn K mainGlobals "isinstance" = some none)
    (z14 : PySem.W.nsIn K mainGlobals "bool" = some none)
    (z15 : PySem.W.nsIn K mainGlobals "str" = some none)
    {g0 : Addr} {go0 : Option Addr} {gs0 : Array (Option Value)} {gi0 : Array Value} {gn0 : Nat}
    (ga0 : PySem.W.nsIn K mainGlobals "ONE" = some (some (.ref g0))) (gl0 : K.lookup g0 = some ⟨.type "tuple", go0, .seq gi0 gn0, gs0⟩)
    (gh0 : He.relAll gv0 gi0.toList = true) (gz0 : gi0.size ≤ sizeLine)
    {g1 : Addr} {go1 : Option Addr} {gs1 : Array (Option Value)} {gi1 : Array Value} {gn1 : Nat}
    (ga1 : PySem.W.nsIn K mainGlobals "ZERO" = some (some (.ref g1))) (gl1 : K.lookup g1 = some ⟨.type "tuple", go1, .seq gi1 gn1, gs1⟩)
    (gh1 : He.relAll gv1 gi1.toList = true) (gz1 : gi1.size ≤ sizeLine)
    (hgcd : PySem.W.nsIn K mainGlobals "gcd" = some (some (.builtin "math.gcd")))
    : ∃ fd : FuncData, (∀ (s : Shared) (v : Value), BindsTo s fd ⟨[v], []⟩ [("_law_script", v)]) ∧ ∀ base : Heap, K.In base → base.Ns mainGlobals mg → FnG l.prog w K mg base 5 fa fd ["_law_script"] (spF K 1 (callF tab K80.G 5 "law")) := by
  have F0 := fun_mk (st := topS 2) l0 c0 k0
  have b0 := F0.binds (ps := ["numerator", "denominator"]) fun _ _ _ _ _ _ us hl => match us, hl with | [_, _], _ => rfl
  have F1 := fun_mk (st := topS 3) l1 c1 k1
  have b1 := F1.binds (ps := ["a", "b"]) fun _ _ _ _ _ _ us hl => match us, hl with | [_, _], _ => rfl
  have F2 := fun_mk (st := topS 4) l2 c2 k2
  have b2 := F2.binds (ps := ["a", "b"]) fun _ _ _ _ _ _ us hl => match us, hl with | [_, _], _ => rfl
  have F3 := fun_mk (st := topS 5) l3 c3 k3
  have b3 := F3.binds (ps := ["a", "b"]) fun _ _ _ _ _ _ us hl => match us, hl with | [_, _], _ => rfl
  have F4 := fun_mk (st := topS 6) l4 c4 k4
  have b4 := F4.binds (ps := ["a", "b"]) fun _ _ _ _ _ _ us hl => match us, hl with | [_, _], _ => rfl
  have F5 := fun_mk (st := topS 7) l5 c5 k5
  have b5 := F5.binds (ps := ["a"]) fun _ _ _ _ _ _ us hl => match us, hl with | [_], _ => rfl
  have F6 := fun_mk (st := topS 11) l6 c6 k6
  have b6 := F6.binds (ps := ["low", "with_low"]) fun _ _ _ _ _ _ us hl => match us, hl with | [_, _], _ => rfl
  have F7 := fun_mk (st := topS 12) l7 c7 k7
  have b7 := F7.binds (ps := ["low", "with_low", "high", "with_high"]) fun _ _ _ _ _ _ us hl => match us, hl with | [_, _, _, _], _ => rfl
  have F8 := fun_mk (st := topS 13) l8 c8 k8
  have b8 := F8.binds (ps := ["span"]) fun _ _ _ _ _ _ us hl => match us, hl with | [_], _ => rfl
  have F9 := fun_mk (st := topS 15) l9 c9 k9
  have b9 := F9.binds (ps := ["_law_script"]) fun _ _ _ _ _ _ us hl => match us, hl with | [_], _ => rfl
  have F10 := fun_mk (st := topS 16) l10 c10 k10
  have b10 := F10.binds (ps := ["_law_tape_here", "_law_many"]) fun _ _ _ _ _ _ us hl => match us, hl with | [_, _], _ => rfl
  have F11 := fun_mk (st := topS 17) l11 c11 k11
  have b11 := F11.binds (ps := ["_law_n", "_law_d"]) fun _ _ _ _ _ _ us hl => match us, hl with | [_, _], _ => rfl
  have F12 := fun_mk (st := topS 18) l12 c12 k12
  have b12 := F12.binds (ps := ["_law_cell"]) fun _ _ _ _ _ _ us hl => match us, hl with | [_], _ => rfl
  have F13 := fun_mk (st := topS 19) l13 c13 k13
  have b13 := F13.binds (ps := ["_law_one", "_law_other"]) fun _ _ _ _ _ _ us hl => match us, hl with | [_, _], _ => rfl
  have F14 := fun_mk (st := topS 20) l14 c14 k14
  have b14 := F14.binds (ps := ["_law_tape_here"]) fun _ _ _ _ _ _ us hl => match us, hl with | [_], _ => rfl
  have F15 := fun_mk (st := topS 21) l15 c15 k15
  have b15 := F15.binds (ps := ["_law_domain", "_law_length", "_law_p"]) fun _ _ _ _ _ _ us hl => match us, hl with | [_, _, _], _ => rfl
  have F16 := fun_mk (st := topS 22) l16 c16 k16
  have b16 := F16.binds (ps := ["_law_ruler", "_law_pixel"]) fun _ _ _ _ _ _ us hl => match us, hl with | [_, _], _ => rfl
  have F17 := fun_mk (st := topS 23) l17 c17 k17
  have b17 := F17.binds (ps := ["_law_span_here"]) fun _ _ _ _ _ _ us hl => match us, hl with | [_], _ => rfl
  have F18 := fun_mk (st := topS 24) l18 c18 k18
  have b18 := F18.binds (ps := ["_law_x", "_law_span_here"]) fun _ _ _ _ _ _ us hl => match us, hl with | [_, _], _ => rfl
  have F19 := fun_mk (st := topS 25) l19 c19 k19
  have b19 := F19.binds (ps := ["_law_tape_here"]) fun _ _ _ _ _ _ us hl => match us, hl with | [_], _ => rfl
  have F20 := fun_mk (st := topS 26) l20 c20 k20
  have b20 := F20.binds (ps := ["_law_script"]) fun _ _ _ _ _ _ us hl => match us, hl with | [_], _ => rfl
  have tp : Top K mg ents gs K80.G true := by
    refine ⟨fun e he => ?_, fun g hg => ?_, fun f hf => ?_, fun hg => ?_⟩
    · simp only [List.mem_cons, List.not_mem_nil, or_false] at he
      rcases he with rfl | rfl | rfl | rfl | rfl | rfl | rfl | rfl | rfl | rfl | rfl | rfl | rfl | rfl | rfl | rfl | rfl | rfl | rfl | rfl | rfl
      · exact ⟨f0, _, PySem.W.mg_of X G' a0, F0, b0⟩
      · exact ⟨f1, _, PySem.W.mg_of X G' a1, F1, b1⟩
      · exact ⟨f2, _, PySem.W.mg_of X G' a2, F2, b2⟩
      · exact ⟨f3, _, PySem.W.mg_of X G' a3, F3, b3⟩
      · exact ⟨f4, _, PySem.W.mg_of X G' a4, F4, b4⟩
      · exact ⟨f5, _, PySem.W.mg_of X G' a5, F5, b5⟩
      · exact ⟨f6, _, PySem.W.mg_of X G' a6, F6, b6⟩
      · exact ⟨f7, _, PySem.W.mg_of X G' a7, F7, b7⟩
      · exact ⟨f8, _, PySem.W.mg_of X G' a8, F8, b8⟩
      · exact ⟨f9, _, PySem.W.mg_of X G' a9, F9, b9⟩
      · exact ⟨f10, _, PySem.W.mg_of X G' a10, F10, b10⟩
      · exact ⟨f11, _, PySem.W.mg_of X G' a11, F11, b11⟩
      · exact ⟨f12, _, PySem.W.mg_of X G' a12, F12, b12⟩
      · exact ⟨f13, _, PySem.W.mg_of X G' a13, F13, b13⟩
      · exact ⟨f14, _, PySem.W.mg_of X G' a14, F14, b14⟩
      · exact ⟨f15, _, PySem.W.mg_of X G' a15, F15, b15⟩
      · exact ⟨f16, _, PySem.W.mg_of X G' a16, F16, b16⟩
      · exact ⟨f17, _, PySem.W.mg_of X G' a17, F17, b17⟩
      · exact ⟨f18, _, PySem.W.mg_of X G' a18, F18, b18⟩
      · exact ⟨f19, _, PySem.W.mg_of X G' a19, F19, b19⟩
      · exact ⟨f20, _, PySem.W.mg_of X G' a20, F20, b20⟩
    · simp only [List.mem_cons, List.not_mem_nil, or_false] at hg
      rcases hg with rfl | rfl
      · exact ⟨_, .ref g0, _, PySem.W.mg_of X G' ga0, rfl, rfl, fun H ρ => ⟨g0, gv0, rfl, .inr ⟨_, gi0, gn0, gl0, rfl, rfl, gz0, He.relAll_ok gh0⟩, by simp [RpL, Rp]⟩⟩
      · exact ⟨_, .ref g1, _, PySem.W.mg_of X G' ga1, rfl, rfl, fun H ρ => ⟨g1, gv1, rfl, .inr ⟨_, gi1, gn1, gl1, rfl, rfl, gz1, He.relAll_ok gh1⟩, by simp [RpL, Rp]⟩⟩
    · simp only [bltAll, bltFns, bltTys, isiTys, List.cons_append, List.nil_append, List.mem_cons, List.not_mem_nil, or_false] at hf
      rcases hf with rfl | rfl | rfl | rfl | rfl | rfl | rfl | rfl | rfl | rfl | rfl | rfl | rfl | rfl | rfl | rfl | rfl | rfl | rfl
      · exact PySem.W.mg_none_of X G' z0
      · exact PySem.W.mg_none_of X G' z1
      · exact PySem.W.mg_none_of X G' z2
      · exact PySem.W.mg_none_of X G' z3
      · exact PySem.W.mg_none_of X G' z4
      · exact PySem.W.mg_none_of X G' z5
      · exact PySem.W.mg_none_of X G' z6
      · exact PySem.W.mg_none_of X G' z7
      · exact PySem.W.mg_none_of X G' z8
      · exact PySem.W.mg_none_of X G' z9
      · exact PySem.W.mg_none_of X G' z10
      · exact PySem.W.mg_none_of X G' z11
      · exact PySem.W.mg_none_of X G' z12
      · exact PySem.W.mg_none_of X G' z13
      · exact PySem.W.mg_none_of X G' z14
      · exact PySem.W.mg_none_of X G' z15
      · exact PySem.W.mg_none_of X G' z10
      · exact PySem.W.mg_none_of X G' z8
      · exact PySem.W.mg_none_of X G' z9
    · exact PySem.W.mg_of X G' hgcd
  have hl := l20
  have e := hfa.symm.trans (PySem.W.mg_of X G' a20)
  cases e
  refine ⟨PySem.W.fnOf "law" "law" (defArgs (topS 26)) (defBody (topS 26)) (defScope (topS 26)) .none q20 r20 t20 n20 u20 v20, fun s v => .of_eq rfl, fun base hK hG => ?_⟩
  obtain ⟨a', fd', h1, h2, h3, h4⟩ := entry_ok (P := l.prog) (w := w) (base := base) tp tab fs fsOk entsOk 5 ed_law (by simp)
  have e := h1.symm.trans hfa
  cases e
  obtain ⟨oc, od, kV, doc, pm, an, cdv, ct, osl, rfl, lk, hcd⟩ := h2.ex
  have e := lk.symm.trans hl
  cases e
  exact h4
end K80
open PySem PySem.W PyProof.Rows
set_option maxHeartbeats 0 in
theorem PySem.Challenge.cw_chartspec_k80_simplest_fractions_holds : PySem.Challenge.rw_chartspec_k80_simplest_fractions.Holds := by
  w_on; o_law; k_head; (case hw => w_witness2)
  k_fill
  refine Cs.walkG (l := PySem.Challenge.rw_chartspec_k80_simplest_fractions) (n := 63) (k := 5) (x := "_law_script") (C := Cs.callF K80.tab K80.G 5 "law") rfl (by decide) rfl ⟨rfl, by decide, by decide⟩ (fun w h Y => PySem.W.kIn_of Y) ?F (fun ns _ => K80.law_holds ns 0)
  case F =>
    intro w mg fa h KX G' hmg
    refine' K80.all_mk KX G' hmg ?a0 ?l0 ?c0 ?k0 ?a1 ?l1 ?c1 ?k1 ?a2 ?l2 ?c2 ?k2 ?a3 ?l3 ?c3 ?k3 ?a4 ?l4 ?c4 ?k4 ?a5 ?l5 ?c5 ?k5 ?a6 ?l6 ?c6 ?k6 ?a7 ?l7 ?c7 ?k7 ?a8 ?l8 ?c8 ?k8 ?a9 ?l9 ?c9 ?k9 ?a10 ?l10 ?c10 ?k10 ?a11 ?l11 ?c11 ?k11 ?a12 ?l12 ?c12 ?k12 ?a13 ?l13 ?c13 ?k13 ?a14 ?l14 ?c14 ?k14 ?a15 ?l15 ?c15 ?k15 ?a16 ?l16 ?c16 ?k16 ?a17 ?l17 ?c17 ?k17 ?a18 ?l18 ?c18 ?k18 ?a19 ?l19 ?c19 ?k19 ?a20 ?l20 ?c20 ?k20 ?z0 ?z1 ?z2 ?z3 ?z4 ?z5 ?z6 ?z7 ?z8 ?z9 ?z10 ?z11 ?z12 ?z13 ?z14 ?z15 ?ga0 ?gl0 ?gh0 ?gz0 ?ga1 ?gl1 ?gh1 ?gz1 ?hgcd
    (case a0 => k_is)
    (case l0 => k_is)
    (case c0 => k_is)
    (case k0 => k_is)
    (case a1 => k_is)
    (case l1 => k_is)
    (case c1 => k_is)
    (case k1 => k_is)
    (case a2 => k_is)
    (case l2 => k_is)
    (case c2 => k_is)
    (case k2 => k_is)
    (case a3 => k_is)
    (case l3 => k_is)
    (case c3 => k_is)
    (case k3 => k_is)
    (case a4 => k_is)
    (case l4 => k_is)
    (case c4 => k_is)
    (case k4 => k_is)
    (case a5 => k_is)
    (case l5 => k_is)
    (case c5 => k_is)
    (case k5 => k_is)
    (case a6 => k_is)
    (case l6 => k_is)
    (case c6 => k_is)
    (case k6 => k_is)
    (case a7 => k_is)
    (case l7 => k_is)
    (case c7 => k_is)
    (case k7 => k_is)
    (case a8 => k_is)
    (case l8 => k_is)
    (case c8 => k_is)
    (case k8 => k_is)
    (case a9 => k_is)
    (case l9 => k_is)
    (case c9 => k_is)
    (case k9 => k_is)
    (case a10 => k_is)
    (case l10 => k_is)
    (case c10 => k_is)
    (case k10 => k_is)
    (case a11 => k_is)
    (case l11 => k_is)
    (case c11 => k_is)
    (case k11 => k_is)
    (case a12 => k_is)
    (case l12 => k_is)
    (case c12 => k_is)
    (case k12 => k_is)
    (case a13 => k_is)
    (case l13 => k_is)
    (case c13 => k_is)
    (case k13 => k_is)
    (case a14 => k_is)
    (case l14 => k_is)
    (case c14 => k_is)
    (case k14 => k_is)
    (case a15 => k_is)
    (case l15 => k_is)
    (case c15 => k_is)
    (case k15 => k_is)
    (case a16 => k_is)
    (case l16 => k_is)
    (case c16 => k_is)
    (case k16 => k_is)
    (case a17 => k_is)
    (case l17 => k_is)
    (case c17 => k_is)
    (case k17 => k_is)
    (case a18 => k_is)
    (case l18 => k_is)
    (case c18 => k_is)
    (case k18 => k_is)
    (case a19 => k_is)
    (case l19 => k_is)
    (case c19 => k_is)
    (case k19 => k_is)
    (case a20 => k_is)
    (case l20 => k_is)
    (case c20 => k_is)
    (case k20 => k_is)
    (case z0 => k_is)
    (case z1 => k_is)
    (case z2 => k_is)
    (case z3 => k_is)
    (case z4 => k_is)
    (case z5 => k_is)
    (case z6 => k_is)
    (case z7 => k_is)
    (case z8 => k_is)
    (case z9 => k_is)
    (case z10 => k_is)
    (case z11 => k_is)
    (case z12 => k_is)
    (case z13 => k_is)
    (case z14 => k_is)
    (case z15 => k_is)
    (case ga0 => k_is)
    (case gl0 => k_is)
    (case ga1 => k_is)
    (case gl1 => k_is)
    (case hgcd => k_is)
    (case gh0 => decide +kernel)
    (case gz0 => decide +kernel)
    (case gh1 => decide +kernel)
    (case gz1 => decide +kernel)
