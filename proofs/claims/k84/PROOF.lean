import PyProof.Rows.All
import Wide.All
import OpenK.AllK
import Wide.FinOn
import KE.KStateDown
import Lean
import HandS.ForMost
import HandS.Defaults
import HandS.WordsExc
import HandS.Wide
import HandS.Style
import HandS.Conv
import HandS.TupAny
import HandS.TupMul
import HandS.IsInst
import HandS.Codes
import HandS.Head0
import HandS.Head1
import HandS.Head2
import HandS.HeadEnd
import HandS.HeadHook1
import HandS.HeadHook2
import PySem.Challenge.RW_ownmirrors_k84_whole_rows_of_frames_cut
set_option Elab.async false
set_option linter.all false
set_option maxRecDepth 100000
set_option maxHeartbeats 4000000
/-! a data level over the hand layer: what a name holds as plain data, lists that are not shared yet, a hidden part of the heap -/
namespace Dv
open PySem PySem.Spec PyProof.Rows L2

/-- plain data -/
inductive D where
  | non | bl (b : Bool) | int (i : Int) | str (s : Str) | lst (ds : List D) | tup (ds : List D) | raw (v : V)

/-- one heap has all that the other has -/
def Ex (G G' : Hp) : Prop := ∀ a o, G a = some o → G' a = some o
theorem Ex.refl (G : Hp) : Ex G G := fun _ _ h => h
theorem Ex.trans {G H1 H2 : Hp} (a : Ex G H1) (b : Ex H1 H2) : Ex G H2 := fun x o h => b x o (a x o h)

mutual
/-- the value v is the data d, as the heap G has it -/
def Is (K : PySem.W.Frag) (G : Hp) : D → V → Prop
  | .non, v => v = .non
  | .bl b, v => v = .bl b
  | .int i, v => v = .int i
  | .str s, v => v = .str s
  | .lst ds, v => ∃ p vs, v = .ref p ∧ G p = some (.lst vs) ∧ IsA K G ds vs
  | .tup ds, v => ∃ p vs, v = .ref p ∧ SqT K G p vs ∧ IsA K G ds vs
  | .raw w, v => v = w
def IsA (K : PySem.W.Frag) (G : Hp) : List D → List V → Prop
  | [], vs => vs = []
  | d :: ds, vs => ∃ v r, vs = v :: r ∧ Is K G d v ∧ IsA K G ds r
end
theorem exSqT {K : PySem.W.Frag} {G G' : Hp} {a : Addr} {xs : List V} (e : Ex G G') (h : SqT K G a xs) : SqT K G' a xs := by
  rcases h with (h | ⟨o, h⟩) | h
  · exact .inl (.inl (e _ _ h))
  · exact .inl (.inr ⟨o, e _ _ h⟩)
  · exact .inr h
mutual
theorem Is.mono {K : PySem.W.Frag} {G G' : Hp} (e : Ex G G') : ∀ (d : D) (v : V), Is K G d v → Is K G' d v
  | .non, _, h => h
  | .bl _, _, h => h
  | .int _, _, h => h
  | .str _, _, h => h
  | .raw _, _, h => h
  | .lst ds, _, ⟨p, vs, e1, e2, e3⟩ => ⟨p, vs, e1, e _ _ e2, IsA.mono e ds vs e3⟩
  | .tup ds, _, ⟨p, vs, e1, e2, e3⟩ => ⟨p, vs, e1, exSqT e e2, IsA.mono e ds vs e3⟩
theorem IsA.mono {K : PySem.W.Frag} {G G' : Hp} (e : Ex G G') : ∀ (ds : List D) (vs : List V), IsA K G ds vs → IsA K G' ds vs
  | [], _, h => h
  | d :: ds, _, ⟨v, r, e1, e2, e3⟩ => ⟨v, r, e1, Is.mono e d v e2, IsA.mono e ds r e3⟩
end
section
variable {K : PySem.W.Frag} {G : Hp}
theorem IsA.len : ∀ {ds : List D} {vs : List V}, IsA K G ds vs → ds.length = vs.length
  | [], _, h => by rw [show _ = [] from h]; rfl
  | d :: ds, _, ⟨v, r, e1, e2, e3⟩ => by rw [e1, List.length_cons, List.length_cons, IsA.len e3]
theorem IsA.get : ∀ {ds : List D} {vs : List V} {i : Nat} {d : D}, IsA K G ds vs → ds[i]? = some d → ∃ v, vs[i]? = some v ∧ Is K G d v
  | [], _, _, _, _, h => by simp at h
  | d :: ds, _, 0, d', ⟨v, r, e1, e2, e3⟩, h => by
    simp at h; subst h; subst e1; exact ⟨v, rfl, e2⟩
  | d :: ds, _, i + 1, d', ⟨v, r, e1, e2, e3⟩, h => by
    subst e1
    obtain ⟨w, h1, h2⟩ := IsA.get (i := i) e3 (by simpa using h)
    exact ⟨w, by simpa using h1, h2⟩
theorem IsA.append : ∀ {ds es : List D} {vs ws : List V}, IsA K G ds vs → IsA K G es ws → IsA K G (ds ++ es) (vs ++ ws)
  | [], _, _, _, h, h' => by rw [show _ = [] from h]; exact h'
  | d :: ds, es, _, ws, ⟨v, r, e1, e2, e3⟩, h' => ⟨v, r ++ ws, by rw [e1]; rfl, e2, IsA.append e3 h'⟩
theorem IsA.take : ∀ {ds : List D} {vs : List V} (n : Nat), IsA K G ds vs → IsA K G (ds.take n) (vs.take n)
  | _, _, 0, _ => by simp [IsA]
  | [], _, n + 1, h => by rw [show _ = [] from h]; simp [IsA]
  | d :: ds, _, n + 1, ⟨v, r, e1, e2, e3⟩ => ⟨v, r.take n, by rw [e1]; rfl, e2, IsA.take n e3⟩
theorem IsA.drop : ∀ {ds : List D} {vs : List V} (n : Nat), IsA K G ds vs → IsA K G (ds.drop n) (vs.drop n)
  | _, _, 0, h => h
  | [], _, n + 1, h => by rw [show _ = [] from h]; simp [IsA]
  | d :: ds, _, n + 1, ⟨v, r, e1, e2, e3⟩ => by rw [e1]; exact IsA.drop n e3
theorem IsA.set : ∀ {ds : List D} {vs : List V} {d : D} {v : V} (i : Nat), Is K G d v → IsA K G ds vs → IsA K G (ds.set i d) (vs.set i v)
  | [], _, _, _, _, _, h => by rw [show _ = [] from h]; simp [IsA]
  | _ :: ds, _, d, v, 0, h0, ⟨w, r, e1, e2, e3⟩ => by rw [e1]; exact ⟨v, r, rfl, h0, e3⟩
  | d' :: ds, _, d, v, i + 1, h0, ⟨w, r, e1, e2, e3⟩ => by rw [e1]; exact ⟨w, r.set i v, rfl, e2, IsA.set i h0 e3⟩
theorem IsA.reverse : ∀ {ds : List D} {vs : List V}, IsA K G ds vs → IsA K G ds.reverse vs.reverse
  | [], _, h => by rw [show _ = [] from h]; simp [IsA]
  | d :: ds, _, ⟨v, r, e1, e2, e3⟩ => by
    rw [e1, List.reverse_cons, List.reverse_cons]
    exact IsA.append (IsA.reverse e3) ⟨v, [], rfl, e2, rfl⟩
theorem IsA.one {d : D} {v : V} (h : Is K G d v) : IsA K G [d] [v] := ⟨v, [], rfl, h, rfl⟩
theorem IsA.flatten_rep {ds : List D} {vs : List V} (h : IsA K G ds vs) : ∀ n : Nat, IsA K G (List.replicate n ds).flatten (List.replicate n vs).flatten
  | 0 => by simp [IsA]
  | n + 1 => by
    rw [List.replicate_succ, List.replicate_succ, List.flatten_cons, List.flatten_cons]
    exact IsA.append h (IsA.flatten_rep h n)
theorem isA_ints : ∀ {ns : List Int} {vs : List V}, IsA K G (ns.map D.int) vs → vs = ns.map V.int
  | [], _, h => h
  | n :: ns, _, ⟨v, r, e1, e2, e3⟩ => by
    rw [e1, isA_ints e3, show v = V.int n from e2]; rfl
theorem ints_isA : ∀ (ns : List Int), IsA K G (ns.map D.int) (ns.map V.int)
  | [] => rfl
  | n :: ns => ⟨_, _, rfl, rfl, ints_isA ns⟩
/-- data without places -/
def D.scal : D → Bool
  | .non | .bl _ | .int _ | .str _ | .raw _ => true
  | _ => false
theorem Is.scal {G' : Hp} {d : D} {v : V} (h : Is K G d v) (s : d.scal = true) : Is K G' d v := by
  cases d <;> first | exact h | cases s
theorem IsA.scal {G' : Hp} : ∀ {ds : List D} {vs : List V}, IsA K G ds vs → ds.all D.scal = true → IsA K G' ds vs
  | [], _, h, _ => h
  | d :: ds, _, ⟨v, r, e1, e2, e3⟩, s => by
    rw [List.all_cons, Bool.and_eq_true] at s
    exact ⟨v, r, e1, Is.scal e2 s.1, IsA.scal e3 s.2⟩
theorem all_scal_ints (ns : List Int) : (ns.map D.int).all D.scal = true := by
  induction ns with
  | nil => rfl
  | cons n ns ih => rw [List.map_cons, List.all_cons, ih] <;> rfl
end

/-! ### the hidden part -/
/-- addresses that the rest does not see, and what holds of them -/
structure Reg where
  own : Addr → Prop
  ok : Hp → Prop
  loc : ∀ H H', (∀ b, own b → H' b = H b) → ok H → ok H'
  used : ∀ H b, ok H → own b → H b ≠ none
/-- lists that are not shared: their addresses and items -/
abbrev Cl := Addr → Option (List V)
def Cl.put (C : Cl) (p : Addr) (vs : List V) : Cl := fun b => if b = p then some vs else C b
def Cl.rem (C : Cl) (p : Addr) : Cl := fun b => if b = p then none else C b
abbrev Cl.nil : Cl := fun _ => none
theorem Cl.put_same {C : Cl} {p : Addr} {vs : List V} : C.put p vs p = some vs := by unfold Cl.put; rw [if_pos rfl]
theorem Cl.put_ne {C : Cl} {p b : Addr} {vs : List V} (h : b ≠ p) : C.put p vs b = C b := by unfold Cl.put; rw [if_neg h]
theorem Cl.rem_same {C : Cl} {p : Addr} : C.rem p p = none := by unfold Cl.rem; rw [if_pos rfl]
theorem Cl.rem_ne {C : Cl} {p b : Addr} (h : b ≠ p) : C.rem p b = C b := by unfold Cl.rem; rw [if_neg h]
open Classical in
noncomputable def hid (r : Reg) (C : Cl) (H : Hp) : Hp := fun b => if r.own b ∨ C b ≠ none then none else H b
theorem hid_some {r : Reg} {C : Cl} {H : Hp} {b : Addr} {o : HO} (h : hid r C H b = some o) : H b = some o ∧ ¬ r.own b ∧ C b = none := by
  unfold hid at h
  by_cases c : r.own b ∨ C b ≠ none
  · rw [if_pos c] at h; cases h
  · rw [if_neg c] at h
    refine ⟨h, fun z => c (.inl z), ?_⟩
    cases e : C b with
    | none => rfl
    | some x => exact absurd (.inr (by rw [e]; intro z; cases z)) c
theorem hid_of {r : Reg} {C : Cl} {H : Hp} {b : Addr} {o : HO} (h : H b = some o) (h1 : ¬ r.own b) (h2 : C b = none) : hid r C H b = some o := by
  unfold hid
  rw [if_neg (by rintro (z | z); exact h1 z; exact z h2)]
  exact h
theorem hid_ex (r : Reg) (C : Cl) (H : Hp) : Ex (hid r C H) H := fun _ _ h => (hid_some h).1
structure Okc (r : Reg) (C : Cl) (H : Hp) : Prop where
  rok : r.ok H
  cel : ∀ p vs, C p = some vs → H p = some (.lst vs)
  sep : ∀ p, C p ≠ none → ¬ r.own p
section
variable {r : Reg} {C : Cl} {H H' : Hp} {p : Addr} {o : HO}
theorem Okc.own_ne (k : Okc r C H) (hp : H p = none) : ¬ r.own p := fun z => k.1 |> fun q => r.used H p q z hp
theorem Okc.cel_ne (k : Okc r C H) (hp : H p = none) : C p = none := by
  cases e : C p with
  | none => rfl
  | some vs => rw [k.cel p vs e] at hp; cases hp
/-- what changes or adds things elsewhere keeps the hidden part -/
theorem Okc.keep (k : Okc r C H) (e : ∀ b, (r.own b ∨ C b ≠ none) → H' b = H b) : Okc r C H' :=
  ⟨r.loc H H' (fun b hb => e b (.inl hb)) k.rok, fun q vs hq => by rw [e q (.inr (by rw [hq]; intro z; cases z))]; exact k.cel q vs hq, k.sep⟩
theorem Okc.new (k : Okc r C H) (hp : H p = none) : Okc r C (upd H p o) ∧ Ex (hid r C H) (hid r C (upd H p o)) ∧ hid r C (upd H p o) p = some o := by
  have n1 := k.own_ne hp
  have n2 := k.cel_ne hp
  refine ⟨k.keep fun b hb => upd_ne fun z => ?_, fun b u hb => ?_, hid_of upd_same n1 n2⟩
  · subst z
    rcases hb with hb | hb
    · exact n1 hb
    · exact hb n2
  · obtain ⟨h1, h2, h3⟩ := hid_some hb
    exact hid_of (by rw [upd_ne (ne_of_none h1 hp)]; exact h1) h2 h3
theorem Okc.fresh (k : Okc r C H) (hp : H p = none) : hid r C H p = none := by
  cases e : hid r C H p with
  | none => rfl
  | some u => rw [(hid_some e).1] at hp; cases hp
end

/-! ### what the names hold -/
inductive Sl where
  | no | val (d : D) | own (ds : List D)
abbrev Gm := List Sl
structure At (K : PySem.W.Frag) (r : Reg) (B : Hp) (Γ : Gm) (σ : L2.St) (C : Cl) (H : Hp) : Prop where
  ok : Okc r C H
  ext : Ex B (hid r C H)
  len : σ.length = Γ.length
  val : ∀ (i : Nat) (d : D), Γ[i]? = some (.val d) → ∃ v, σ[i]? = some (some v) ∧ Is K (hid r C H) d v
  own : ∀ (i : Nat) (ds : List D), Γ[i]? = some (.own ds) → ∃ (p : Addr) (vs : List V), σ[i]? = some (some (V.ref p)) ∧ C p = some vs ∧ IsA K (hid r C H) ds vs
  inj : ∀ (i j : Nat) (ds es : List D) (p : Addr), i ≠ j → Γ[i]? = some (.own ds) → Γ[j]? = some (.own es) → σ[i]? = some (some (.ref p)) → σ[j]? ≠ some (some (.ref p))
section
variable {K : PySem.W.Frag} {r : Reg} {B B' : Hp} {Γ Γ' : Gm} {σ σ' : L2.St} {C C' : Cl} {H H' : Hp}
theorem At.step (a : At K r B Γ σ C H) (k : Okc r C H') (e : Ex (hid r C H) (hid r C H')) : At K r B Γ σ C H' :=
  ⟨k, a.ext.trans e, a.len, fun i d h => by obtain ⟨v, h1, h2⟩ := a.val i d h; exact ⟨v, h1, Is.mono e _ _ h2⟩,
    fun i ds h => by obtain ⟨p, vs, h1, h2, h3⟩ := a.own i ds h; exact ⟨p, vs, h1, h2, IsA.mono e _ _ h3⟩, a.inj⟩
theorem At.base (a : At K r B Γ σ C H) (e : Ex B' (hid r C H)) : At K r B' Γ σ C H := ⟨a.ok, e, a.len, a.val, a.own, a.inj⟩
theorem At.rebase (a : At K r B Γ σ C H) : At K r (hid r C H) Γ σ C H := a.base (Ex.refl _)
/-- a name is forgotten, or known less -/
def Wk (Γ Γ' : Gm) : Prop := Γ'.length = Γ.length ∧ ∀ (i : Nat) (s : Sl), Γ'[i]? = some s → s = .no ∨ Γ[i]? = some s
theorem Wk.refl (Γ : Gm) : Wk Γ Γ := ⟨rfl, fun _ _ h => .inr h⟩
theorem At.weak (a : At K r B Γ σ C H) (w : Wk Γ Γ') : At K r B Γ' σ C H := by
  refine ⟨a.ok, a.ext, by rw [w.1]; exact a.len, fun i d h => ?_, fun i ds h => ?_, fun i j ds es p ne h1 h2 => ?_⟩
  · rcases w.2 i _ h with e | e
    · cases e
    · exact a.val i d e
  · rcases w.2 i _ h with e | e
    · cases e
    · exact a.own i ds e
  · rcases w.2 i _ h1 with e | e
    · cases e
    · rcases w.2 j _ h2 with e' | e'
      · cases e'
      · exact a.inj i j ds es p ne e e'
/-- a name is stored -/
theorem At.set (a : At K r B Γ σ C H) (i : Nat) {d : D} {v : V} (hv : Is K (hid r C H) d v) : At K r B (Γ.set i (.val d)) (σ.set i (some v)) C H := by
  refine ⟨a.ok, a.ext, by rw [List.length_set, List.length_set]; exact a.len, fun j d' h => ?_, fun j ds h => ?_, fun j l ds es p ne h1 h2 => ?_⟩
  · by_cases e : i = j
    · subst e
      have hl : i < Γ.length := by
        have := (List.getElem?_eq_some_iff.mp h).1; simpa using this
      rw [List.getElem?_set_self hl] at h
      cases h
      exact ⟨v, List.getElem?_set_self (by rw [a.len]; exact hl), hv⟩
    · rw [List.getElem?_set_ne e] at h
      obtain ⟨w, h1, h2⟩ := a.val j d' h
      exact ⟨w, by rw [List.getElem?_set_ne e]; exact h1, h2⟩
  · by_cases e : i = j
    · subst e
      have hl : i < Γ.length := by
        have := (List.getElem?_eq_some_iff.mp h).1; simpa using this
      rw [List.getElem?_set_self hl] at h; cases h
    · rw [List.getElem?_set_ne e] at h
      obtain ⟨p, vs, h1, h2, h3⟩ := a.own j ds h
      exact ⟨p, vs, by rw [List.getElem?_set_ne e]; exact h1, h2, h3⟩
  · have ej : i ≠ j := fun e => by
      subst e
      have hl : i < Γ.length := by
        have := (List.getElem?_eq_some_iff.mp h1).1; simpa using this
      rw [List.getElem?_set_self hl] at h1; cases h1
    have el : i ≠ l := fun e => by
      subst e
      have hl : i < Γ.length := by
        have := (List.getElem?_eq_some_iff.mp h2).1; simpa using this
      rw [List.getElem?_set_self hl] at h2; cases h2
    rw [List.getElem?_set_ne ej] at h1
    rw [List.getElem?_set_ne el] at h2
    rw [List.getElem?_set_ne ej, List.getElem?_set_ne el]
    exact a.inj j l ds es p ne h1 h2
/-- a name is stored, of which nothing is said -/
theorem At.setNo (a : At K r B Γ σ C H) (i : Nat) (o : Option V) : At K r B (Γ.set i .no) (σ.set i o) C H := by
  have nn : ∀ {j : Nat} {s : Sl}, (Γ.set i .no)[j]? = some s → s ≠ .no → i ≠ j ∧ Γ[j]? = some s := fun {j s} h hs => by
    by_cases e : i = j
    · subst e
      have hl : i < Γ.length := by
        have := (List.getElem?_eq_some_iff.mp h).1; simpa using this
      rw [List.getElem?_set_self hl] at h; cases h; exact absurd rfl hs
    · exact ⟨e, by rw [List.getElem?_set_ne e] at h; exact h⟩
  refine ⟨a.ok, a.ext, by rw [List.length_set, List.length_set]; exact a.len, fun j d' h => ?_, fun j ds h => ?_, fun j l ds es p ne h1 h2 => ?_⟩
  · obtain ⟨e, h⟩ := nn h (by intro z; cases z)
    obtain ⟨w, h1, h2⟩ := a.val j d' h
    exact ⟨w, by rw [List.getElem?_set_ne e]; exact h1, h2⟩
  · obtain ⟨e, h⟩ := nn h (by intro z; cases z)
    obtain ⟨p, vs, h1, h2, h3⟩ := a.own j ds h
    exact ⟨p, vs, by rw [List.getElem?_set_ne e]; exact h1, h2, h3⟩
  · obtain ⟨e1, h1⟩ := nn h1 (by intro z; cases z)
    obtain ⟨e2, h2⟩ := nn h2 (by intro z; cases z)
    rw [List.getElem?_set_ne e1, List.getElem?_set_ne e2]
    exact a.inj j l ds es p ne h1 h2
/-- a list that is not shared yet is seen from now on -/
theorem At.thaw (a : At K r B Γ σ C H) {i : Nat} {ds : List D} (h : Γ[i]? = some (.own ds)) : ∃ p vs, σ[i]? = some (some (.ref p)) ∧ C p = some vs ∧ Ex (hid r C H) (hid r (C.rem p) H) ∧ At K r B (Γ.set i (.val (.lst ds))) σ (C.rem p) H := by
  obtain ⟨p, vs, h1, h2, h3⟩ := a.own i ds h
  have hl : i < Γ.length := (List.getElem?_eq_some_iff.mp h).1
  have ok' : Okc r (C.rem p) H := ⟨a.ok.rok, fun q ws hq => by
      by_cases e : q = p
      · subst e; rw [Cl.rem_same] at hq; cases hq
      · rw [Cl.rem_ne e] at hq; exact a.ok.cel q ws hq, fun q hq => by
      by_cases e : q = p
      · subst e; rw [Cl.rem_same] at hq; exact absurd rfl hq
      · rw [Cl.rem_ne e] at hq; exact a.ok.sep q hq⟩
  have ex : Ex (hid r C H) (hid r (C.rem p) H) := fun b o hb => by
    obtain ⟨q1, q2, q3⟩ := hid_some hb
    refine hid_of q1 q2 ?_
    by_cases e : b = p
    · subst e; exact Cl.rem_same
    · rw [Cl.rem_ne e]; exact q3
  have hp : hid r (C.rem p) H p = some (.lst vs) := hid_of (a.ok.cel p vs h2) (a.ok.sep p (by rw [h2]; intro z; cases z)) Cl.rem_same
  refine ⟨p, vs, h1, h2, ex, ok', a.ext.trans ex, by rw [List.length_set]; exact a.len, fun j d' hj => ?_, fun j es hj => ?_, fun j l ds' es q ne hj hl' => ?_⟩
  · by_cases e : i = j
    · subst e
      rw [List.getElem?_set_self hl] at hj
      cases hj
      exact ⟨_, h1, p, vs, rfl, hp, IsA.mono ex _ _ h3⟩
    · rw [List.getElem?_set_ne e] at hj
      obtain ⟨w, q1, q2⟩ := a.val j d' hj
      exact ⟨w, q1, Is.mono ex _ _ q2⟩
  · by_cases e : i = j
    · subst e
      rw [List.getElem?_set_self hl] at hj; cases hj
    · rw [List.getElem?_set_ne e] at hj
      obtain ⟨q, ws, q1, q2, q3⟩ := a.own j es hj
      have ne : q ≠ p := fun z => by subst z; exact a.inj i j ds es q e h hj h1 q1
      exact ⟨q, ws, q1, by rw [Cl.rem_ne ne]; exact q2, IsA.mono ex _ _ q3⟩
  · have ej : i ≠ j := fun e => by subst e; rw [List.getElem?_set_self hl] at hj; cases hj
    have el : i ≠ l := fun e => by subst e; rw [List.getElem?_set_self hl] at hl'; cases hl'
    rw [List.getElem?_set_ne ej] at hj
    rw [List.getElem?_set_ne el] at hl'
    exact a.inj j l ds' es q ne hj hl'
/-- a new list, not shared, is stored at a name -/
theorem At.setOwn (a : At K r B Γ σ C H) (i : Nat) {p : Addr} {ds : List D} {vs : List V} (hp : H p = none) (k : Okc r (C.put p vs) H') (e : Ex (hid r C H) (hid r (C.put p vs) H')) (hv : IsA K (hid r (C.put p vs) H') ds vs) :
    At K r B (Γ.set i (.own ds)) (σ.set i (some (.ref p))) (C.put p vs) H' := by
  have np : ∀ (j : Nat) (es : List D) (q : Addr), Γ[j]? = some (.own es) → σ[j]? = some (some (.ref q)) → q ≠ p := fun j es q hj hq z => by
    subst z
    obtain ⟨q', ws, h1, h2, _⟩ := a.own j es hj
    rw [hq] at h1
    cases h1
    rw [a.ok.cel _ _ h2] at hp; cases hp
  refine ⟨k, a.ext.trans e, by rw [List.length_set, List.length_set]; exact a.len, fun j d' h => ?_, fun j es h => ?_, fun j l es fs q ne h1 h2 => ?_⟩
  · by_cases ej : i = j
    · subst ej
      have hl : i < Γ.length := by
        have := (List.getElem?_eq_some_iff.mp h).1; simpa using this
      rw [List.getElem?_set_self hl] at h; cases h
    · rw [List.getElem?_set_ne ej] at h
      obtain ⟨w, h1, h2⟩ := a.val j d' h
      exact ⟨w, by rw [List.getElem?_set_ne ej]; exact h1, Is.mono e _ _ h2⟩
  · by_cases ej : i = j
    · subst ej
      have hl : i < Γ.length := by
        have := (List.getElem?_eq_some_iff.mp h).1; simpa using this
      rw [List.getElem?_set_self hl] at h
      cases h
      exact ⟨p, vs, List.getElem?_set_self (by rw [a.len]; exact hl), Cl.put_same, hv⟩
    · rw [List.getElem?_set_ne ej] at h
      obtain ⟨q, ws, h1, h2, h3⟩ := a.own j es h
      exact ⟨q, ws, by rw [List.getElem?_set_ne ej]; exact h1, by rw [Cl.put_ne (np j es q h h1)]; exact h2, IsA.mono e _ _ h3⟩
  · by_cases ej : i = j
    · subst ej
      have el : i ≠ l := ne
      have hl : i < Γ.length := by
        have := (List.getElem?_eq_some_iff.mp h1).1; simpa using this
      rw [List.getElem?_set_ne el] at h2
      rw [List.getElem?_set_self (by rw [a.len]; exact hl), List.getElem?_set_ne el]
      intro hq hl2
      cases hq
      exact np l fs p h2 hl2 rfl
    · rw [List.getElem?_set_ne ej] at h1
      rw [List.getElem?_set_ne ej]
      by_cases el : i = l
      · subst el
        have hl : i < Γ.length := by
          have := (List.getElem?_eq_some_iff.mp h2).1; simpa using this
        rw [List.getElem?_set_self (by rw [a.len]; exact hl)]
        intro hq hl2
        cases hl2
        exact np j es p h1 hq rfl
      · rw [List.getElem?_set_ne el] at h2
        rw [List.getElem?_set_ne el]
        exact a.inj j l es fs q ne h1 h2
/-- a list that is not shared changes -/
theorem At.change (a : At K r B Γ σ C H) {i : Nat} {ds es : List D} {p : Addr} {ws : List V} (h : Γ[i]? = some (.own ds)) (hp : σ[i]? = some (some (.ref p))) (hw : IsA K (hid r C H) es ws) :
    At K r B (Γ.set i (.own es)) σ (C.put p ws) (upd H p (.lst ws)) := by
  obtain ⟨p', vs, h1, h2, h3⟩ := a.own i ds h
  rw [hp] at h1
  cases h1
  have hl : i < Γ.length := (List.getElem?_eq_some_iff.mp h).1
  have nown : ¬ r.own p := a.ok.sep p (by rw [h2]; intro z; cases z)
  have eh : hid r (C.put p ws) (upd H p (.lst ws)) = hid r C H := by
    funext b
    unfold hid
    by_cases e : b = p
    · subst e
      rw [if_pos (.inr (by rw [Cl.put_same]; intro z; cases z)), if_pos (.inr (by rw [h2]; intro z; cases z))]
    · rw [Cl.put_ne e, upd_ne e]
  have ok' : Okc r (C.put p ws) (upd H p (.lst ws)) := ⟨r.loc H _ (fun b hb => upd_ne fun z => by subst z; exact nown hb) a.ok.rok, fun q us hq => by
      by_cases e : q = p
      · subst e; rw [Cl.put_same] at hq; cases hq; exact upd_same
      · rw [Cl.put_ne e] at hq; rw [upd_ne e]; exact a.ok.cel q us hq, fun q hq => by
      by_cases e : q = p
      · subst e; exact nown
      · rw [Cl.put_ne e] at hq; exact a.ok.sep q hq⟩
  refine ⟨ok', by rw [eh]; exact a.ext, by rw [List.length_set]; exact a.len, fun j d' hj => ?_, fun j fs hj => ?_, fun j l fs gs q ne hj hl' => ?_⟩
  · rw [eh]
    by_cases e : i = j
    · subst e; rw [List.getElem?_set_self hl] at hj; cases hj
    · rw [List.getElem?_set_ne e] at hj; exact a.val j d' hj
  · rw [eh]
    by_cases e : i = j
    · subst e
      rw [List.getElem?_set_self hl] at hj
      cases hj
      exact ⟨p, ws, hp, Cl.put_same, hw⟩
    · rw [List.getElem?_set_ne e] at hj
      obtain ⟨q, us, q1, q2, q3⟩ := a.own j fs hj
      have nq : q ≠ p := fun z => by subst z; exact a.inj i j ds fs q e h hj hp q1
      exact ⟨q, us, q1, by rw [Cl.put_ne nq]; exact q2, q3⟩
  · have own' : ∀ {m : Nat} {xs : List D}, (Γ.set i (.own es))[m]? = some (.own xs) → ∃ ys, Γ[m]? = some (.own ys) := fun {m xs} hm => by
      by_cases e : i = m
      · subst e; exact ⟨ds, h⟩
      · rw [List.getElem?_set_ne e] at hm; exact ⟨xs, hm⟩
    obtain ⟨y1, g1⟩ := own' hj
    obtain ⟨y2, g2⟩ := own' hl'
    exact a.inj j l y1 y2 q ne g1 g2
end
end Dv

set_option Elab.async false
set_option linter.all false
set_option maxRecDepth 100000
set_option maxHeartbeats 4000000
/-! expressions at the data level -/
namespace Dv
open PySem PySem.Spec PyProof.Rows L2

/-- where one stands: contexts that agree in all that the rules ask -/
structure Kx where
  K : PySem.W.Frag
  mg : Str → Option Value
  N : List Str
  sc : Scope
  fn : Str → Bool
  lv : Nat
  F : Cx → Prop
  all : ∀ X, F X → X.K = K ∧ X.mg = mg ∧ X.N = N ∧ X.env.scope = sc ∧ X.fn = fn ∧ X.calm = true ∧ Room lv X.A ∧ N.Nodup ∧ X.xe = fun _ _ => False
section
variable {κ : Kx}
theorem Kx.hK {X : Cx} (h : κ.F X) : X.K = κ.K := (κ.all X h).1
theorem Kx.hmg {X : Cx} (h : κ.F X) : X.mg = κ.mg := (κ.all X h).2.1
theorem Kx.hN {X : Cx} (h : κ.F X) : X.N = κ.N := (κ.all X h).2.2.1
theorem Kx.hsc {X : Cx} (h : κ.F X) : X.env.scope = κ.sc := (κ.all X h).2.2.2.1
theorem Kx.hfn {X : Cx} (h : κ.F X) : X.fn = κ.fn := (κ.all X h).2.2.2.2.1
theorem Kx.calm {X : Cx} (h : κ.F X) : X.calm = true := (κ.all X h).2.2.2.2.2.1
theorem Kx.room {X : Cx} (h : κ.F X) : Room κ.lv X.A := (κ.all X h).2.2.2.2.2.2.1
theorem Kx.nd {X : Cx} (h : κ.F X) : κ.N.Nodup := (κ.all X h).2.2.2.2.2.2.2.1
theorem Kx.hxe {X : Cx} (h : κ.F X) : X.xe = fun _ _ => False := (κ.all X h).2.2.2.2.2.2.2.2
theorem Kx.passes {X : Cx} (h : κ.F X) : PassesOwn (model X.prog X.w) X.A X.env X.xe := by rw [Kx.hxe h]; exact PassesOwn.never
end
/-! ### the canonical readings -/
def xe (κ : Kx) (e : Expr) : TE := fun σ H Q => ∃ t, (∀ X, κ.F X → PE X e t) ∧ t σ H Q
def xt (κ : Kx) (e : Expr) : TT := fun σ H Q => ∃ t, (∀ X, κ.F X → PT X e t) ∧ t σ H Q
def xa (κ : Kx) (es : List Expr) : TA := fun σ H Q => ∃ t, (∀ X, κ.F X → PA X es t) ∧ t σ H Q
def xo (κ : Kx) (e : Option Expr) : TO := fun σ H Q => ∃ t, (∀ X, κ.F X → PO X e t) ∧ t σ H Q
def xi (κ : Kx) (tg iter : Expr) : TI := fun σ H R => ∃ t, (∀ X, κ.F X → PI X tg iter t) ∧ t σ H R
def xs (κ : Kx) (st : Stmt) : TS := fun D σ H => ∃ t, (∀ X, κ.F X → PS X st t) ∧ t D σ H
def xss (κ : Kx) (st : List Stmt) : TS := fun D σ H => ∃ t, (∀ X, κ.F X → PSs X st t) ∧ t D σ H
section
variable {κ : Kx} {X : Cx}
theorem xe_ok (e : Expr) (h : κ.F X) : PE X e (xe κ e) := ⟨fun pins s σ H Q I ⟨t, p, q⟩ => (p X h).run pins s σ H Q I q⟩
theorem xt_ok (e : Expr) (h : κ.F X) : PT X e (xt κ e) := ⟨fun pins s σ H Q I ⟨t, p, q⟩ => (p X h).run pins s σ H Q I q⟩
theorem xa_ok (e : List Expr) (h : κ.F X) : PA X e (xa κ e) := ⟨fun pos pins s σ H Q I ⟨t, p, q⟩ => (p X h).run pos pins s σ H Q I q⟩
theorem xo_ok (e : Option Expr) (h : κ.F X) : PO X e (xo κ e) := ⟨fun pins s σ H Q I ⟨t, p, q⟩ => (p X h).run pins s σ H Q I q⟩
theorem xi_ok (tg e : Expr) (h : κ.F X) : PI X tg e (xi κ tg e) := ⟨fun pins s σ H R I ⟨t, p, q⟩ => (p X h).run pins s σ H R I q⟩
theorem xs_ok (e : Stmt) (h : κ.F X) : PS X e (xs κ e) := ⟨fun pins s σ H D I ⟨t, p, q⟩ => (p X h).run pins s σ H D I q⟩
theorem xss_ok (e : List Stmt) (h : κ.F X) : PSs X e (xss κ e) := ⟨fun pins s σ H D I ⟨t, p, q⟩ => (p X h).run pins s σ H D I q⟩
end
/-! ### judgements: from the names' data Γ, k holds of what comes -/
def Pe (κ : Kx) (r : Reg) (e : Expr) (Γ : Gm) (k : D → Prop) : Prop := ∀ B σ C H, At κ.K r B Γ σ C H → ∀ Q : VK,
  (∀ d v H', k d → At κ.K r B Γ σ C H' → Ex (hid r C H) (hid r C H') → Is κ.K (hid r C H') d v → Q v H') → xe κ e σ H Q
def Pt (κ : Kx) (r : Reg) (e : Expr) (Γ : Gm) (k : Bool → Prop) : Prop := ∀ B σ C H, At κ.K r B Γ σ C H → ∀ Q : Bool → Hp → Prop,
  (∀ b H', k b → At κ.K r B Γ σ C H' → Ex (hid r C H) (hid r C H') → Q b H') → xt κ e σ H Q
def Pa (κ : Kx) (r : Reg) (es : List Expr) (Γ : Gm) (k : List D → Prop) : Prop := ∀ B σ C H, At κ.K r B Γ σ C H → ∀ Q : List V → Hp → Prop,
  (∀ ds vs H', k ds → At κ.K r B Γ σ C H' → Ex (hid r C H) (hid r C H') → IsA κ.K (hid r C H') ds vs → Q vs H') → xa κ es σ H Q
def Po (κ : Kx) (r : Reg) (e : Option Expr) (Γ : Gm) (k : Option Int → Prop) : Prop := ∀ B σ C H, At κ.K r B Γ σ C H → ∀ Q : Option Int → Hp → Prop,
  (∀ o H', k o → At κ.K r B Γ σ C H' → Ex (hid r C H) (hid r C H') → Q o H') → xo κ e σ H Q
/-- a new list comes -/
def Pn (κ : Kx) (r : Reg) (e : Expr) (Γ : Gm) (k : List D → Prop) : Prop := ∀ B σ C H, At κ.K r B Γ σ C H → ∀ Q : VK,
  (∀ ds p vs H', k ds → H p = none → Okc r (C.put p vs) H' → Ex (hid r C H) (hid r (C.put p vs) H') → IsA κ.K (hid r (C.put p vs) H') ds vs → Q (.ref p) H') → xe κ e σ H Q
abbrev De (κ : Kx) (r : Reg) (e : Expr) (Γ : Gm) (d : D) : Prop := Pe κ r e Γ (fun x => x = d)
abbrev Dt (κ : Kx) (r : Reg) (e : Expr) (Γ : Gm) (b : Bool) : Prop := Pt κ r e Γ (fun x => x = b)
abbrev Da (κ : Kx) (r : Reg) (es : List Expr) (Γ : Gm) (ds : List D) : Prop := Pa κ r es Γ (fun x => x = ds)
abbrev Dn (κ : Kx) (r : Reg) (e : Expr) (Γ : Gm) (ds : List D) : Prop := Pn κ r e Γ (fun x => x = ds)
/-- an operation by values -/
def Op2 (K : PySem.W.Frag) (rr : R2) (x y : D) (k : D → Prop) : Prop := ∀ (r : Reg) (C : Cl) (H : Hp) (v w : V), Okc r C H → Is K (hid r C H) x v → Is K (hid r C H) y w → ∀ Q : VK,
  (∀ d u H', k d → Okc r C H' → Ex (hid r C H) (hid r C H') → Is K (hid r C H') d u → Q u H') → rr v w H Q
/-- a new list by values -/
def Op2n (K : PySem.W.Frag) (rr : R2) (x y : D) (k : List D → Prop) : Prop := ∀ (r : Reg) (C : Cl) (H : Hp) (v w : V), Okc r C H → Is K (hid r C H) x v → Is K (hid r C H) y w → ∀ Q : VK,
  (∀ ds vs, k ds → IsA K (hid r C H) ds vs → ∀ p, H p = none → Q (.ref p) (upd H p (.lst vs))) → rr v w H Q
def OpN (K : PySem.W.Frag) (rr : List V → Hp → VK → Prop) (xs : List D) (k : D → Prop) : Prop := ∀ (r : Reg) (C : Cl) (H : Hp) (vs : List V), Okc r C H → IsA K (hid r C H) xs vs → ∀ Q : VK,
  (∀ d u H', k d → Okc r C H' → Ex (hid r C H) (hid r C H') → Is K (hid r C H') d u → Q u H') → rr vs H Q
def OpNn (K : PySem.W.Frag) (rr : List V → Hp → VK → Prop) (xs : List D) (k : List D → Prop) : Prop := ∀ (r : Reg) (C : Cl) (H : Hp) (vs : List V), Okc r C H → IsA K (hid r C H) xs vs → ∀ Q : VK,
  (∀ ds us, k ds → IsA K (hid r C H) ds us → ∀ p, H p = none → Q (.ref p) (upd H p (.lst us))) → rr vs H Q
section
variable {κ : Kx} {r : Reg} {Γ Γ' : Gm} {e a b : Expr} {es : List Expr} {k k' ka kb : D → Prop} {x : Str} {pos p : Pos}
theorem Pe.imp (h : Pe κ r e Γ k) (i : ∀ d, k d → k' d) : Pe κ r e Γ k' := fun B σ C H at_ Q q => h B σ C H at_ Q fun d v H' kd => q d v H' (i d kd)
theorem Pt.imp {k k' : Bool → Prop} (h : Pt κ r e Γ k) (i : ∀ d, k d → k' d) : Pt κ r e Γ k' := fun B σ C H at_ Q q => h B σ C H at_ Q fun d H' kd => q d H' (i d kd)
theorem Pa.imp {k k' : List D → Prop} (h : Pa κ r es Γ k) (i : ∀ d, k d → k' d) : Pa κ r es Γ k' := fun B σ C H at_ Q q => h B σ C H at_ Q fun d v H' kd => q d v H' (i d kd)
theorem Pn.imp {k k' : List D → Prop} (h : Pn κ r e Γ k) (i : ∀ d, k d → k' d) : Pn κ r e Γ k' := fun B σ C H at_ Q q => h B σ C H at_ Q fun d p v H' kd => q d p v H' (i d kd)
theorem De.to {d d' : D} (h : De κ r e Γ d) (i : d = d') : De κ r e Γ d' := i ▸ h
theorem Dt.to {d d' : Bool} (h : Dt κ r e Γ d) (i : d = d') : Dt κ r e Γ d' := i ▸ h
theorem Dn.to {d d' : List D} (h : Dn κ r e Γ d) (i : d = d') : Dn κ r e Γ d' := i ▸ h
/-- a new list is data -/
theorem put_seen {r : Reg} {C : Cl} {H : Hp} {p : Addr} {vs : List V} (hc : C p = none) (k : Okc r (C.put p vs) H) : Okc r C H ∧ Ex (hid r (C.put p vs) H) (hid r C H) ∧ hid r C H p = some (.lst vs) := by
  refine ⟨⟨k.rok, fun q us hq => k.cel q us (by rw [Cl.put_ne (fun z => by subst z; rw [hc] at hq; cases hq)]; exact hq), fun q hq => k.sep q (by rw [Cl.put_ne (fun z => by subst z; exact hq hc)]; exact hq)⟩, fun b o hb => ?_, hid_of (k.cel p vs Cl.put_same) (k.sep p (by rw [Cl.put_same]; intro z; cases z)) hc⟩
  obtain ⟨h1, h2, h3⟩ := hid_some hb
  refine hid_of h1 h2 ?_
  by_cases e : b = p
  · subst e; exact hc
  · rw [Cl.put_ne e] at h3; exact h3
theorem Pn.pe {k : List D → Prop} (h : Pn κ r e Γ k) : Pe κ r e Γ (fun d => ∃ ds, d = .lst ds ∧ k ds) := fun B σ C H at_ Q q =>
  h B σ C H at_ Q fun ds p vs H' kd np ok ex is => by
    obtain ⟨o1, o2, o3⟩ := put_seen (at_.ok.cel_ne np) ok
    exact q (.lst ds) _ H' ⟨ds, rfl, kd⟩ (at_.step o1 (ex.trans o2)) (ex.trans o2) ⟨p, vs, rfl, o3, IsA.mono o2 _ _ is⟩
theorem Dn.de {ds : List D} (h : Dn κ r e Γ ds) : De κ r e Γ (.lst ds) := (Pn.pe h).imp fun d ⟨es, e1, e2⟩ => by rw [e1, e2]
/-- what is made new at the end -/
theorem new_put {r : Reg} {C : Cl} {H : Hp} {p : Addr} {vs : List V} (k : Okc r C H) (np : H p = none) : Okc r (C.put p vs) (upd H p (.lst vs)) ∧ Ex (hid r C H) (hid r (C.put p vs) (upd H p (.lst vs))) := by
  have n1 := k.own_ne np
  have n2 := k.cel_ne np
  refine ⟨⟨r.loc H _ (fun b hb => upd_ne fun z => by subst z; exact n1 hb) k.rok, fun q us hq => ?_, fun q hq => ?_⟩, fun b o hb => ?_⟩
  · by_cases e : q = p
    · subst e; rw [Cl.put_same] at hq; cases hq; exact upd_same
    · rw [Cl.put_ne e] at hq; rw [upd_ne e]; exact k.cel q us hq
  · by_cases e : q = p
    · subst e; exact n1
    · rw [Cl.put_ne e] at hq; exact k.sep q hq
  · obtain ⟨h1, h2, h3⟩ := hid_some hb
    have e : b ≠ p := ne_of_none h1 np
    exact hid_of (by rw [upd_ne e]; exact h1) h2 (by rw [Cl.put_ne e]; exact h3)
/-! #### names and constants -/
theorem e_var {i : Nat} {d : D} (hN : κ.N[i]? = some x) (hv : Vis κ.sc x) (hd : (x == ("__debug__" : Str)) = false) (hcd : (x == ("__classdict__" : Str)) = false) (hg : Γ[i]? = some (.val d)) (hk : k d) : Pe κ r (.Name x pos) Γ k := fun B σ C H at_ Q q => by
  obtain ⟨v, h1, h2⟩ := at_.val i d hg
  exact ⟨tVar i, fun X hX => pe_var (by rw [Kx.hN hX]; exact hN) (by rw [Kx.hsc hX]; exact hv) hd hcd, v, h1, q d v H hk at_ (Ex.refl _) h2⟩
theorem e_int {i : Int} {j} (hk : k (.int i)) : Pe κ r (.Constant (.int i) j pos) Γ k := fun B σ C H at_ Q q => ⟨tC (.int i), fun X hX => pe_int, q (.int i) _ H hk at_ (Ex.refl _) rfl⟩
theorem e_bl {i : Bool} {j} (hk : k (.bl i)) : Pe κ r (.Constant (.bool i) j pos) Γ k := fun B σ C H at_ Q q => ⟨tC (.bl i), fun X hX => pe_bl, q (.bl i) _ H hk at_ (Ex.refl _) rfl⟩
theorem e_non {j} (hk : k .non) : Pe κ r (.Constant .none j pos) Γ k := fun B σ C H at_ Q q => ⟨tC .non, fun X hX => pe_non, q .non _ H hk at_ (Ex.refl _) rfl⟩
theorem e_str {i : Str} {j} (hk : k (.str i)) : Pe κ r (.Constant (.str i) j pos) Γ k := fun B σ C H at_ Q q => ⟨tC (.str i), fun X hX => pe_str, q (.str i) _ H hk at_ (Ex.refl _) rfl⟩
/-- a constant of the module -/
theorem e_glob {v : V} {u : Value} (hg : κ.sc.names.lookup x = some .globalImplicit) (hm : κ.mg x = some u) (rv : RelV v u) (hd : (x == ("__debug__" : Str)) = false) {d : D} (hs : ∀ G, Is κ.K G d v) (hk : k d) : Pe κ r (.Name x pos) Γ k := fun B σ C H at_ Q q =>
  ⟨tC v, fun X hX => pe_glob (show X.env.scope.names.lookup x = _ by rw [Kx.hsc hX]; exact hg) (by rw [Kx.hmg hX]; exact hm) rv hd, q d _ H hk at_ (Ex.refl _) (hs _)⟩
/-! #### operators -/
theorem e_bin {op : Operator} {rr : R2} (ho : ∀ X, κ.F X → OpR X (binaryOp op) rr) (ha : Pe κ r a Γ ka) (hb : Pe κ r b Γ kb) (h : ∀ x y, ka x → kb y → Op2 κ.K rr x y k) : Pe κ r (.BinOp a op b pos) Γ k := fun B σ C H at_ Q q =>
  ⟨tOp rr (xe κ a) (xe κ b), fun X hX => pe_op (ho X hX) (xe_ok a hX) (xe_ok b hX), ha B σ C H at_ _ fun x v H1 kx at1 e1 i1 => hb B σ C H1 at1 _ fun y w H2 ky at2 e2 i2 =>
    h x y kx ky r C H2 v w at2.ok (Is.mono e2 _ _ i1) i2 Q fun d u H3 kd o3 e3 i3 => q d u H3 kd (at2.step o3 e3) ((e1.trans e2).trans e3) i3⟩
theorem e_binN {op : Operator} {rr : R2} {kn : List D → Prop} (ho : ∀ X, κ.F X → OpR X (binaryOp op) rr) (ha : Pe κ r a Γ ka) (hb : Pe κ r b Γ kb) (h : ∀ x y, ka x → kb y → Op2n κ.K rr x y kn) : Pn κ r (.BinOp a op b pos) Γ kn := fun B σ C H at_ Q q =>
  ⟨tOp rr (xe κ a) (xe κ b), fun X hX => pe_op (ho X hX) (xe_ok a hX) (xe_ok b hX), ha B σ C H at_ _ fun x v H1 kx at1 e1 i1 => hb B σ C H1 at1 _ fun y w H2 ky at2 e2 i2 =>
    h x y kx ky r C H2 v w at2.ok (Is.mono e2 _ _ i1) i2 Q fun ds vs kd is p np => by
      obtain ⟨o3, e3⟩ := new_put (vs := vs) at2.ok np
      have np0 : H p = none := by
        cases q0 : H p with
        | none => rfl
        | some o0 => exact absurd np (by
            have hcl : C p = none := at2.ok.cel_ne np
            have hno : ¬ r.own p := at2.ok.own_ne np
            rw [(hid_some ((e1.trans e2) p o0 (hid_of q0 hno hcl))).1]
            intro z; cases z)
      exact q ds p vs _ kd np0 o3 ((e1.trans e2).trans e3) (IsA.mono e3 _ _ is)⟩
theorem e_cmp {op : CmpOp} {rr : R2} (ho : ∀ X, κ.F X → OpR X (compareOp op) rr) (hm : behindInMarks op b = false) (ha : Pe κ r a Γ ka) (hb : Pe κ r b Γ kb) (h : ∀ x y, ka x → kb y → Op2 κ.K rr x y k) : Pe κ r (.Compare a [op] [b] pos) Γ k := fun B σ C H at_ Q q =>
  ⟨tOp rr (xe κ a) (xe κ b), fun X hX => pe_cmpR (ho X hX) (xe_ok a hX) (xe_ok b hX) hm, ha B σ C H at_ _ fun x v H1 kx at1 e1 i1 => hb B σ C H1 at1 _ fun y w H2 ky at2 e2 i2 =>
    h x y kx ky r C H2 v w at2.ok (Is.mono e2 _ _ i1) i2 Q fun d u H3 kd o3 e3 i3 => q d u H3 kd (at2.step o3 e3) ((e1.trans e2).trans e3) i3⟩
theorem e_ix {rr : R2} (ho : ∀ X, κ.F X → IxR X rr) (hs : PlainIx b) (ha : Pe κ r a Γ ka) (hb : Pe κ r b Γ kb) (h : ∀ x y, ka x → kb y → Op2 κ.K rr x y k) : Pe κ r (.Subscript a b pos) Γ k := fun B σ C H at_ Q q =>
  ⟨tOp rr (xe κ a) (xe κ b), fun X hX => pe_ix (ho X hX) (xe_ok a hX) (xe_ok b hX) hs, ha B σ C H at_ _ fun x v H1 kx at1 e1 i1 => hb B σ C H1 at1 _ fun y w H2 ky at2 e2 i2 =>
    h x y kx ky r C H2 v w at2.ok (Is.mono e2 _ _ i1) i2 Q fun d u H3 kd o3 e3 i3 => q d u H3 kd (at2.step o3 e3) ((e1.trans e2).trans e3) i3⟩
theorem e_un {op : UnaryOp} {rr : V → Hp → VK → Prop} (ho : ∀ X, κ.F X → UnR X (unaryOp op) rr) (ha : Pe κ r a Γ ka) (h : ∀ x, ka x → ∀ v, (∀ G, Is κ.K G x v) → ∃ d u, k d ∧ (∀ G, Is κ.K G d u) ∧ ∀ H Q, Q u H → rr v H Q) (hs : ∀ x, ka x → x.scal = true) : Pe κ r (.UnaryOp op a pos) Γ k := fun B σ C H at_ Q q =>
  ⟨tUn rr (xe κ a), fun X hX => pe_un (ho X hX) (xe_ok a hX), ha B σ C H at_ _ fun x v H1 kx at1 e1 i1 => by
    obtain ⟨d, u, kd, hd, hq⟩ := h x kx v fun G => Is.scal i1 (hs x kx)
    exact hq _ _ (q d u H1 kd at1 e1 (hd _))⟩
/-! #### arguments, displays -/
theorem a_nil {k : List D → Prop} (hk : k []) : Pa κ r [] Γ k := fun B σ C H at_ Q q => ⟨tNil, fun X hX => pa_nil, q [] [] H hk at_ (Ex.refl _) rfl⟩
theorem a_cons {kr k : List D → Prop} (hs : ∀ X, κ.F X → starEach (e :: es) X.env = (false, eval e X.env) :: starEach es X.env) (ha : Pe κ r e Γ ka) (hr : Pa κ r es Γ kr) (h : ∀ d ds, ka d → kr ds → k (d :: ds)) : Pa κ r (e :: es) Γ k := fun B σ C H at_ Q q =>
  ⟨tCons (xe κ e) (xa κ es), fun X hX => pa_cons (xe_ok e hX) (xa_ok es hX) (hs X hX), ha B σ C H at_ _ fun x v H1 kx at1 e1 i1 => hr B σ C H1 at1 _ fun ds vs H2 kd at2 e2 i2 =>
    q (x :: ds) (v :: vs) H2 (h x ds kx kd) at2 (e1.trans e2) ⟨v, vs, rfl, Is.mono e2 _ _ i1, i2⟩⟩
theorem e_tup {kr : List D → Prop} {x1} (ha : Pa κ r es Γ kr) (h : ∀ ds, kr ds → ds.length ≤ 100000 ∧ k (.tup ds)) : Pe κ r (.Tuple es x1 pos) Γ k := fun B σ C H at_ Q q =>
  ⟨tTup (xa κ es), fun X hX => pe_tup (xa_ok es hX), ha B σ C H at_ _ fun ds vs H1 kd at1 e1 i1 => by
    obtain ⟨h1, h2⟩ := h ds kd
    refine ⟨Nat.le_trans (by rw [← i1.len]; exact h1) (by decide), fun p np => ?_⟩
    obtain ⟨o2, e2, s2⟩ := at1.ok.new (o := .tup vs) np
    exact q _ _ _ h2 (at1.step o2 e2) (e1.trans e2) ⟨p, vs, rfl, .inl (.inl s2), IsA.mono e2 _ _ i1⟩⟩
theorem e_lst {kr k : List D → Prop} (ha : Pa κ r es Γ kr) (h : ∀ ds, kr ds → ds.length ≤ 100000 ∧ k ds) : Pn κ r (.List es pos) Γ k := fun B σ C H at_ Q q =>
  ⟨tLst (xa κ es), fun X hX => pe_lst (xa_ok es hX), ha B σ C H at_ _ fun ds vs H1 kd at1 e1 i1 => by
    obtain ⟨h1, h2⟩ := h ds kd
    refine ⟨Nat.le_trans (by rw [← i1.len]; exact h1) (by decide), fun p np => ?_⟩
    obtain ⟨o3, e3⟩ := new_put (vs := vs) at1.ok np
    have np0 : H p = none := by
      cases q0 : H p with
      | none => rfl
      | some o0 => exact absurd np (by
          rw [(hid_some (e1 p o0 (hid_of q0 (at1.ok.own_ne np) (at1.ok.cel_ne np)))).1]
          intro z; cases z)
    exact q ds p vs _ h2 np0 o3 (e1.trans e3) (IsA.mono e3 _ _ i1)⟩
/-! #### calls of built-ins -/
theorem e_callB {id : String} {rr : List V → Hp → VK → Prop} {kr : List D → Prop} (hc : ∀ X, κ.F X → CallR X (.builtin id) rr) (hg : κ.sc.names.lookup x = some .globalImplicit) (hm : κ.mg x = none) (hv : bootBuiltins x = some (.builtin id)) (ha : Pa κ r (e :: es) Γ kr)
    (h : ∀ ds, kr ds → OpN κ.K rr ds k) (hn : x ≠ "__name__" := by decide) (hdb : (x == ("__debug__" : Str)) = false := by decide) (h1 : ∀ X, κ.F X → starEach (e :: es) X.env = (false, eval e X.env) :: starEach es X.env := by intro _ _; rfl) (h2 : ∀ X, κ.F X → (backTo pos (starEach es X.env)).any (·.1) = false := by intro _ _; rfl) :
    Pe κ r (.Call (.Name x p) (e :: es) [] pos) Γ k := fun B σ C H at_ Q q =>
  ⟨tCB rr (xa κ (e :: es)), fun X hX => pe_callB (hc X hX) (show X.env.scope.names.lookup x = _ by rw [Kx.hsc hX]; exact hg) (by rw [Kx.hmg hX]; exact hm) hv (xa_ok _ hX) hn hdb (h1 X hX) (h2 X hX),
    ha B σ C H at_ _ fun ds vs H1 kd at1 e1 i1 => h ds kd r C H1 vs at1.ok i1 Q fun d u H2 kd2 o2 e2 i2 => q d u H2 kd2 (at1.step o2 e2) (e1.trans e2) i2⟩
theorem e_callT {T : String} {rr : List V → Hp → VK → Prop} {kr : List D → Prop} (hc : ∀ X, κ.F X → CallR X (.type T) rr) (hg : κ.sc.names.lookup x = some .globalImplicit) (hm : κ.mg x = none) (hv : bootBuiltins x = some (.type T)) (ha : Pa κ r (e :: es) Γ kr)
    (h : ∀ ds, kr ds → OpN κ.K rr ds k) (hn : x ≠ "__name__" := by decide) (hdb : (x == ("__debug__" : Str)) = false := by decide) (h1 : ∀ X, κ.F X → starEach (e :: es) X.env = (false, eval e X.env) :: starEach es X.env := by intro _ _; rfl) (h2 : ∀ X, κ.F X → (backTo pos (starEach es X.env)).any (·.1) = false := by intro _ _; rfl) :
    Pe κ r (.Call (.Name x p) (e :: es) [] pos) Γ k := fun B σ C H at_ Q q =>
  ⟨tCB rr (xa κ (e :: es)), fun X hX => pe_callTy (hc X hX) (show X.env.scope.names.lookup x = _ by rw [Kx.hsc hX]; exact hg) (by rw [Kx.hmg hX]; exact hm) hv (xa_ok _ hX) hn hdb (h1 X hX) (h2 X hX),
    ha B σ C H at_ _ fun ds vs H1 kd at1 e1 i1 => h ds kd r C H1 vs at1.ok i1 Q fun d u H2 kd2 o2 e2 i2 => q d u H2 kd2 (at1.step o2 e2) (e1.trans e2) i2⟩
theorem e_callTn {T : String} {rr : List V → Hp → VK → Prop} {kr kn : List D → Prop} (hc : ∀ X, κ.F X → CallR X (.type T) rr) (hg : κ.sc.names.lookup x = some .globalImplicit) (hm : κ.mg x = none) (hv : bootBuiltins x = some (.type T)) (ha : Pa κ r (e :: es) Γ kr)
    (h : ∀ ds, kr ds → OpNn κ.K rr ds kn) (hn : x ≠ "__name__" := by decide) (hdb : (x == ("__debug__" : Str)) = false := by decide) (h1 : ∀ X, κ.F X → starEach (e :: es) X.env = (false, eval e X.env) :: starEach es X.env := by intro _ _; rfl) (h2 : ∀ X, κ.F X → (backTo pos (starEach es X.env)).any (·.1) = false := by intro _ _; rfl) :
    Pn κ r (.Call (.Name x p) (e :: es) [] pos) Γ kn := fun B σ C H at_ Q q =>
  ⟨tCB rr (xa κ (e :: es)), fun X hX => pe_callTy (hc X hX) (show X.env.scope.names.lookup x = _ by rw [Kx.hsc hX]; exact hg) (by rw [Kx.hmg hX]; exact hm) hv (xa_ok _ hX) hn hdb (h1 X hX) (h2 X hX),
    ha B σ C H at_ _ fun ds vs H1 kd at1 e1 i1 => h ds kd r C H1 vs at1.ok i1 Q fun es us ke is p np => by
      obtain ⟨o3, e3⟩ := new_put (vs := us) at1.ok np
      have np0 : H p = none := by
        cases q0 : H p with
        | none => rfl
        | some o0 => exact absurd np (by
            rw [(hid_some (e1 p o0 (hid_of q0 (at1.ok.own_ne np) (at1.ok.cel_ne np)))).1]
            intro z; cases z)
      exact q es p us _ ke np0 o3 (e1.trans e3) (IsA.mono e3 _ _ is)⟩
/-! #### tests -/
theorem t_val {kb : Bool → Prop} (ha : Pe κ r e Γ k) (h : ∀ d, k d → ∃ b, d = .bl b ∧ kb b) (hs : ∀ X, κ.F X → ∀ whole, isTrue e X.env whole = (do let v ← whole; standAt e.pos; holding [v] (truthy v)) := by intro _ _ _; rfl) : Pt κ r e Γ kb := fun B σ C H at_ Q q =>
  ⟨tB (xe κ e), fun X hX => pt_val (xe_ok e hX) (hs X hX), ha B σ C H at_ _ fun d v H1 kd at1 e1 i1 => by
    obtain ⟨b, e2, h2⟩ := h d kd
    subst e2
    exact ⟨b, i1, q b H1 h2 at1 e1⟩⟩
theorem t_cmp {op : CmpOp} {rr : R2} {kk : Bool → Prop} (ho : ∀ X, κ.F X → OpR X (compareOp op) rr) (hm : behindInMarks op b = false) (ha : Pe κ r a Γ ka) (hb : Pe κ r b Γ kb) (h : ∀ x y, ka x → kb y → Op2 κ.K rr x y (fun d => ∃ b, d = .bl b ∧ kk b)) : Pt κ r (.Compare a [op] [b] pos) Γ kk := fun B σ C H at_ Q q =>
  ⟨tTest (tOp rr (xe κ a) (xe κ b)), fun X hX => pt_cmpR (ho X hX) (xe_ok a hX) (xe_ok b hX) hm, ha B σ C H at_ _ fun x v H1 kx at1 e1 i1 => hb B σ C H1 at1 _ fun y w H2 ky at2 e2 i2 =>
    h x y kx ky r C H2 v w at2.ok (Is.mono e2 _ _ i1) i2 _ fun d u H3 kd o3 e3 i3 => by
      obtain ⟨b, e4, h4⟩ := kd
      subst e4
      exact ⟨b, i3, q b H3 h4 (at2.step o3 e3) ((e1.trans e2).trans e3)⟩⟩
theorem t_not {kk : Bool → Prop} (ha : Pt κ r a Γ fun b => kk (!b)) : Pt κ r (.UnaryOp .Not a pos) Γ kk := fun B σ C H at_ Q q =>
  ⟨tNot (xt κ a), fun X hX => pt_not (xt_ok a hX), ha B σ C H at_ _ fun b H1 kb at1 e1 => q (!b) H1 kb at1 e1⟩
def xw (κ : Kx) (e : Expr) : TT := fun σ H Q => ∃ t, (∀ X, κ.F X → PW X e t) ∧ t σ H Q
theorem xw_ok {X : Cx} (e : Expr) (h : κ.F X) : PW X e (xw κ e) := ⟨fun whole pins s σ H Q I ⟨t, p, q⟩ => (p X h).run whole pins s σ H Q I q⟩
def Pw (κ : Kx) (r : Reg) (e : Expr) (Γ : Gm) (k : Bool → Prop) : Prop := ∀ B σ C H, At κ.K r B Γ σ C H → ∀ Q : Bool → Hp → Prop,
  (∀ b H', k b → At κ.K r B Γ σ C H' → Ex (hid r C H) (hid r C H') → Q b H') → xw κ e σ H Q
theorem Pw.pt {kk : Bool → Prop} (h : Pw κ r e Γ kk) : Pt κ r e Γ kk := fun B σ C H at_ Q q => ⟨xw κ e, fun X hX => PW.pt (xw_ok e hX), h B σ C H at_ Q q⟩
theorem w_and1 {kk : Bool → Prop} (h : Pt κ r a Γ kk) : Pw κ r (.BoolOp .And [a] pos) Γ kk := fun B σ C H at_ Q q => ⟨xt κ a, fun X hX => pw_and1 (xt_ok a hX), h B σ C H at_ Q q⟩
theorem w_or1 {kk : Bool → Prop} (h : Pt κ r a Γ kk) : Pw κ r (.BoolOp .Or [a] pos) Γ kk := fun B σ C H at_ Q q => ⟨xt κ a, fun X hX => pw_or1 (xt_ok a hX), h B σ C H at_ Q q⟩
theorem w_and {rest : List Expr} {k1 kk : Bool → Prop} (h1 : Pt κ r a Γ k1) (h2 : k1 true → Pw κ r (.BoolOp .And (b :: rest) pos) Γ kk) (h3 : k1 false → kk false) : Pw κ r (.BoolOp .And (a :: b :: rest) pos) Γ kk := fun B σ C H at_ Q q =>
  ⟨tAnd (xt κ a) (xw κ (.BoolOp .And (b :: rest) pos)), fun X hX => pw_and (xt_ok a hX) (xw_ok _ hX), h1 B σ C H at_ _ fun c H1 kc at1 e1 => by
    cases c with
    | true => exact iteT (h2 kc B σ C H1 at1 Q fun b H2 kb at2 e2 => q b H2 kb at2 (e1.trans e2))
    | false => exact iteF (q false H1 (h3 kc) at1 e1)⟩
theorem w_or {rest : List Expr} {k1 kk : Bool → Prop} (h1 : Pt κ r a Γ k1) (h2 : k1 false → Pw κ r (.BoolOp .Or (b :: rest) pos) Γ kk) (h3 : k1 true → kk true) : Pw κ r (.BoolOp .Or (a :: b :: rest) pos) Γ kk := fun B σ C H at_ Q q =>
  ⟨tOr (xt κ a) (xw κ (.BoolOp .Or (b :: rest) pos)), fun X hX => pw_or (xt_ok a hX) (xw_ok _ hX), h1 B σ C H at_ _ fun c H1 kc at1 e1 => by
    cases c with
    | false => exact iteF (h2 kc B σ C H1 at1 Q fun b H2 kb at2 e2 => q b H2 kb at2 (e1.trans e2))
    | true => exact iteT (q true H1 (h3 kc) at1 e1)⟩
theorem e_one {op} (h : Pe κ r a Γ k) : Pe κ r (.BoolOp op [a] pos) Γ k := fun B σ C H at_ Q q => ⟨xe κ a, fun X hX => pe_one (xe_ok a hX), h B σ C H at_ Q q⟩
theorem e_and {rest : List Expr} {k1 : Bool → Prop} (h1 : Pe κ r a Γ fun d => ∃ c, d = .bl c ∧ k1 c) (h2 : k1 true → Pe κ r (.BoolOp .And (b :: rest) pos) Γ k) (h3 : k1 false → k (.bl false)) : Pe κ r (.BoolOp .And (a :: b :: rest) pos) Γ k := fun B σ C H at_ Q q =>
  ⟨tAndV (xe κ a) (xe κ (.BoolOp .And (b :: rest) pos)), fun X hX => pe_and (xe_ok a hX) (xe_ok _ hX), h1 B σ C H at_ _ fun d v H1 kd at1 e1 i1 => by
    obtain ⟨c, ec, kc⟩ := kd
    subst ec
    refine ⟨c, i1, ?_⟩
    cases c with
    | true => exact iteT (h2 kc B σ C H1 at1 Q fun d v H2 kb at2 e2 i2 => q d v H2 kb at2 (e1.trans e2) i2)
    | false => exact iteF (q _ _ H1 (h3 kc) at1 e1 rfl)⟩
theorem e_or {rest : List Expr} {k1 : Bool → Prop} (h1 : Pe κ r a Γ fun d => ∃ c, d = .bl c ∧ k1 c) (h2 : k1 false → Pe κ r (.BoolOp .Or (b :: rest) pos) Γ k) (h3 : k1 true → k (.bl true)) : Pe κ r (.BoolOp .Or (a :: b :: rest) pos) Γ k := fun B σ C H at_ Q q =>
  ⟨tOrV (xe κ a) (xe κ (.BoolOp .Or (b :: rest) pos)), fun X hX => pe_or (xe_ok a hX) (xe_ok _ hX), h1 B σ C H at_ _ fun d v H1 kd at1 e1 i1 => by
    obtain ⟨c, ec, kc⟩ := kd
    subst ec
    refine ⟨c, i1, ?_⟩
    cases c with
    | false => exact iteF (h2 kc B σ C H1 at1 Q fun d v H2 kb at2 e2 i2 => q d v H2 kb at2 (e1.trans e2) i2)
    | true => exact iteT (q _ _ H1 (h3 kc) at1 e1 rfl)⟩
theorem e_not {k1 : Bool → Prop} (h1 : Pe κ r a Γ fun d => ∃ c, d = .bl c ∧ k1 c) (h : ∀ c, k1 c → k (.bl (!c))) : Pe κ r (.UnaryOp .Not a pos) Γ k := fun B σ C H at_ Q q =>
  ⟨tNotV (xe κ a), fun X hX => pe_not (xe_ok a hX), h1 B σ C H at_ _ fun d v H1 kd at1 e1 i1 => by
    obtain ⟨c, ec, kc⟩ := kd
    subst ec
    exact ⟨c, i1, q _ _ H1 (h c kc) at1 e1 rfl⟩⟩
theorem e_if {c : Expr} {kt : Bool → Prop} (ht : Pt κ r c Γ kt) (ha : kt true → Pe κ r a Γ k) (hb : kt false → Pe κ r b Γ k) : Pe κ r (.IfExp c a b pos) Γ k := fun B σ C H at_ Q q =>
  ⟨tIf (xt κ c) (xe κ a) (xe κ b), fun X hX => pe_ifExp (xt_ok c hX) (xe_ok a hX) (xe_ok b hX), ht B σ C H at_ _ fun b' H1 kb at1 e1 => by
    cases b' with
    | true => exact iteT (ha kb B σ C H1 at1 Q fun d v H2 kb at2 e2 i2 => q d v H2 kb at2 (e1.trans e2) i2)
    | false => exact iteF (hb kb B σ C H1 at1 Q fun d v H2 kb at2 e2 i2 => q d v H2 kb at2 (e1.trans e2) i2)⟩
/-! #### slices -/
theorem o_none {ko : Option Int → Prop} (h : ko none) : Po κ r none Γ ko := fun B σ C H at_ Q q => ⟨tNoPart, fun X hX => po_none, q none H h at_ (Ex.refl _)⟩
theorem o_some {ko : Option Int → Prop} (he : Pe κ r e Γ k) (h : ∀ d, k d → ∃ i, d = .int i ∧ ko (some i)) : Po κ r (some e) Γ ko := fun B σ C H at_ Q q =>
  ⟨tPart (xe κ e), fun X hX => po_some (xe_ok e hX), he B σ C H at_ _ fun d v H1 kd at1 e1 i1 => by
    obtain ⟨i, ei, ki⟩ := h d kd
    subst ei
    exact ⟨i, i1, q (some i) H1 ki at1 e1⟩⟩
/-- the items of a slice -/
def cutDs (ds : List D) (lo hi : Option Int) : List D := (ds.drop (HT.sIx ds.length 0 lo)).take (HT.sIx ds.length ds.length hi - HT.sIx ds.length 0 lo)
theorem IsA.cut {K : PySem.W.Frag} {G : Hp} {ds : List D} {vs : List V} (h : IsA K G ds vs) (lo hi : Option Int) : IsA K G (cutDs ds lo hi) (cutV vs lo hi) := by
  unfold cutDs cutV
  rw [← h.len]
  exact IsA.take _ (IsA.drop _ h)
theorem e_sliceL {lo hi : Option Expr} {p2 : Pos} {kl kh : Option Int → Prop} {kn : List D → Prop} (ha : Pe κ r a Γ ka) (hl : Po κ r lo Γ kl) (hh : Po κ r hi Γ kh) (h : ∀ d, ka d → ∃ ds, d = .lst ds ∧ ∀ l u, kl l → kh u → kn (cutDs ds l u)) : Pn κ r (.Subscript a (.Slice lo hi none p2) pos) Γ kn := fun B σ C H at_ Q q =>
  ⟨tSl (rSlL κ.K) (xe κ a) (xo κ lo) (xo κ hi), fun X hX => by rw [← Kx.hK hX]; exact pe_slice sl_list (xe_ok a hX) (xo_ok lo hX) (xo_ok hi hX), ha B σ C H at_ _ fun d v H1 kd at1 e1 i1 => hl B σ C H1 at1 _ fun l H2 k2 at2 e2 => hh B σ C H2 at2 _ fun u H3 k3 at3 e3 => by
    obtain ⟨ds, ed, hk⟩ := h d kd
    subst ed
    obtain ⟨p, vs, ev, hp, is⟩ := Is.mono (e2.trans e3) _ _ i1
    refine ⟨p, vs, ev, .inl (.inl (hid_some hp).1), fun n nn => ?_⟩
    obtain ⟨o4, e4⟩ := new_put (vs := cutV vs l u) at3.ok nn
    have e13 := (e1.trans e2).trans e3
    have np0 : H n = none := by
      cases q0 : H n with
      | none => rfl
      | some o0 => exact absurd nn (by
          rw [(hid_some (e13 n o0 (hid_of q0 (at3.ok.own_ne nn) (at3.ok.cel_ne nn)))).1]
          intro z; cases z)
    exact q _ n _ _ (hk l u k2 k3) np0 o4 (e13.trans e4) (IsA.mono e4 _ _ (is.cut l u))⟩
theorem e_sliceT {lo hi : Option Expr} {p2 : Pos} {kl kh : Option Int → Prop} (ha : Pe κ r a Γ ka) (hl : Po κ r lo Γ kl) (hh : Po κ r hi Γ kh) (h : ∀ d, ka d → ∃ ds, d = .tup ds ∧ ∀ l u, kl l → kh u → k (.tup (cutDs ds l u))) : Pe κ r (.Subscript a (.Slice lo hi none p2) pos) Γ k := fun B σ C H at_ Q q =>
  ⟨tSl (rSlA κ.K) (xe κ a) (xo κ lo) (xo κ hi), fun X hX => by rw [← Kx.hK hX]; exact pe_slice sl_tupA (xe_ok a hX) (xo_ok lo hX) (xo_ok hi hX), ha B σ C H at_ _ fun d v H1 kd at1 e1 i1 => hl B σ C H1 at1 _ fun l H2 k2 at2 e2 => hh B σ C H2 at2 _ fun u H3 k3 at3 e3 => by
    obtain ⟨ds, ed, hk⟩ := h d kd
    subst ed
    obtain ⟨p, vs, ev, hp, is⟩ := Is.mono (e2.trans e3) _ _ i1
    have e13 := (e1.trans e2).trans e3
    refine ⟨p, vs, ev, exSqT (hid_ex r C H3) hp, fun hw => ?_, fun hw n nn => ?_⟩
    · have ec : cutDs ds l u = ds := by
        unfold cutDs
        rw [is.len, hw.1, hw.2, List.drop_zero, Nat.sub_zero, ← is.len, List.take_length]
      have := hk l u k2 k3
      rw [ec] at this
      exact q _ _ H3 this at3 e13 ⟨p, vs, rfl, hp, is⟩
    · obtain ⟨o4, e4, s4⟩ := at3.ok.new (o := .tup (cutV vs l u)) nn
      exact q _ _ _ (hk l u k2 k3) (at3.step o4 e4) (e13.trans e4) ⟨n, _, rfl, .inl (.inl s4), IsA.mono e4 _ _ (is.cut l u)⟩⟩
/-- xs[::-1] -/
theorem e_revL {j : Nat} {p1 p2 p3 : Pos} {kn : List D → Prop} (ha : Pe κ r a Γ ka) (h : ∀ d, ka d → ∃ ds, d = .lst ds ∧ kn ds.reverse) : Pn κ r (.Subscript a (.Slice none none (some (.UnaryOp .USub (.Constant (.int 1) j p1) p2)) p3) pos) Γ kn := fun B σ C H at_ Q q =>
  ⟨tRevL κ.K (xe κ a), fun X hX => by rw [← Kx.hK hX]; exact pe_revL (xe_ok a hX), ha B σ C H at_ _ fun d v H1 kd at1 e1 i1 => by
    obtain ⟨ds, ed, hk⟩ := h d kd
    subst ed
    obtain ⟨p, vs, ev, hp, is⟩ := i1
    refine ⟨p, vs, ev, .inl (.inl (hid_some hp).1), fun n nn => ?_⟩
    obtain ⟨o4, e4⟩ := new_put (vs := vs.reverse) at1.ok nn
    have np0 : H n = none := by
      cases q0 : H n with
      | none => rfl
      | some o0 => exact absurd nn (by
          rw [(hid_some (e1 n o0 (hid_of q0 (at1.ok.own_ne nn) (at1.ok.cel_ne nn)))).1]
          intro z; cases z)
    exact q _ n _ _ hk np0 o4 (e1.trans e4) (IsA.mono e4 _ _ is.reverse)⟩
/-! #### lists that are not shared are read -/
/-- what comes has no places -/
theorem e_own {i : Nat} {ds : List D} (hg : Γ[i]? = some (.own ds)) (h : Pe κ r e (Γ.set i (.val (.lst ds))) k) (hs : ∀ d, k d → d.scal = true) : Pe κ r e Γ k := fun B σ C H at_ Q q => by
  obtain ⟨p, vs, h1, h2, ex, at'⟩ := at_.thaw hg
  refine h B σ (C.rem p) H at' Q fun d v H' kd at1 e1 i1 => ?_
  have hp' : H' p = some (.lst vs) := (hid_some (e1 p _ (hid_of (at_.ok.cel p vs h2) (at_.ok.sep p (by rw [h2]; intro z; cases z)) Cl.rem_same))).1
  have ok' : Okc r C H' := ⟨at1.ok.rok, fun q' us hq => by
    by_cases e : q' = p
    · subst e; rw [h2] at hq; cases hq; exact hp'
    · exact at1.ok.cel q' us (by rw [Cl.rem_ne e]; exact hq), at_.ok.sep⟩
  have e' : Ex (hid r C H) (hid r C H') := fun b o hb => by
    obtain ⟨q1, q2, q3⟩ := hid_some hb
    obtain ⟨w1, w2, w3⟩ := hid_some (e1 b o (ex b o hb))
    exact hid_of w1 q2 q3
  exact q d v H' kd (at_.step ok' e') e' (Is.scal i1 (hs d kd))
/-- a new list of things without places comes -/
theorem n_own {i : Nat} {ds : List D} {kn : List D → Prop} (hg : Γ[i]? = some (.own ds)) (h : Pn κ r e (Γ.set i (.val (.lst ds))) kn) (hs : ∀ d, kn d → d.all D.scal = true) : Pn κ r e Γ kn := fun B σ C H at_ Q q => by
  obtain ⟨p, vs, h1, h2, ex, at'⟩ := at_.thaw hg
  refine h B σ (C.rem p) H at' Q fun d n us H' kd nn o1 e1 i1 => ?_
  have hpn : p ≠ n := fun z => by subst z; rw [at_.ok.cel _ _ h2] at nn; cases nn
  have hp' : H' p = some (.lst vs) := (hid_some (e1 p _ (hid_of (at_.ok.cel p vs h2) (at_.ok.sep p (by rw [h2]; intro z; cases z)) Cl.rem_same))).1
  have ok' : Okc r (C.put n us) H' := ⟨o1.rok, fun q' ws hq => by
    by_cases e : q' = p
    · subst e; rw [Cl.put_ne hpn, h2] at hq; cases hq; exact hp'
    · refine o1.cel q' ws ?_
      by_cases e2 : q' = n
      · subst e2; rw [Cl.put_same] at hq ⊢; exact hq
      · rw [Cl.put_ne e2] at hq ⊢; rw [Cl.rem_ne e]; exact hq, fun q' hq => by
    by_cases e2 : q' = n
    · subst e2; exact o1.sep q' (by rw [Cl.put_same]; intro z; cases z)
    · rw [Cl.put_ne e2] at hq; exact at_.ok.sep q' hq⟩
  have e' : Ex (hid r C H) (hid r (C.put n us) H') := fun b o hb => by
    obtain ⟨q1, q2, q3⟩ := hid_some hb
    obtain ⟨w1, w2, w3⟩ := hid_some (e1 b o (ex b o hb))
    refine hid_of w1 q2 ?_
    have : b ≠ n := fun z => by subst z; rw [q1] at nn; cases nn
    rw [Cl.put_ne this]; exact q3
  exact q d n us H' kd nn ok' e' (IsA.scal i1 (hs d kd))
end
end Dv

set_option Elab.async false
set_option linter.all false
set_option maxRecDepth 100000
set_option maxHeartbeats 4000000
/-! statements, calls, loops, comprehensions, defs at the data level -/
namespace Dv
open PySem PySem.Spec PyProof.Rows L2

/-! ### ends -/
structure Wt where
  nx : Gm → Prop
  rt : D → Prop
  /-- a new list is returned -/
  rl : List D → Prop := fun _ => False
  bk : Gm → Prop := fun _ => False
  ct : Gm → Prop := fun _ => False
structure Eo (K : PySem.W.Frag) (r : Reg) (B : Hp) (W : Wt) (E : Ends) : Prop where
  nx : ∀ Γ σ C H, W.nx Γ → At K r B Γ σ C H → E.nx σ H
  rt : ∀ d v H, W.rt d → r.ok H → Ex B (hid r Cl.nil H) → Is K (hid r Cl.nil H) d v → E.rt v H
  rl : ∀ ds p vs H, W.rl ds → B p = none → Okc r (Cl.put Cl.nil p vs) H → Ex B (hid r (Cl.put Cl.nil p vs) H) → IsA K (hid r (Cl.put Cl.nil p vs) H) ds vs → E.rt (.ref p) H
  bk : ∀ Γ σ C H, W.bk Γ → At K r B Γ σ C H → E.bk σ H
  ct : ∀ Γ σ C H, W.ct Γ → At K r B Γ σ C H → E.ct σ H
section
variable {K : PySem.W.Frag} {r : Reg} {B B' : Hp} {W : Wt} {E : Ends} {Γ : Gm} {σ : L2.St} {C : Cl} {H : Hp}
theorem At.baseOf (a : At K r B' Γ σ C H) (e : Ex B B') : At K r B Γ σ C H := a.base (e.trans a.ext)
theorem Eo.base (o : Eo K r B W E) (e : Ex B B') : Eo K r B' W E :=
  ⟨fun Γ σ C H w a => o.nx Γ σ C H w (a.baseOf e), fun d v H w k x i => o.rt d v H w k (e.trans x) i, fun ds p vs H w n k x i => o.rl ds p vs H w (by
    cases q : B p with
    | none => rfl
    | some u => rw [e p u q] at n; cases n) k (e.trans x) i, fun Γ σ C H w a => o.bk Γ σ C H w (a.baseOf e), fun Γ σ C H w a => o.ct Γ σ C H w (a.baseOf e)⟩
/-- cells that no name has are seen -/
theorem nil_seen (k : Okc r C H) : r.ok H ∧ Ex (hid r C H) (hid r Cl.nil H) := ⟨k.rok, fun b o h => by
  obtain ⟨h1, h2, h3⟩ := hid_some h
  exact hid_of h1 h2 rfl⟩
end
def Ps (κ : Kx) (r : Reg) (st : Stmt) (Γ : Gm) (W : Wt) : Prop := ∀ B σ C H, At κ.K r B Γ σ C H → ∀ E, Eo κ.K r B W E → xs κ st E σ H
def Bk (κ : Kx) (r : Reg) (st : List Stmt) (Γ : Gm) (W : Wt) : Prop := ∀ B σ C H, At κ.K r B Γ σ C H → ∀ E, Eo κ.K r B W E → xss κ st E σ H
section
variable {κ : Kx} {r : Reg} {Γ Γ' : Gm} {e a b c : Expr} {es : List Expr} {k : D → Prop} {x : Str} {pos p p' : Pos} {W : Wt} {st : Stmt} {rest body : List Stmt}
theorem b_nil (h : W.nx Γ) : Bk κ r [] Γ W := fun B σ C H at_ E o => ⟨tNext, fun X hX => pss_nil, o.nx Γ σ C H h at_⟩
theorem b_cons (h : Ps κ r st Γ { W with nx := fun Γ' => Bk κ r rest Γ' W }) : Bk κ r (st :: rest) Γ W := fun B σ C H at_ E o =>
  ⟨tSeq (xs κ st) (xss κ rest), fun X hX => pss_cons (xs_ok st hX) (xss_ok rest hX), h B σ C H at_ { E with nx := fun σ' H' => xss κ rest E σ' H' } ⟨fun Γ' σ' C' H' w a => w B σ' C' H' a E o, o.rt, o.rl, o.bk, o.ct⟩⟩
theorem b_one (h : Ps κ r st Γ W) : Bk κ r [st] Γ W := fun B σ C H at_ E o => ⟨xs κ st, fun X hX => pss_one (xs_ok st hX), h B σ C H at_ E o⟩
theorem b_weak (w : Wk Γ Γ') (h : Bk κ r rest Γ' W) : Bk κ r rest Γ W := fun B σ C H at_ E o => h B σ C H (at_.weak w) E o
theorem Ps.weak (w : Wk Γ Γ') (h : Ps κ r st Γ' W) : Ps κ r st Γ W := fun B σ C H at_ E o => h B σ C H (at_.weak w) E o
/-- a list that is not shared is plain data from here on -/
theorem b_freeze {i : Nat} {ds : List D} (hg : Γ[i]? = some (.own ds)) (h : Bk κ r rest (Γ.set i (.val (.lst ds))) W) : Bk κ r rest Γ W := fun B σ C H at_ E o => by
  obtain ⟨p, vs, h1, h2, ex, at'⟩ := at_.thaw hg
  exact h B σ _ H at' E o
theorem Ps.freeze {i : Nat} {ds : List D} (hg : Γ[i]? = some (.own ds)) (h : Ps κ r st (Γ.set i (.val (.lst ds))) W) : Ps κ r st Γ W := fun B σ C H at_ E o => by
  obtain ⟨p, vs, h1, h2, ex, at'⟩ := at_.thaw hg
  exact h B σ _ H at' E o
/-- what follows is shown once, from M -/
theorem b_cut (M : Gm → Prop) (h : Ps κ r st Γ { W with nx := fun Γ1 => ∃ Γ2, Wk Γ1 Γ2 ∧ M Γ2 }) (k : ∀ Γ2, M Γ2 → Bk κ r rest Γ2 W) : Bk κ r (st :: rest) Γ W :=
  b_cons fun B σ C H at_ E o => h B σ C H at_ E ⟨fun Γ' σ' C' H' w a => by
    obtain ⟨Γ2, w2, m⟩ := w
    exact o.nx Γ' σ' C' H' (b_weak w2 (k Γ2 m)) a, o.rt, o.rl, o.bk, o.ct⟩
theorem s_pass (h : W.nx Γ) : Ps κ r (.Pass pos) Γ W := fun B σ C H at_ E o => ⟨tNext, fun X hX => ps_pass, o.nx Γ σ C H h at_⟩
theorem s_brk (h : W.bk Γ) : Ps κ r (.Break pos) Γ W := fun B σ C H at_ E o => ⟨tBreak, fun X hX => ps_break, o.bk Γ σ C H h at_⟩
theorem s_ret (h : Pe κ r e Γ k) (hk : ∀ d, k d → W.rt d) : Ps κ r (.Return (some e) pos) Γ W := fun B σ C H at_ E o =>
  ⟨tRet (xe κ e), fun X hX => ps_ret (xe_ok e hX), h B σ C H at_ _ fun d v H' kd at1 e1 i1 => by
    obtain ⟨k1, k2⟩ := nil_seen at1.ok
    exact o.rt d v H' (hk d kd) k1 (at1.ext.trans k2) (Is.mono k2 _ _ i1)⟩
theorem s_retN {kn : List D → Prop} (h : Pn κ r e Γ kn) (hk : ∀ d, kn d → W.rl d) : Ps κ r (.Return (some e) pos) Γ W := fun B σ C H at_ E o =>
  ⟨tRet (xe κ e), fun X hX => ps_ret (xe_ok e hX), h B σ C H at_ _ fun ds p vs H' kd np o1 e1 i1 => by
    have hp : B p = none := by
      cases q : B p with
      | none => rfl
      | some u => rw [(hid_some (at_.ext p u q)).1] at np; cases np
    have ok' : Okc r (Cl.put Cl.nil p vs) H' := by
      refine ⟨o1.rok, fun q us hq => ?_, fun q hq => ?_⟩
      · by_cases e : q = p
        · subst e; rw [Cl.put_same] at hq; cases hq; exact o1.cel q _ Cl.put_same
        · rw [Cl.put_ne e] at hq; cases hq
      · by_cases e : q = p
        · subst e; exact o1.sep q (by rw [Cl.put_same]; intro z; cases z)
        · rw [Cl.put_ne e] at hq; exact absurd rfl hq
    have ex' : Ex (hid r (C.put p vs) H') (hid r (Cl.put Cl.nil p vs) H') := fun b o hb => by
      obtain ⟨h1, h2, h3⟩ := hid_some hb
      refine hid_of h1 h2 ?_
      by_cases e : b = p
      · subst e; rw [Cl.put_same] at h3; cases h3
      · rw [Cl.put_ne e]
    exact o.rl ds p vs H' (hk ds kd) hp ok' ((at_.ext.trans e1).trans ex') (IsA.mono ex' _ _ i1)⟩
theorem s_if {kt : Bool → Prop} {q1 q2 : List Stmt} (ht : Pt κ r c Γ kt) (h1 : kt true → Bk κ r q1 Γ W) (h2 : kt false → Bk κ r q2 Γ W) : Ps κ r (.If c q1 q2 pos) Γ W := fun B σ C H at_ E o =>
  ⟨tIfS (xt κ c) (xss κ q1) (xss κ q2), fun X hX => ps_if (xt_ok c hX) (xss_ok q1 hX) (xss_ok q2 hX), ht B σ C H at_ _ fun b H1 kb at1 e1 => by
    cases b with
    | true => exact iteT (h1 kb B σ C H1 at1 E o)
    | false => exact iteF (h2 kb B σ C H1 at1 E o)⟩
theorem s_expr (h : Pe κ r e Γ k) (hn : W.nx Γ) (hs : ∀ X, κ.F X → swapsWith e none pos.line X.env = pure false := by intro _ _; rfl) : Ps κ r (.Expr e pos) Γ W := fun B σ C H at_ E o =>
  ⟨tDrop (xe κ e), fun X hX => ps_expr (xe_ok e hX) (hs X hX), h B σ C H at_ _ fun d v H' kd at1 e1 i1 => o.nx Γ σ C H' hn at1⟩
/-- where a name may be stored -/
structure Sto (κ : Kx) (i : Nat) (x : Str) : Prop where
  hi : κ.N[i]? = some x
  hx : Loc κ.sc x
  hf : κ.fn x = true ∨ κ.sc.names.lookup x = some .local
theorem Sto.loc {i : Nat} (s : Sto κ i x) {X : Cx} (h : κ.F X) : Loc X.env.scope x := by rw [Kx.hsc h]; exact s.hx
theorem Sto.fn {i : Nat} (s : Sto κ i x) {X : Cx} (h : κ.F X) : X.fn x = true ∨ X.env.scope.names.lookup x = some .local := by
  rw [Kx.hsc h, Kx.hfn h]; exact s.hf
/-- x = e -/
theorem s_set {i : Nat} (s : Sto κ i x) (h : Pe κ r e Γ k) (hn : ∀ d, k d → W.nx (Γ.set i (.val d))) (hs : ∀ X, κ.F X → swapsWith e (some (.Name x p)) pos.line X.env = pure false := by intro _ _; rfl) : Ps κ r (.Assign [.Name x p] e pos) Γ W := fun B σ C H at_ E o =>
  ⟨tAsg (xe κ e) (gName i), fun X hX => ps_set (by rw [Kx.hN hX]; exact Kx.nd hX) (by rw [Kx.hN hX]; exact s.hi) (s.loc hX) (xe_ok e hX) (hs X hX) (s.fn hX), h B σ C H at_ _ fun d v H' kd at1 e1 i1 => o.nx _ _ C H' (hn d kd) (at1.set i i1)⟩
/-- x = a new list, not shared from here on -/
theorem s_new {i : Nat} {kn : List D → Prop} (s : Sto κ i x) (h : Pn κ r e Γ kn) (hn : ∀ ds, kn ds → W.nx (Γ.set i (.own ds))) (hs : ∀ X, κ.F X → swapsWith e (some (.Name x p)) pos.line X.env = pure false := by intro _ _; rfl) : Ps κ r (.Assign [.Name x p] e pos) Γ W := fun B σ C H at_ E o =>
  ⟨tAsg (xe κ e) (gName i), fun X hX => ps_set (by rw [Kx.hN hX]; exact Kx.nd hX) (by rw [Kx.hN hX]; exact s.hi) (s.loc hX) (xe_ok e hX) (hs X hX) (s.fn hX), h B σ C H at_ _ fun ds p vs H' kd np o1 e1 i1 => o.nx _ _ _ H' (hn ds kd) (at_.setOwn i np o1 e1 i1)⟩
/-- x += e of ints -/
theorem s_aug {i : Nat} {n : Int} {op : Operator} {f : Int → Int → Int} (s : Sto κ i x) (ho : ∀ X, κ.F X → PIp X op (ipI f)) (hg : Γ[i]? = some (.val (.int n))) (h : Pe κ r e Γ k) (hn : ∀ d, k d → ∃ m, d = .int m ∧ W.nx (Γ.set i (.val (.int (f n m))))) : Ps κ r (.AugAssign (.Name x p) op e pos) Γ W := fun B σ C H at_ E o => by
  obtain ⟨v, h1, h2⟩ := at_.val i _ hg
  refine ⟨tAug i (xe κ e) (ipI f), fun X hX => ps_aug (by rw [Kx.hN hX]; exact Kx.nd hX) (by rw [Kx.hN hX]; exact s.hi) (s.loc hX) (xe_ok e hX) (ho X hX) (s.fn hX), v, h1, h B σ C H at_ _ fun d w H' kd at1 e1 i1 => ?_⟩
  obtain ⟨m, ed, hm⟩ := hn d kd
  subst ed
  exact ⟨n, m, h2, i1, o.nx _ _ C H' hm (at1.set i (d := .int (f n m)) rfl)⟩
/-! #### lists that are not shared change -/
theorem own_name {i : Nat} {ds : List D} (hN : κ.N[i]? = some x) (hv : Vis κ.sc x) (hd : (x == ("__debug__" : Str)) = false) (hcd : (x == ("__classdict__" : Str)) = false) : ∀ X, κ.F X → PE X (.Name x pos) (tVar i) := fun X hX => pe_var (by rw [Kx.hN hX]; exact hN) (by rw [Kx.hsc hX]; exact hv) hd hcd
/-- x.append(e) -/
theorem s_append {i : Nat} {ds : List D} {apos npos cpos : Pos} (hN : κ.N[i]? = some x) (hv : Vis κ.sc x) (hd : (x == ("__debug__" : Str)) = false) (hcd : (x == ("__classdict__" : Str)) = false) (hg : Γ[i]? = some (.own ds)) (hl : ds.length < 16000000) (h : Pe κ r e Γ k)
    (hn : ∀ d, k d → W.nx (Γ.set i (.own (ds ++ [d]))))
    (h1 : ∀ X, κ.F X → starEach [e] X.env = (false, eval e X.env) :: starEach [] X.env := by intro _ _; rfl)
    (h2 : ∀ X, κ.F X → ((backTo cpos (starEach [e] X.env)).all (fun x => !x.1) && (backToKw cpos (keywordEach [] X.env)).all (fun x => x.1.isSome)
      && decide (([e] : List Expr).length + ([] : List Keyword).length + (if ([] : List Keyword).isEmpty then 0 else 1) < 30)) = true := by intro _ _; rfl)
    (h3 : (apos.endLine == cpos.line) = true := by rfl) (h4 : ∀ X, κ.F X → (backTo cpos (starEach [] X.env)).any (·.1) = false := by intro _ _; rfl)
    (hs : ∀ X, κ.F X → swapsWith (.Call (.Attribute (.Name x npos) "append" apos) [e] [] cpos) none pos.line X.env = pure false := by intro _ _; rfl) : Ps κ r (.Expr (.Call (.Attribute (.Name x npos) "append" apos) [e] [] cpos) pos) Γ W := fun B σ C H at_ E o => by
  obtain ⟨q, vs, g1, g2, g3⟩ := at_.own i ds hg
  refine ⟨tDrop (tBM κ.K "list" rAppend (tVar i) (tCons (xe κ e) tNil)), fun X hX => ps_expr ?_ (hs X hX), .ref q, g1, .inl ⟨rfl, vs, .inl (.inl (at_.ok.cel q vs g2))⟩, h B σ C H at_ _ fun d v H' kd at1 e1 i1 => ?_⟩
  · rw [← Kx.hK hX]
    exact pe_bm PySem.F.plainAttrs_list PySem.F.slot_list_append PySem.F.type_list_append mt_append (own_name (ds := ds) hN hv hd hcd X hX) (pa_cons (xe_ok e hX) pa_nil (h1 X hX)) (by rfl) (h2 X hX) h3 (h1 X hX) (h4 X hX)
  · obtain ⟨q', vs', w1, w2, w3⟩ := at1.own i ds hg
    rw [g1] at w1
    cases w1
    refine ⟨q, vs', v, rfl, rfl, at1.ok.cel q vs' w2, Nat.lt_of_lt_of_le (by rw [← w3.len]; exact hl) (by decide), ?_⟩
    exact o.nx _ _ _ _ (hn d kd) (at1.change hg g1 (IsA.append w3 (IsA.one i1)))
/-- x.extend(e) -/
theorem s_extend {i : Nat} {ds : List D} {apos npos cpos : Pos} (hN : κ.N[i]? = some x) (hv : Vis κ.sc x) (hd : (x == ("__debug__" : Str)) = false) (hcd : (x == ("__classdict__" : Str)) = false) (hg : Γ[i]? = some (.own ds)) (h : Pe κ r e Γ k)
    (hn : ∀ d, k d → ∃ es, d = .lst es ∧ ds.length + es.length ≤ 16000000 ∧ W.nx (Γ.set i (.own (ds ++ es))))
    (h1 : ∀ X, κ.F X → starEach [e] X.env = (false, eval e X.env) :: starEach [] X.env := by intro _ _; rfl)
    (h2 : ∀ X, κ.F X → ((backTo cpos (starEach [e] X.env)).all (fun x => !x.1) && (backToKw cpos (keywordEach [] X.env)).all (fun x => x.1.isSome)
      && decide (([e] : List Expr).length + ([] : List Keyword).length + (if ([] : List Keyword).isEmpty then 0 else 1) < 30)) = true := by intro _ _; rfl)
    (h3 : (apos.endLine == cpos.line) = true := by rfl) (h4 : ∀ X, κ.F X → (backTo cpos (starEach [] X.env)).any (·.1) = false := by intro _ _; rfl)
    (hs : ∀ X, κ.F X → swapsWith (.Call (.Attribute (.Name x npos) "extend" apos) [e] [] cpos) none pos.line X.env = pure false := by intro _ _; rfl) : Ps κ r (.Expr (.Call (.Attribute (.Name x npos) "extend" apos) [e] [] cpos) pos) Γ W := fun B σ C H at_ E o => by
  obtain ⟨q, vs, g1, g2, g3⟩ := at_.own i ds hg
  refine ⟨tDrop (tBM κ.K "list" rExtend (tVar i) (tCons (xe κ e) tNil)), fun X hX => ps_expr ?_ (hs X hX), .ref q, g1, .inl ⟨rfl, vs, .inl (.inl (at_.ok.cel q vs g2))⟩, h B σ C H at_ _ fun d v H' kd at1 e1 i1 => ?_⟩
  · rw [← Kx.hK hX]
    exact pe_bm PySem.F.plainAttrs_list PySem.F.slot_list_extend PySem.F.type_list_extend mt_extend (own_name (ds := ds) hN hv hd hcd X hX) (pa_cons (xe_ok e hX) pa_nil (h1 X hX)) (by rfl) (h2 X hX) h3 (h1 X hX) (h4 X hX)
  · obtain ⟨q', vs', w1, w2, w3⟩ := at1.own i ds hg
    rw [g1] at w1
    cases w1
    obtain ⟨es, ed, hl, hw⟩ := hn d kd
    subst ed
    obtain ⟨b, zs, eb, hb, ib⟩ := i1
    subst eb
    refine ⟨q, b, vs', zs, rfl, rfl, at1.ok.cel q vs' w2, (hid_some hb).1, Nat.le_trans (by rw [← w3.len, ← ib.len]; exact hl) (by decide), ?_⟩
    exact o.nx _ _ _ _ hw (at1.change hg g1 (IsA.append w3 ib))
/-- x[e] = v -/
theorem s_item {i : Nat} {ds : List D} {ki : D → Prop} {v : Expr} {npos spos : Pos} (hN : κ.N[i]? = some x) (hv : Vis κ.sc x) (hd : (x == ("__debug__" : Str)) = false) (hcd : (x == ("__classdict__" : Str)) = false) (hg : Γ[i]? = some (.own ds)) (h : Pe κ r v Γ k) (hj : Pe κ r e Γ ki)
    (hn : ∀ d j, k d → ki j → ∃ n : Nat, j = .int n ∧ n < ds.length ∧ W.nx (Γ.set i (.own (ds.set n d))))
    (ha : ∀ X, κ.F X → ∀ z, assign (.Subscript (.Name x npos) e spos) X.env z = (do
      let ov ← holding [z] (eval (.Name x npos) X.env)
      let iv ← holding [z, ov] (eval e X.env)
      standAt spos
      holding [z, ov, iv] (setItem ov iv z)
      release [z, ov, iv] []) := by intro _ _ _; rfl)
    (hs : ∀ X, κ.F X → swapsWithSole [.Subscript (.Name x npos) e spos] v pos.line X.env = pure false := by intro _ _; rfl)
    (hw : ∀ X, κ.F X → swappedStores [.Subscript (.Name x npos) e spos] v X.env = pure none := by intro _ _; rfl)
    (h1 : ∀ X, κ.F X → (assignEach [.Subscript (.Name x npos) e spos] X.env).map (·.2) = [assign (.Subscript (.Name x npos) e spos) X.env] := by intro _ _; rfl) : Ps κ r (.Assign [.Subscript (.Name x npos) e spos] v pos) Γ W := fun B σ C H at_ E o => by
  obtain ⟨q, vs, g1, g2, g3⟩ := at_.own i ds hg
  refine ⟨tAsg (xe κ v) (gSub (tVar i) (xe κ e) rSetL), fun X hX => ps_asg (xe_ok v hX) (pg_sub (own_name (ds := ds) hN hv hd hcd X hX) (xe_ok e hX) set_list (ha X hX)) (hs X hX) (hw X hX) (h1 X hX), h B σ C H at_ _ fun d u H1 kd at1 e1 i1 => ⟨.ref q, g1, hj B σ C H1 at1 _ fun j w H2 kj at2 e2 i2 => ?_⟩⟩
  obtain ⟨n, ej, hl, hw⟩ := hn d j kd kj
  subst ej
  obtain ⟨q', vs', w1, w2, w3⟩ := at2.own i ds hg
  rw [g1] at w1
  cases w1
  have hn' : n < vs'.length := by rw [← w3.len]; exact hl
  refine ⟨q, vs', n, n, rfl, i2, at2.ok.cel q vs' w2, ?_, o.nx _ _ _ _ hw (at2.change hg g1 (IsA.set n (Is.mono e2 _ _ i1) w3))⟩
  unfold ixN
  rw [if_pos (by omega), if_pos (by omega)]
  simp
/-! #### a row of values, some of them new lists -/
theorem At.pre {K : PySem.W.Frag} {B : Hp} {Γ1 : Gm} {σ σ1 : L2.St} {C : Cl} {H : Hp} (a : At K r B (Γ ++ Γ1) (σ ++ σ1) C H) (hl : σ.length = Γ.length) : At K r B Γ σ C H := by
  have g : ∀ {i : Nat} {s : Sl}, Γ[i]? = some s → (Γ ++ Γ1)[i]? = some s ∧ (σ ++ σ1)[i]? = σ[i]? := fun {i s} h => by
    have hi : i < Γ.length := (List.getElem?_eq_some_iff.mp h).1
    exact ⟨by rw [List.getElem?_append_left hi]; exact h, List.getElem?_append_left (by rw [hl]; exact hi)⟩
  refine ⟨a.ok, a.ext, hl, fun i d h => ?_, fun i ds h => ?_, fun i j ds es p ne h1 h2 => ?_⟩
  · obtain ⟨q1, q2⟩ := g h
    rw [← q2]; exact a.val i d q1
  · obtain ⟨q1, q2⟩ := g h
    rw [← q2]; exact a.own i ds q1
  · obtain ⟨q1, q2⟩ := g h1
    obtain ⟨q3, q4⟩ := g h2
    rw [← q2, ← q4]
    exact a.inj i j ds es p ne q1 q3
theorem at_last {α : Type} {l : List α} {x y : α} {i : Nat} (h : (l ++ [x])[i]? = some y) : l[i]? = some y ∧ i < l.length ∨ i = l.length ∧ y = x := by
  by_cases hi : i < l.length
  · rw [List.getElem?_append_left hi] at h; exact .inl ⟨h, hi⟩
  · have hi2 : i < (l ++ [x]).length := (List.getElem?_eq_some_iff.mp h).1
    rw [List.length_append, List.length_singleton] at hi2
    have e : i = l.length := by omega
    subst e
    rw [List.getElem?_append_right (Nat.le_refl _), Nat.sub_self] at h
    exact .inr ⟨rfl, (Option.some.inj h).symm⟩
theorem at_end {α : Type} (l : List α) (x : α) : (l ++ [x])[l.length]? = some x := by
  rw [List.getElem?_append_right (Nat.le_refl _), Nat.sub_self]; rfl
theorem At.push {K : PySem.W.Frag} {B : Hp} {σ : L2.St} {C : Cl} {H : Hp} (a : At K r B Γ σ C H) {d : D} {v : V} (hv : Is K (hid r C H) d v) : At K r B (Γ ++ [.val d]) (σ ++ [some v]) C H := by
  refine ⟨a.ok, a.ext, by rw [List.length_append, List.length_append, a.len]; rfl, fun i d' h => ?_, fun i ds h => ?_, fun i j ds es p ne h1 h2 => ?_⟩
  · rcases at_last h with ⟨h, hi⟩ | ⟨e, h⟩
    · rw [List.getElem?_append_left (by rw [a.len]; exact hi)]; exact a.val i d' h
    · cases h; subst e; rw [← a.len]; exact ⟨v, at_end σ _, hv⟩
  · rcases at_last h with ⟨h, hi⟩ | ⟨e, h⟩
    · rw [List.getElem?_append_left (by rw [a.len]; exact hi)]; exact a.own i ds h
    · cases h
  · rcases at_last h1 with ⟨h1, hi⟩ | ⟨e, h1⟩
    · rcases at_last h2 with ⟨h2, hj⟩ | ⟨e, h2⟩
      · rw [List.getElem?_append_left (by rw [a.len]; exact hi), List.getElem?_append_left (by rw [a.len]; exact hj)]
        exact a.inj i j ds es p ne h1 h2
      · cases h2
    · cases h1
theorem At.pushOwn {K : PySem.W.Frag} {B : Hp} {σ : L2.St} {C : Cl} {H H' : Hp} (a : At K r B Γ σ C H) {p : Addr} {ds : List D} {vs : List V} (hp : H p = none) (k : Okc r (C.put p vs) H') (e : Ex (hid r C H) (hid r (C.put p vs) H')) (hv : IsA K (hid r (C.put p vs) H') ds vs) :
    At K r B (Γ ++ [.own ds]) (σ ++ [some (.ref p)]) (C.put p vs) H' := by
  have np : ∀ (j : Nat) (es : List D) (q : Addr), Γ[j]? = some (.own es) → σ[j]? = some (some (.ref q)) → q ≠ p := fun j es q hj hq z => by
    subst z
    obtain ⟨q', ws, h1, h2, _⟩ := a.own j es hj
    rw [hq] at h1
    cases h1
    rw [a.ok.cel _ _ h2] at hp; cases hp
  refine ⟨k, a.ext.trans e, by rw [List.length_append, List.length_append, a.len]; rfl, fun i d' h => ?_, fun i es h => ?_, fun i j fs es q ne h1 h2 => ?_⟩
  · rcases at_last h with ⟨h, hi⟩ | ⟨e', h⟩
    · rw [List.getElem?_append_left (by rw [a.len]; exact hi)]
      obtain ⟨v, h1, h2⟩ := a.val i d' h
      exact ⟨v, h1, Is.mono e _ _ h2⟩
    · cases h
  · rcases at_last h with ⟨h, hi⟩ | ⟨e', h⟩
    · rw [List.getElem?_append_left (by rw [a.len]; exact hi)]
      obtain ⟨q, ws, h1, h2, h3⟩ := a.own i es h
      exact ⟨q, ws, h1, by rw [Cl.put_ne (np i es q h h1)]; exact h2, IsA.mono e _ _ h3⟩
    · cases h; subst e'; rw [← a.len]; exact ⟨p, vs, at_end σ _, Cl.put_same, hv⟩
  · rcases at_last h1 with ⟨h1, hi⟩ | ⟨e', h1⟩
    · rw [List.getElem?_append_left (by rw [a.len]; exact hi)]
      rcases at_last h2 with ⟨h2, hj⟩ | ⟨e', h2⟩
      · rw [List.getElem?_append_left (by rw [a.len]; exact hj)]
        exact a.inj i j fs es q ne h1 h2
      · subst e'
        rw [← a.len, at_end]
        intro hq hq2
        cases hq2
        exact np i fs p h1 hq rfl
    · subst e'
      rw [← a.len, at_end]
      intro hq
      cases hq
      rcases at_last h2 with ⟨h2, hj⟩ | ⟨e', h2⟩
      · rw [List.getElem?_append_left (by rw [a.len]; exact hj)]
        intro hq2
        exact np j es p h2 hq2 rfl
      · exact absurd e'.symm ne
/-- the names hold what other names held -/
theorem At.ren {K : PySem.W.Frag} {B : Hp} {Γ0 Γ' : Gm} {σ0 σ' : L2.St} {C : Cl} {H : Hp} (a : At K r B Γ0 σ0 C H) (f : Nat → Nat) (hl : σ'.length = Γ'.length) (h : ∀ (m : Nat) (s : Sl), Γ'[m]? = some s → s = .no ∨ (Γ0[f m]? = some s ∧ σ'[m]? = σ0[f m]?))
    (hf : ∀ m n, m < Γ'.length → n < Γ'.length → f m = f n → m = n) : At K r B Γ' σ' C H := by
  refine ⟨a.ok, a.ext, hl, fun i d hi => ?_, fun i ds hi => ?_, fun i j ds es p ne h1 h2 => ?_⟩
  · rcases h i _ hi with e | ⟨e1, e2⟩
    · cases e
    · rw [e2]; exact a.val _ d e1
  · rcases h i _ hi with e | ⟨e1, e2⟩
    · cases e
    · rw [e2]; exact a.own _ ds e1
  · rcases h i _ h1 with e | ⟨e1, e2⟩
    · cases e
    · rcases h j _ h2 with e | ⟨e3, e4⟩
      · cases e
      · rw [e2, e4]
        exact a.inj _ _ ds es p (fun z => ne (hf i j (List.getElem?_eq_some_iff.mp h1).1 (List.getElem?_eq_some_iff.mp h2).1 z)) e1 e3
/-- the first value behind is stored at a name -/
theorem At.move {K : PySem.W.Frag} {B : Hp} {Γ1 : Gm} {σ σ1 : L2.St} {C : Cl} {H : Hp} {s : Sl} {v : Option V} (a : At K r B (Γ ++ s :: Γ1) (σ ++ v :: σ1) C H) (hl : σ.length = Γ.length) (i : Nat) (hi : i < Γ.length) : At K r B (Γ.set i s ++ Γ1) (σ.set i v ++ σ1) C H := by
  have hl2 : (σ ++ v :: σ1).length = (Γ ++ s :: Γ1).length := a.len
  refine a.ren (fun m => if m < Γ.length then (if m = i then Γ.length else m) else m + 1) (by simp at hl2 ⊢; omega) (fun m s' hm => .inr ?_) (fun m n hm hn e => ?_)
  · by_cases hlt : m < Γ.length
    · rw [List.getElem?_append_left (by rw [List.length_set]; exact hlt)] at hm
      rw [List.getElem?_append_left (l₁ := σ.set i v) (by rw [List.length_set, hl]; exact hlt)]
      by_cases e : m = i
      · subst e
        rw [List.getElem?_set_self hlt] at hm
        cases hm
        simp only [if_pos hlt, if_true]
        rw [List.getElem?_set_self (by rw [hl]; exact hlt), List.getElem?_append_right (Nat.le_refl _), Nat.sub_self, ← hl, List.getElem?_append_right (Nat.le_refl _), Nat.sub_self]
        exact ⟨rfl, rfl⟩
      · simp only [if_pos hlt, if_neg e]
        rw [List.getElem?_append_left hlt, List.getElem?_append_left (l₁ := σ) (by rw [hl]; exact hlt), List.getElem?_set_ne (Ne.symm e)]
        rw [List.getElem?_set_ne (Ne.symm e)] at hm
        exact ⟨hm, rfl⟩
    · simp only [if_neg hlt]
      rw [List.getElem?_append_right (by rw [List.length_set]; omega), List.length_set] at hm
      rw [List.getElem?_append_right (l₁ := Γ) (by omega), List.getElem?_append_right (l₁ := σ.set i v) (by rw [List.length_set]; omega), List.length_set, List.getElem?_append_right (l₁ := σ) (by omega), hl]
      rw [show m + 1 - Γ.length = (m - Γ.length) + 1 by omega, List.getElem?_cons_succ, List.getElem?_cons_succ]
      exact ⟨hm, rfl⟩
  · have e' : (if m < Γ.length then (if m = i then Γ.length else m) else m + 1) = (if n < Γ.length then (if n = i then Γ.length else n) else n + 1) := e
    by_cases m1 : m < Γ.length
    · rw [if_pos m1] at e'
      by_cases n1 : n < Γ.length
      · rw [if_pos n1] at e'
        by_cases m2 : m = i
        · rw [if_pos m2] at e'
          by_cases n2 : n = i
          · omega
          · rw [if_neg n2] at e'; omega
        · rw [if_neg m2] at e'
          by_cases n2 : n = i
          · rw [if_pos n2] at e'; omega
          · rw [if_neg n2] at e'; omega
      · rw [if_neg n1] at e'
        by_cases m2 : m = i
        · rw [if_pos m2] at e'; omega
        · rw [if_neg m2] at e'; omega
    · rw [if_neg m1] at e'
      by_cases n1 : n < Γ.length
      · rw [if_pos n1] at e'
        by_cases n2 : n = i
        · rw [if_pos n2] at e'; omega
        · rw [if_neg n2] at e'; omega
      · rw [if_neg n1] at e'; omega
def Pv (κ : Kx) (r : Reg) (es : List Expr) (Γ : Gm) (k : List Sl → Prop) : Prop := ∀ B σ (Γ1 : Gm) (σ1 : L2.St) C H, σ.length = Γ.length → At κ.K r B (Γ ++ Γ1) (σ ++ σ1) C H → ∀ Q : List V → Hp → Prop,
  (∀ ss vs C' H', k ss → ss.length = vs.length → At κ.K r B ((Γ ++ Γ1) ++ ss) ((σ ++ σ1) ++ vs.map some) C' H' → Q vs H') → xa κ es σ H Q
theorem v_nil {kv : List Sl → Prop} (h : kv []) : Pv κ r [] Γ kv := fun B σ Γ1 σ1 C H hl at_ Q q => ⟨tNil, fun X hX => pa_nil, q [] [] C H h rfl (by rw [List.append_nil, List.map_nil, List.append_nil]; exact at_)⟩
theorem v_val {kr kv : List Sl → Prop} (hs : ∀ X, κ.F X → starEach (e :: es) X.env = (false, eval e X.env) :: starEach es X.env) (ha : Pe κ r e Γ k) (hr : Pv κ r es Γ kr) (h : ∀ d ss, k d → kr ss → kv (.val d :: ss)) : Pv κ r (e :: es) Γ kv := fun B σ Γ1 σ1 C H hl at_ Q q =>
  ⟨tCons (xe κ e) (xa κ es), fun X hX => pa_cons (xe_ok e hX) (xa_ok es hX) (hs X hX), ha B σ C H (at_.pre hl) _ fun d v H1 kd at1 e1 i1 => by
    have at2 := (at_.step at1.ok e1).push i1
    rw [List.append_assoc, List.append_assoc] at at2
    refine hr B σ (Γ1 ++ [.val d]) (σ1 ++ [some v]) C H1 hl at2 _ fun ss vs C' H2 ks hlen at3 => q (.val d :: ss) (v :: vs) C' H2 (h d ss kd ks) (by rw [List.length_cons, List.length_cons, hlen]) ?_
    have e1 : ((Γ ++ Γ1) ++ (Sl.val d :: ss)) = ((Γ ++ (Γ1 ++ [Sl.val d])) ++ ss) := by simp
    have e2 : ((σ ++ σ1) ++ (v :: vs).map some) = ((σ ++ (σ1 ++ [some v])) ++ vs.map some) := by simp
    rw [e1, e2]
    exact at3⟩
theorem v_new {kn : List D → Prop} {kr kv : List Sl → Prop} (hs : ∀ X, κ.F X → starEach (e :: es) X.env = (false, eval e X.env) :: starEach es X.env) (ha : Pn κ r e Γ kn) (hr : Pv κ r es Γ kr) (h : ∀ ds ss, kn ds → kr ss → kv (.own ds :: ss)) : Pv κ r (e :: es) Γ kv := fun B σ Γ1 σ1 C H hl at_ Q q =>
  ⟨tCons (xe κ e) (xa κ es), fun X hX => pa_cons (xe_ok e hX) (xa_ok es hX) (hs X hX), ha B σ C H (at_.pre hl) _ fun ds p ws H1 kd np o1 e1 i1 => by
    have at2 := at_.pushOwn np o1 e1 i1
    rw [List.append_assoc, List.append_assoc] at at2
    refine hr B σ (Γ1 ++ [.own ds]) (σ1 ++ [some (.ref p)]) (C.put p ws) H1 hl at2 _ fun ss vs C' H2 ks hlen at3 => q (.own ds :: ss) (.ref p :: vs) C' H2 (h ds ss kd ks) (by rw [List.length_cons, List.length_cons, hlen]) ?_
    have e1 : ((Γ ++ Γ1) ++ (Sl.own ds :: ss)) = ((Γ ++ (Γ1 ++ [Sl.own ds])) ++ ss) := by simp
    have e2 : ((σ ++ σ1) ++ (V.ref p :: vs).map some) = ((σ ++ (σ1 ++ [some (V.ref p)])) ++ vs.map some) := by simp
    rw [e1, e2]
    exact at3⟩
/-- a, b = e1, e2 (plain local names) -/
theorem s_par {i j : Nat} {x y : Str} {px py pt : Pos} {kt k2 pt2} {kv : List Sl → Prop} (hi : κ.N[i]? = some x) (hj : κ.N[j]? = some y) (hij : i ≠ j) (hx : κ.sc.names.lookup x = some .local) (hy : κ.sc.names.lookup y = some .local) (hli : i < Γ.length) (hlj : j < Γ.length) (h : Pv κ r [a, b] Γ kv)
    (hn : ∀ ss, kv ss → ∃ s1 s2, ss = [s1, s2] ∧ W.nx ((Γ.set i s1).set j s2)) (hw : ∀ X, κ.F X → X.env.scope = κ.sc → swappedStores [.Tuple [.Name x px, .Name y py] kt pt] (.Tuple [a, b] k2 pt2) X.env = pure (some [x, y]))
    (hs : ∀ X, κ.F X → swapsWithSole [.Tuple [.Name x px, .Name y py] kt pt] (.Tuple [a, b] k2 pt2) pos.line X.env = pure false := by intro _ _; rfl) :
    Ps κ r (.Assign [.Tuple [.Name x px, .Name y py] kt pt] (.Tuple [a, b] k2 pt2) pos) Γ W := fun B σ C H at_ E o =>
  ⟨tPar i j (xa κ [a, b]), fun X hX => ps_par (Kx.calm hX) (by rw [Kx.hN hX]; exact Kx.nd hX) (by rw [Kx.hN hX]; exact hi) (by rw [Kx.hN hX]; exact hj) hij (by rw [Kx.hsc hX]; exact hx) (by rw [Kx.hsc hX]; exact hy) (xa_ok _ hX) (hw X hX (Kx.hsc hX)) (hs X hX), by
    refine h B σ [] [] C H at_.len (by rw [List.append_nil, List.append_nil]; exact at_) _ fun ss vs C' H' ks hl at1 => ?_
    obtain ⟨s1, s2, e1, hnx⟩ := hn ss ks
    subst e1
    match vs, hl with
    | [v, w], _ =>
      refine ⟨v, w, rfl, o.nx _ _ C' H' hnx ?_⟩
      rw [List.append_nil, List.append_nil] at at1
      have at2 := at1.move at_.len i hli
      have at3 := at2.move (by rw [List.length_set, List.length_set]; exact at_.len) j (by rw [List.length_set]; exact hlj)
      exact at3.pre (by simp [at_.len])⟩
theorem s_par3 {i j l : Nat} {x y z : Str} {px py pz pt : Pos} {kt k2 pt2} {kv : List Sl → Prop} (hi : κ.N[i]? = some x) (hj : κ.N[j]? = some y) (hl : κ.N[l]? = some z) (hij : i ≠ j) (hil : i ≠ l) (hjl : j ≠ l) (hx : κ.sc.names.lookup x = some .local) (hy : κ.sc.names.lookup y = some .local) (hz : κ.sc.names.lookup z = some .local)
    (hli : i < Γ.length) (hlj : j < Γ.length) (hll : l < Γ.length) (h : Pv κ r [a, b, c] Γ kv)
    (hn : ∀ ss, kv ss → ∃ s1 s2 s3, ss = [s1, s2, s3] ∧ W.nx (((Γ.set i s1).set j s2).set l s3)) (hw : ∀ X, κ.F X → X.env.scope = κ.sc → swappedStores [.Tuple [.Name x px, .Name y py, .Name z pz] kt pt] (.Tuple [a, b, c] k2 pt2) X.env = pure (some [x, y, z]))
    (hs : ∀ X, κ.F X → swapsWithSole [.Tuple [.Name x px, .Name y py, .Name z pz] kt pt] (.Tuple [a, b, c] k2 pt2) pos.line X.env = pure false := by intro _ _; rfl) :
    Ps κ r (.Assign [.Tuple [.Name x px, .Name y py, .Name z pz] kt pt] (.Tuple [a, b, c] k2 pt2) pos) Γ W := fun B σ C H at_ E o =>
  ⟨tPar3 i j l (xa κ [a, b, c]), fun X hX => ps_par3 (Kx.calm hX) (by rw [Kx.hN hX]; exact Kx.nd hX) (by rw [Kx.hN hX]; exact hi) (by rw [Kx.hN hX]; exact hj) (by rw [Kx.hN hX]; exact hl) hij hil hjl (by rw [Kx.hsc hX]; exact hx) (by rw [Kx.hsc hX]; exact hy) (by rw [Kx.hsc hX]; exact hz) (xa_ok _ hX) (hw X hX (Kx.hsc hX)) (hs X hX), by
    refine h B σ [] [] C H at_.len (by rw [List.append_nil, List.append_nil]; exact at_) _ fun ss vs C' H' ks hl at1 => ?_
    obtain ⟨s1, s2, s3, e1, hnx⟩ := hn ss ks
    subst e1
    match vs, hl with
    | [v, w, u], _ =>
      refine ⟨v, w, u, rfl, o.nx _ _ C' H' hnx ?_⟩
      rw [List.append_nil, List.append_nil] at at1
      have at2 := at1.move at_.len i hli
      have at3 := at2.move (by rw [List.length_set, List.length_set]; exact at_.len) j (by rw [List.length_set]; exact hlj)
      have at4 := at3.move (by simp [at_.len]) l (by simpa using hll)
      exact at4.pre (by simp [at_.len])⟩
end
end Dv

set_option Elab.async false
set_option linter.all false
set_option maxRecDepth 100000
set_option maxHeartbeats 4000000
/-! targets, loops, comprehensions, calls, defs at the data level -/
namespace Dv
open PySem PySem.Spec PyProof.Rows L2

/-! ### targets -/
/-- the target holds the data d behind the store -/
def Tg (κ : Kx) (r : Reg) (tg : Expr) (g : TG) (d : D) (Γ Γ' : Gm) : Prop := ∀ B σ C H v, At κ.K r B Γ σ C H → Is κ.K (hid r C H) d v → ∀ Q : L2.St → Hp → Prop, (∀ σ', At κ.K r B Γ' σ' C H → Q σ' H) → g v σ H Q
section
variable {κ : Kx} {r : Reg} {Γ Γ' : Gm} {e a b c tg iter : Expr} {es : List Expr} {k : D → Prop} {kn : List D → Prop} {x y z : Str} {pos p p' : Pos} {W : Wt} {st : Stmt} {rest body : List Stmt}
theorem tg_name (i : Nat) (d : D) : Tg κ r tg (gName i) d Γ (Γ.set i (.val d)) := fun B σ C H v a is Q q => q _ (a.set i is)
theorem pg_name' {i : Nat} (s : Sto κ i x) {X : Cx} (h : κ.F X) : PG X (.Name x pos) (gName i) := pg_name (by rw [Kx.hN h]; exact Kx.nd h) (by rw [Kx.hN h]; exact s.hi) (s.loc h) (s.fn h)
/-- a tuple of two names -/
def gT2 (K : PySem.W.Frag) (i j : Nat) : TG := gTup K 2 (gCons (gName i) (gCons (gName j) gNil))
theorem pg_t2 {i j : Nat} {kt} {p1 p2 : Pos} (s1 : Sto κ i x) (s2 : Sto κ j y) {X : Cx} (h : κ.F X) : PG X (.Tuple [.Name x p1, .Name y p2] kt pos) (gT2 κ.K i j) := by
  rw [← Kx.hK h]
  exact pg_tup (Kx.calm h) (pgs_cons (pg_name' s1 h) (pgs_cons (pg_name' s2 h) pgs_nil (by rfl)) (by rfl)) (by rfl) (by rfl)
theorem tg_t2 (i j : Nat) (d1 d2 : D) : Tg κ r tg (gT2 κ.K i j) (.tup [d1, d2]) Γ ((Γ.set i (.val d1)).set j (.val d2)) := fun B σ C H v at_ is Q q => by
  obtain ⟨q', vs, ev, hq, v1, r1, e1, i1, v2, r2, e2, i2, e3⟩ := is
  subst ev e1 e2
  obtain rfl : r2 = [] := e3
  exact ⟨q', _, rfl, exSqT (hid_ex r C H) hq, rfl, v1, [v2], rfl, v2, [], rfl, rfl, q _ ((at_.set i i1).set j i2)⟩
def gT3 (K : PySem.W.Frag) (i j l : Nat) : TG := gTup K 3 (gCons (gName i) (gCons (gName j) (gCons (gName l) gNil)))
theorem pg_t3 {i j l : Nat} {kt} {p1 p2 p3 : Pos} (s1 : Sto κ i x) (s2 : Sto κ j y) (s3 : Sto κ l z) {X : Cx} (h : κ.F X) : PG X (.Tuple [.Name x p1, .Name y p2, .Name z p3] kt pos) (gT3 κ.K i j l) := by
  rw [← Kx.hK h]
  exact pg_tup (Kx.calm h) (pgs_cons (pg_name' s1 h) (pgs_cons (pg_name' s2 h) (pgs_cons (pg_name' s3 h) pgs_nil (by rfl)) (by rfl)) (by rfl)) (by rfl) (by rfl)
theorem tg_t3 (i j l : Nat) (d1 d2 d3 : D) : Tg κ r tg (gT3 κ.K i j l) (.tup [d1, d2, d3]) Γ (((Γ.set i (.val d1)).set j (.val d2)).set l (.val d3)) := fun B σ C H v at_ is Q q => by
  obtain ⟨q', vs, ev, hq, v1, r1, e1, i1, v2, r2, e2, i2, v3, r3, e3, i3, e4⟩ := is
  subst ev e1 e2 e3
  obtain rfl : r3 = [] := e4
  exact ⟨q', _, rfl, exSqT (hid_ex r C H) hq, rfl, v1, [v2, v3], rfl, v2, [v3], rfl, v3, [], rfl, rfl, q _ (((at_.set i i1).set j i2).set l i3)⟩
/-- a, b = e, e one tuple -/
theorem s_asg {g : TG} (hp : ∀ X, κ.F X → PG X tg g) (h : Pe κ r e Γ k) (hn : ∀ d, k d → ∃ Γ', Tg κ r tg g d Γ Γ' ∧ W.nx Γ')
    (hs : ∀ X, κ.F X → swapsWithSole [tg] e pos.line X.env = pure false := by intro _ _; rfl) (hw : ∀ X, κ.F X → swappedStores [tg] e X.env = pure none := by intro _ _; rfl)
    (h1 : ∀ X, κ.F X → (assignEach [tg] X.env).map (·.2) = [assign tg X.env] := by intro _ _; rfl) : Ps κ r (.Assign [tg] e pos) Γ W := fun B σ C H at_ E o =>
  ⟨tAsg (xe κ e) g, fun X hX => ps_asg (xe_ok e hX) (hp X hX) (hs X hX) (hw X hX) (h1 X hX), h B σ C H at_ _ fun d v H' kd at1 e1 i1 => by
    obtain ⟨Γ', ht, hnx⟩ := hn d kd
    exact ht B σ C H' v at1 i1 _ fun σ' a => o.nx Γ' σ' C H' hnx a⟩
/-- a, b, c = e1, e2, e3 where one of the names is captured: the tuple is made -/
theorem s_tup3 {i j l : Nat} {kt k2 pt2} {px py pz pt : Pos} {kv : List Sl → Prop} (s1 : Sto κ i x) (s2 : Sto κ j y) (s3 : Sto κ l z) (hli : i < Γ.length) (hlj : j < Γ.length) (hll : l < Γ.length) (h : Pv κ r [a, b, c] Γ kv)
    (hn : ∀ ss, kv ss → ∃ s1 s2 s3, ss = [s1, s2, s3] ∧ W.nx (((Γ.set i s1).set j s2).set l s3))
    (hs : ∀ X, κ.F X → swapsWithSole [.Tuple [.Name x px, .Name y py, .Name z pz] kt pt] (.Tuple [a, b, c] k2 pt2) pos.line X.env = pure false := by intro _ _; rfl) (hw : ∀ X, κ.F X → X.env.scope = κ.sc → swappedStores [.Tuple [.Name x px, .Name y py, .Name z pz] kt pt] (.Tuple [a, b, c] k2 pt2) X.env = pure none)
    (h1 : ∀ X, κ.F X → (assignEach [.Tuple [.Name x px, .Name y py, .Name z pz] kt pt] X.env).map (·.2) = [assign (.Tuple [.Name x px, .Name y py, .Name z pz] kt pt) X.env] := by intro _ _; rfl) : Ps κ r (.Assign [.Tuple [.Name x px, .Name y py, .Name z pz] kt pt] (.Tuple [a, b, c] k2 pt2) pos) Γ W := fun B σ C H at_ E o =>
  ⟨tAsg (tTup (xa κ [a, b, c])) (gT3 κ.K i j l), fun X hX => ps_asg (pe_tup (xa_ok _ hX)) (pg_t3 s1 s2 s3 hX) (hs X hX) (hw X hX (Kx.hsc hX)) (h1 X hX), by
    refine h B σ [] [] C H at_.len (by rw [List.append_nil, List.append_nil]; exact at_) _ fun ss vs C' H' ks hl at1 => ?_
    obtain ⟨t1, t2, t3, e1, hnx⟩ := hn ss ks
    subst e1
    match vs, hl with
    | [v, w, u], _ =>
      refine ⟨by show 3 ≤ sizeLine; decide, fun q nq => ⟨q, _, rfl, .inl (.inl upd_same), rfl, v, [w, u], rfl, w, [u], rfl, u, [], rfl, rfl, ?_⟩⟩
      rw [List.append_nil, List.append_nil] at at1
      obtain ⟨ok2, e2, _⟩ := at1.ok.new (o := .tup [v, w, u]) nq
      have at1 := at1.step ok2 e2
      have at2 := at1.move at_.len i hli
      have at3 := at2.move (by rw [List.length_set, List.length_set]; exact at_.len) j (by rw [List.length_set]; exact hlj)
      have at4 := at3.move (by simp [at_.len]) l (by simpa using hll)
      exact o.nx _ _ C' _ hnx (at4.pre (by simp [at_.len]))⟩
/-- a, b = e1, e2 where one of the names is captured -/
theorem s_tup2 {i j : Nat} {kt k2 pt2} {px py pt : Pos} {kv : List Sl → Prop} (s1 : Sto κ i x) (s2 : Sto κ j y) (hli : i < Γ.length) (hlj : j < Γ.length) (h : Pv κ r [a, b] Γ kv)
    (hn : ∀ ss, kv ss → ∃ s1 s2, ss = [s1, s2] ∧ W.nx ((Γ.set i s1).set j s2))
    (hs : ∀ X, κ.F X → swapsWithSole [.Tuple [.Name x px, .Name y py] kt pt] (.Tuple [a, b] k2 pt2) pos.line X.env = pure false) (hw : ∀ X, κ.F X → X.env.scope = κ.sc → swappedStores [.Tuple [.Name x px, .Name y py] kt pt] (.Tuple [a, b] k2 pt2) X.env = pure none)
    (h1 : ∀ X, κ.F X → (assignEach [.Tuple [.Name x px, .Name y py] kt pt] X.env).map (·.2) = [assign (.Tuple [.Name x px, .Name y py] kt pt) X.env] := by intro _ _; rfl) : Ps κ r (.Assign [.Tuple [.Name x px, .Name y py] kt pt] (.Tuple [a, b] k2 pt2) pos) Γ W := fun B σ C H at_ E o =>
  ⟨tAsg (tTup (xa κ [a, b])) (gT2 κ.K i j), fun X hX => ps_asg (pe_tup (xa_ok _ hX)) (pg_t2 s1 s2 hX) (hs X hX) (hw X hX (Kx.hsc hX)) (h1 X hX), by
    refine h B σ [] [] C H at_.len (by rw [List.append_nil, List.append_nil]; exact at_) _ fun ss vs C' H' ks hl at1 => ?_
    obtain ⟨t1, t2, e1, hnx⟩ := hn ss ks
    subst e1
    match vs, hl with
    | [v, w], _ =>
      refine ⟨by show 2 ≤ sizeLine; decide, fun q nq => ⟨q, _, rfl, .inl (.inl upd_same), rfl, v, [w], rfl, w, [], rfl, rfl, ?_⟩⟩
      rw [List.append_nil, List.append_nil] at at1
      obtain ⟨ok2, e2, _⟩ := at1.ok.new (o := .tup [v, w]) nq
      have at1 := at1.step ok2 e2
      have at2 := at1.move at_.len i hli
      have at3 := at2.move (by rw [List.length_set, List.length_set]; exact at_.len) j (by rw [List.length_set]; exact hlj)
      exact o.nx _ _ C' _ hnx (at3.pre (by simp [at_.len]))⟩
/-! ### what is walked -/
def Walks (K : PySem.W.Frag) (r : Reg) (J : It) (ds : List D) (G : Hp) : Prop := ∀ C H, Okc r C H → Ex G (hid r C H) → ∀ i,
  (i < ds.length → J.go i H ∧ ∀ x H', J.yld i H x H' → ∃ d, ds[i]? = some d ∧ H' = H ∧ Is K (hid r C H) d x) ∧ (ds.length ≤ i → J.stop i H)
def Pi (κ : Kx) (r : Reg) (tg iter : Expr) (Γ : Gm) (k : List D → Prop) : Prop := ∀ B σ C H, At κ.K r B Γ σ C H → ∀ R : It → Hp → Prop,
  (∀ ds J H', k ds → At κ.K r B Γ σ C H' → Ex (hid r C H) (hid r C H') → Walks κ.K r J ds (hid r C H') → R J H') → xi κ tg iter σ H R
theorem walks_list {K : PySem.W.Frag} {C : Cl} {H : Hp} {p : Addr} {vs : List V} {ds : List D} (hp : hid r C H p = some (.lst vs)) (is : IsA K (hid r C H) ds vs) : Walks K r (Itl K p) ds (hid r C H) := fun C' H' k e i => by
  have h1 : SqL K H' p vs := .inl (.inl (hid_some (e p _ hp)).1)
  refine ⟨fun hi => ?_, fun hi => ⟨vs, h1, by rw [← is.len]; exact hi⟩⟩
  obtain ⟨v, hv, iv⟩ := is.get (List.getElem?_eq_getElem hi)
  refine ⟨⟨vs, v, h1, hv⟩, fun x H2 y => ⟨ds[i], List.getElem?_eq_getElem hi, y.1, ?_⟩⟩
  have := y.2 vs h1
  rw [hv] at this
  cases this
  exact Is.mono e _ _ iv
theorem walks_tup {K : PySem.W.Frag} {C : Cl} {H : Hp} {p : Addr} {vs : List V} {ds : List D} (hp : SqT K (hid r C H) p vs) (is : IsA K (hid r C H) ds vs) : Walks K r (Itt K p) ds (hid r C H) := fun C' H' k e i => by
  have h1 : SqT K H' p vs := exSqT (hid_ex r C' H') (exSqT e hp)
  refine ⟨fun hi => ?_, fun hi => ⟨vs, h1, by rw [← is.len]; exact hi⟩⟩
  obtain ⟨v, hv, iv⟩ := is.get (List.getElem?_eq_getElem hi)
  refine ⟨⟨vs, v, h1, hv⟩, fun x H2 y => ⟨ds[i], List.getElem?_eq_getElem hi, y.1, ?_⟩⟩
  have := y.2 vs h1
  rw [hv] at this
  cases this
  exact Is.mono e _ _ iv
/-- lo, lo + c, .. -/
def rngD (lo c : Int) (n : Nat) : List D := (List.range n).map fun i : Nat => D.int (lo + (i : Int) * c)
theorem rngD_len (lo c : Int) (n : Nat) : (rngD lo c n).length = n := by unfold rngD; rw [List.length_map, List.length_range]
theorem rngD_get {lo c : Int} {n i : Nat} (h : i < n) : (rngD lo c n)[i]? = some (.int (lo + (i : Int) * c)) := by
  unfold rngD
  rw [List.getElem?_map, List.getElem?_range h]; rfl
theorem walks_rng {K : PySem.W.Frag} {G : Hp} (lo : Int) (n : Nat) : Walks K r (Itr lo n) (rngD lo 1 n) G := fun C' H' k e i => by
  rw [rngD_len]
  refine ⟨fun hi => ⟨hi, fun x H2 y => ⟨_, rngD_get hi, y.1, ?_⟩⟩, fun hi => hi⟩
  rw [show lo + (i : Int) * 1 = lo + i by omega]
  exact y.2
theorem walks_rngC {K : PySem.W.Frag} {G : Hp} (lo c : Int) (n : Nat) : Walks K r (Itc lo c n) (rngD lo c n) G := fun C' H' k e i => by
  rw [rngD_len]
  exact ⟨fun hi => ⟨hi, fun x H2 y => ⟨_, rngD_get hi, y.1, y.2⟩⟩, fun hi => hi⟩
/-- the signs of a text -/
def signsD (s : Str) : List D := s.cps.toList.map fun c => D.str ⟨#[c]⟩
theorem walks_str {K : PySem.W.Frag} {G : Hp} (s : Str) : Walks K r (Its s) (signsD s) G := fun C' H' k e i => by
  have hl : (signsD s).length = s.cps.size := by unfold signsD; rw [List.length_map, Array.length_toList]
  rw [hl]
  refine ⟨fun hi => ⟨hi, fun x H2 y => ?_⟩, fun hi => hi⟩
  obtain ⟨y1, c, hc, hx⟩ := y
  refine ⟨.str ⟨#[c]⟩, ?_, y1, hx⟩
  unfold signsD
  rw [List.getElem?_map, Array.getElem?_toList, hc]; rfl
theorem i_list (h : Pe κ r e Γ fun d => ∃ ds, d = .lst ds ∧ kn ds) : Pi κ r tg e Γ kn := fun B σ C H at_ R q =>
  ⟨iList κ.K (xe κ e), fun X hX => by rw [← Kx.hK hX]; exact pi_list (xe_ok e hX), h B σ C H at_ _ fun d v H' kd at1 e1 i1 => by
    obtain ⟨ds, ed, hk⟩ := kd
    subst ed
    obtain ⟨p, vs, ev, hp, is⟩ := i1
    exact ⟨p, ev, ⟨vs, .inl (.inl (hid_some hp).1)⟩, q ds _ H' hk at1 e1 (walks_list hp is)⟩⟩
theorem i_tup (h : Pe κ r e Γ fun d => ∃ ds, d = .tup ds ∧ kn ds) : Pi κ r tg e Γ kn := fun B σ C H at_ R q =>
  ⟨iTup κ.K (xe κ e), fun X hX => by rw [← Kx.hK hX]; exact pi_tup (xe_ok e hX), h B σ C H at_ _ fun d v H' kd at1 e1 i1 => by
    obtain ⟨ds, ed, hk⟩ := kd
    subst ed
    obtain ⟨p, vs, ev, hp, is⟩ := i1
    exact ⟨p, ev, ⟨vs, exSqT (hid_ex r C H') hp⟩, q ds _ H' hk at1 e1 (walks_tup hp is)⟩⟩
theorem i_str (h : Pe κ r e Γ fun d => ∃ s, d = .str s ∧ kn (signsD s)) : Pi κ r tg e Γ kn := fun B σ C H at_ R q =>
  ⟨iStr (xe κ e), fun X hX => pi_str (xe_ok e hX), h B σ C H at_ _ fun d v H' kd at1 e1 i1 => by
    obtain ⟨s, ed, hk⟩ := kd
    subst ed
    exact ⟨s, i1, q _ _ H' hk at1 e1 (walks_str s)⟩⟩
theorem i_rng1 {kr : List D → Prop} (hg : κ.sc.names.lookup ("range" : Str) = some .globalImplicit) (hm : κ.mg ("range" : Str) = none) (h : Pa κ r [a] Γ kr) (hk : ∀ ds, kr ds → ∃ n : Int, ds = [.int n] ∧ n < 2 ^ 62 ∧ -(2 ^ 62) ≤ n ∧ kn (rngD 0 1 n.toNat)) (hs : ∀ X, κ.F X → starEach [a] X.env = [(false, eval a X.env)] := by intro _ _; rfl) : Pi κ r tg (.Call (.Name "range" p) [a] [] pos) Γ kn := fun B σ C H at_ R q =>
  ⟨iRng1 (xa κ [a]), fun X hX => pi_range1 (show X.env.scope.names.lookup _ = _ by rw [Kx.hsc hX]; exact hg) (by rw [Kx.hmg hX]; exact hm) (xa_ok _ hX) (hs X hX), h B σ C H at_ _ fun ds vs H' kd at1 e1 i1 => by
    obtain ⟨n, ed, h1, h2, h3⟩ := hk ds kd
    subst ed
    obtain ⟨v, vr, ev, iv, er⟩ := i1
    obtain rfl : vr = [] := er
    subst ev
    exact ⟨n, by rw [show v = V.int n from iv], h2, h1, q _ _ H' h3 at1 e1 (walks_rng 0 _)⟩⟩
theorem i_rng2 {kr : List D → Prop} (hg : κ.sc.names.lookup ("range" : Str) = some .globalImplicit) (hm : κ.mg ("range" : Str) = none) (h : Pa κ r [a, b] Γ kr) (hk : ∀ ds, kr ds → ∃ i n : Int, ds = [.int i, .int n] ∧ (-(2 ^ 62) ≤ i ∧ i < 2 ^ 62 ∧ -(2 ^ 62) ≤ n ∧ n < 2 ^ 62) ∧ kn (rngD i 1 (n - i).toNat)) (hs : ∀ X, κ.F X → starEach [a, b] X.env = [(false, eval a X.env), (false, eval b X.env)] := by intro _ _; rfl) (hs2 : ∀ X, κ.F X → starEach [b] X.env = [(false, eval b X.env)] := by intro _ _; rfl) : Pi κ r tg (.Call (.Name "range" p) [a, b] [] pos) Γ kn := fun B σ C H at_ R q =>
  ⟨iRng2 (xa κ [a, b]), fun X hX => pi_range2 (show X.env.scope.names.lookup _ = _ by rw [Kx.hsc hX]; exact hg) (by rw [Kx.hmg hX]; exact hm) (xa_ok _ hX) (hs X hX) (hs2 X hX), h B σ C H at_ _ fun ds vs H' kd at1 e1 i1 => by
    obtain ⟨i, n, ed, h1, h3⟩ := hk ds kd
    subst ed
    obtain ⟨v, vr, ev, iv, w, wr, ew, iw, er⟩ := i1
    obtain rfl : wr = [] := er
    subst ev ew
    exact ⟨i, n, by rw [show v = V.int i from iv, show w = V.int n from iw], h1, q _ _ H' h3 at1 e1 (walks_rng i _)⟩⟩
theorem i_rng3 {kr : List D → Prop} (hg : κ.sc.names.lookup ("range" : Str) = some .globalImplicit) (hm : κ.mg ("range" : Str) = none) (h : Pa κ r [a, b, c] Γ kr) (hk : ∀ ds, kr ds → ∃ (i n j : Int) (m : Nat), ds = [.int i, .int n, .int j] ∧ RgC i n j m ∧ kn (rngD i j m)) (hs : ∀ X, κ.F X → starEach [a, b, c] X.env = (false, eval a X.env) :: starEach [b, c] X.env := by intro _ _; rfl) (hs2 : ∀ X, κ.F X → (backTo pos (starEach [b, c] X.env)).any (·.1) = false := by intro _ _; rfl) : Pi κ r tg (.Call (.Name "range" p) [a, b, c] [] pos) Γ kn := fun B σ C H at_ R q =>
  ⟨iRng3 (xa κ [a, b, c]), fun X hX => pi_range3 (show X.env.scope.names.lookup _ = _ by rw [Kx.hsc hX]; exact hg) (by rw [Kx.hmg hX]; exact hm) (xa_ok _ hX) (hs X hX) (hs2 X hX), h B σ C H at_ _ fun ds vs H' kd at1 e1 i1 => by
    obtain ⟨i, n, j, m, ed, h1, h3⟩ := hk ds kd
    subst ed
    obtain ⟨v, vr, ev, iv, w, wr, ew, iw, u, ur, eu, iu, er⟩ := i1
    obtain rfl : ur = [] := er
    subst ev ew eu
    exact ⟨i, n, j, m, by rw [show v = V.int i from iv, show w = V.int n from iw, show u = V.int j from iu], h1, q _ _ H' h3 at1 e1 (walks_rngC i j m)⟩⟩
/-! ### loops -/
/-- up to what is forgotten -/
def Up (I : Gm → Prop) : Gm → Prop := fun Γ1 => ∃ Γ2, Wk Γ1 Γ2 ∧ I Γ2
theorem Up.of {I : Gm → Prop} (h : I Γ) : Up I Γ := ⟨Γ, Wk.refl Γ, h⟩
theorem s_for {g : TG} {ki : List D → Prop} (I : List D → Nat → Gm → Prop) (hi : Pi κ r tg iter Γ ki) (hp : ∀ X, κ.F X → PG X tg g) (h0 : ∀ ds, ki ds → I ds 0 Γ)
    (hs : ∀ ds i d Γ1, ki ds → ds[i]? = some d → I ds i Γ1 → ∃ Γ2, Tg κ r tg g d Γ1 Γ2 ∧ Bk κ r body Γ2 { W with nx := Up (I ds (i + 1)), ct := Up (I ds (i + 1)), bk := W.nx })
    (hd : ∀ ds Γ1, ki ds → I ds ds.length Γ1 → W.nx Γ1) (h1 : ∀ X, κ.F X → ∀ x, foldedSetIterable iter X.env x = pure x := by intro _ _ _; rfl) : Ps κ r (.For tg iter body [] pos) Γ W := fun B σ C H at_ E o =>
  ⟨tFor (xi κ tg iter) g (xss κ body), fun X hX => ps_for (Kx.passes hX) (Kx.calm hX) (xi_ok tg iter hX) (hp X hX) (xss_ok body hX) (h1 X hX), hi B σ C H at_ _ fun ds J H1 kd at1 e1 wk => by
    refine ⟨fun i m σ' H' => m = ds.length - i ∧ i ≤ ds.length ∧ ∃ Γ1 C1, I ds i Γ1 ∧ At κ.K r (hid r C H1) Γ1 σ' C1 H', ⟨_, rfl, Nat.zero_le _, Γ, C, h0 ds kd, at1.rebase⟩, ?_⟩
    rintro i m σ' H' ⟨rfl, hi', Γ1, C1, hI, at2⟩
    have w := wk C1 H' at2.ok at2.ext i
    by_cases hlt : i < ds.length
    · obtain ⟨go, yl⟩ := w.1 hlt
      refine .inr ⟨go, fun σ2 H2 => ∃ Γ2 C2, I ds (i + 1) Γ2 ∧ At κ.K r (hid r C H1) Γ2 σ2 C2 H2, fun σ2 H2 ⟨Γ2, C2, q1, q2⟩ => ⟨ds.length - (i + 1), by omega, rfl, hlt, Γ2, C2, q1, q2⟩, fun x H2 y => ?_⟩
      obtain ⟨d, hd', eH, id⟩ := yl x H2 y
      subst eH
      obtain ⟨Γ2, ht, hb⟩ := hs ds i d Γ1 kd hd' hI
      refine ht _ σ' C1 H2 x at2 id _ fun σ2 at3 => ?_
      have eb : Ex B (hid r C H1) := at1.ext
      have o' := o.base eb
      exact hb _ σ2 C1 H2 at3 _ ⟨fun Γ3 σ3 C3 H3 ⟨Γ4, w4, i4⟩ a3 => ⟨Γ4, C3, i4, a3.weak w4⟩, o'.rt, o'.rl, o'.nx, fun Γ3 σ3 C3 H3 ⟨Γ4, w4, i4⟩ a3 => ⟨Γ4, C3, i4, a3.weak w4⟩⟩
    · have e : i = ds.length := by omega
      subst e
      exact .inl ⟨w.2 (Nat.le_refl _), o.nx Γ1 σ' C1 H' (hd ds Γ1 kd hI) (at2.baseOf at1.ext)⟩⟩
theorem s_while (I : Nat → Gm → Prop) {m0 : Nat} (h0 : I m0 Γ)
    (hs : ∀ m Γ1, I m Γ1 → ∃ kt, Pt κ r c Γ1 kt ∧ (kt true → Bk κ r body Γ1 { W with nx := Up (fun Γ2 => ∃ m', m' < m ∧ I m' Γ2), ct := Up (fun Γ2 => ∃ m', m' < m ∧ I m' Γ2), bk := W.nx }) ∧ (kt false → W.nx Γ1)) : Ps κ r (.While c body [] pos) Γ W := fun B σ C H at_ E o =>
  ⟨tWhile (xt κ c) (xss κ body), fun X hX => ps_while (Kx.passes hX) (xt_ok c hX) (xss_ok body hX), by
    refine ⟨fun m σ' H' => ∃ Γ1 C1, I m Γ1 ∧ At κ.K r B Γ1 σ' C1 H', ⟨m0, Γ, C, h0, at_⟩, ?_⟩
    rintro m σ' H' ⟨Γ1, C1, hI, at2⟩
    obtain ⟨kt, ht, hb, he⟩ := hs m Γ1 hI
    refine ht B σ' C1 H' at2 _ fun b H2 kb at3 e3 => ?_
    cases b with
    | true =>
      refine iteT ⟨fun σ2 H2 => ∃ m', m' < m ∧ ∃ Γ2 C2, I m' Γ2 ∧ At κ.K r B Γ2 σ2 C2 H2, fun σ2 H2 ⟨m', hm, Γ2, C2, q1, q2⟩ => ⟨m', hm, Γ2, C2, q1, q2⟩, ?_⟩
      exact hb kb B σ' C1 H2 at3 _ ⟨fun Γ3 σ3 C3 H3 ⟨Γ4, w4, m', hm, i4⟩ a3 => ⟨m', hm, Γ4, C3, i4, a3.weak w4⟩, o.rt, o.rl, o.nx, fun Γ3 σ3 C3 H3 ⟨Γ4, w4, m', hm, i4⟩ a3 => ⟨m', hm, Γ4, C3, i4, a3.weak w4⟩⟩
    | false => exact iteF (o.nx Γ1 σ' C1 H2 (he kb) at3)⟩
end
end Dv

set_option Elab.async false
set_option linter.all false
set_option maxRecDepth 100000
set_option maxHeartbeats 4000000
/-! comprehensions, calls, defs at the data level -/
namespace Dv
open PySem PySem.Spec PyProof.Rows L2

/-! ### within a comprehension -/
def Kx.blk (κ : Kx) (scope : Scope) : Kx where
  K := κ.K
  mg := κ.mg
  N := κ.N
  sc := { scope with names := scope.names.map fun (n, k) => if (k == .free && κ.sc.kind == .function && κ.sc.names.lookup n == some .cell) then (n, .cell) else (n, k) }
  fn := fun x => scope.names.lookup x == some .cell
  lv := κ.lv
  F := fun Y => ∃ (X : Cx) (s : Shared) (H : Hp) (C : Addr) (cl : List (Str × Addr)) (fp : List Addr), κ.F X ∧ Y = X.blk s H scope (compEnvC scope cl C X.env) fp
  all := by
    rintro Y ⟨X, s, H, C, cl, fp, hX, rfl⟩
    refine ⟨show X.K = _ from Kx.hK hX, show X.mg = _ from Kx.hmg hX, show X.N = _ from Kx.hN hX, ?_, rfl, show X.calm = true from Kx.calm hX, show Room κ.lv X.A from Kx.room hX, Kx.nd hX, rfl⟩
    rw [← Kx.hsc hX] <;> rfl
section
variable {K : PySem.W.Frag} {r : Reg} {B : Hp} {Γ : Gm} {σ : L2.St} {C : Cl} {H : Hp} {L : Addr} {vs ws : List V}
/-- a cell that no name has changes -/
theorem cell_put (h : C L = none) (k : Okc r (C.put L vs) H) : Okc r (C.put L ws) (upd H L (.lst ws)) ∧ hid r (C.put L ws) (upd H L (.lst ws)) = hid r (C.put L vs) H := by
  have nown : ¬ r.own L := k.sep L (by rw [Cl.put_same]; intro z; cases z)
  refine ⟨⟨r.loc H _ (fun b hb => upd_ne fun z => by subst z; exact nown hb) k.rok, fun q us hq => ?_, fun q hq => ?_⟩, ?_⟩
  · by_cases e : q = L
    · subst e; rw [Cl.put_same] at hq; cases hq; exact upd_same
    · rw [Cl.put_ne e] at hq; rw [upd_ne e]; exact k.cel q us (by rw [Cl.put_ne e]; exact hq)
  · by_cases e : q = L
    · subst e; exact nown
    · rw [Cl.put_ne e] at hq; exact k.sep q (by rw [Cl.put_ne e]; exact hq)
  · funext b
    unfold hid
    by_cases e : b = L
    · subst e
      rw [if_pos (.inr (by rw [Cl.put_same]; intro z; cases z)), if_pos (.inr (by rw [Cl.put_same]; intro z; cases z))]
    · rw [Cl.put_ne e, Cl.put_ne e, upd_ne e]
theorem At.cell (a : At K r B Γ σ (C.put L vs) H) (h : C L = none) (hn : ∀ (i : Nat) (ds : List D), Γ[i]? = some (.own ds) → σ[i]? ≠ some (some (.ref L))) : At K r B Γ σ (C.put L ws) (upd H L (.lst ws)) := by
  obtain ⟨k, e⟩ := cell_put (ws := ws) h a.ok
  refine ⟨k, by rw [e]; exact a.ext, a.len, by rw [e]; exact a.val, fun i ds hi => ?_, a.inj⟩
  obtain ⟨p, us, h1, h2, h3⟩ := a.own i ds hi
  have ne : p ≠ L := fun z => by subst z; exact hn i ds hi h1
  rw [Cl.put_ne ne] at h2
  exact ⟨p, us, h1, by rw [Cl.put_ne ne]; exact h2, by rw [e]; exact h3⟩
theorem At.newCell (a : At K r B Γ σ C H) (np : H L = none) : At K r B Γ σ (C.put L vs) (upd H L (.lst vs)) ∧ Ex (hid r C H) (hid r (C.put L vs) (upd H L (.lst vs))) ∧ ∀ (i : Nat) (ds : List D), Γ[i]? = some (.own ds) → σ[i]? ≠ some (some (.ref L)) := by
  obtain ⟨o, e⟩ := new_put (vs := vs) a.ok np
  have hn : ∀ (i : Nat) (ds : List D), Γ[i]? = some (.own ds) → σ[i]? ≠ some (some (.ref L)) := fun i ds hi hq => by
    obtain ⟨p, us, h1, h2, h3⟩ := a.own i ds hi
    rw [hq] at h1
    cases h1
    rw [a.ok.cel _ _ h2] at np; cases np
  refine ⟨⟨o, a.ext.trans e, a.len, fun i d hi => ?_, fun i ds hi => ?_, a.inj⟩, e, hn⟩
  · obtain ⟨v, h1, h2⟩ := a.val i d hi
    exact ⟨v, h1, Is.mono e _ _ h2⟩
  · obtain ⟨p, us, h1, h2, h3⟩ := a.own i ds hi
    have ne : p ≠ L := fun z => by subst z; exact hn i ds hi h1
    exact ⟨p, us, h1, by rw [Cl.put_ne ne]; exact h2, IsA.mono e _ _ h3⟩
end
section
variable {κ : Kx} {r : Reg} {Γ Γ' : Gm} {e a b c tg iter elt : Expr} {es : List Expr} {k : D → Prop} {kn : List D → Prop} {x y z : Str} {pos p p' : Pos} {W : Wt} {st : Stmt} {rest body : List Stmt}
/-- the reading of [elt for x in iter] -/
def xtYes : TT := tYes
def LcOk (κ : Kx) (r : Reg) (iter elt : Expr) (x : Str) (px : Pos) (ifs : List Expr) (tt : TT) (scope : Scope) (j : Nat) (Γ : Gm) (kn : List D → Prop) : Prop := ∀ B σ C H, At κ.K r B Γ σ C H → ∀ Q : VK,
  (∀ ds p vs H', kn ds → H p = none → Okc r (C.put p vs) H' → Ex (hid r C H) (hid r (C.put p vs) H') → IsA κ.K (hid r (C.put p vs) H') ds vs → Q (.ref p) H') →
  tLc (xi κ (.Name x px) iter) (gName j) tt (xe (κ.blk scope) elt) [j] σ H Q
theorem lc_ok {px : Pos} {ifs : List Expr} {scope : Scope} {j : Nat} {tt : TT} {ki : List D → Prop} (I : List D → Nat → List D → Prop) (hi : Pi κ r (.Name x px) iter Γ ki) (hb : ∀ ds, ki ds → ds.length ≤ 1000000) (h0 : ∀ ds, ki ds → I ds 0 [])
    (hs : ∀ ds i d acc, ki ds → ds[i]? = some d → I ds i acc → ∀ B σ C H, At κ.K r B (Γ.set j (.val d)) σ C H → ∀ Q : Bool → Hp → Prop, (∀ b H', At κ.K r B (Γ.set j (.val d)) σ C H' → Ex (hid r C H) (hid r C H') → (b = true → Pe (κ.blk scope) r elt (Γ.set j (.val d)) fun e => I ds (i + 1) (acc ++ [e])) → (b = false → I ds (i + 1) acc) → Q b H') → tt σ H Q)
    (hd : ∀ ds acc, ki ds → I ds ds.length acc → kn acc) : LcOk κ r iter elt x px ifs tt scope j Γ kn := fun B σ C H at_ Q q =>
  hi B σ C H at_ _ fun ds J H1 kd at1 e1 wk L nL => by
    have np0 : H L = none := by
      cases q0 : H L with
      | none => rfl
      | some o0 => exact absurd nL (by
          rw [(hid_some (e1 L o0 (hid_of q0 (at1.ok.own_ne nL) (at1.ok.cel_ne nL)))).1]
          intro z; cases z)
    have cL : C L = none := at1.ok.cel_ne nL
    obtain ⟨at2, e2, hn⟩ := at1.newCell (vs := []) nL
    refine ⟨fun i m H' => m = ds.length - i ∧ i ≤ ds.length ∧ ∃ acc vs, I ds i acc ∧ acc.length ≤ i ∧ At κ.K r B Γ σ (C.put L vs) H' ∧ Ex (hid r C H1) (hid r (C.put L vs) H') ∧ IsA κ.K (hid r (C.put L vs) H') acc vs, ⟨_, rfl, Nat.zero_le _, [], [], h0 ds kd, Nat.le_refl _, at2, e2, rfl⟩, ?_⟩
    rintro i m H' ⟨rfl, hi', acc, vs, hI, hal, at3, e3, is⟩
    have w := wk (C.put L vs) H' at3.ok e3 i
    by_cases hlt : i < ds.length
    · obtain ⟨go, yl⟩ := w.1 hlt
      refine .inr ⟨go, fun H2 => ∃ acc vs, I ds (i + 1) acc ∧ acc.length ≤ i + 1 ∧ At κ.K r B Γ σ (C.put L vs) H2 ∧ Ex (hid r C H1) (hid r (C.put L vs) H2) ∧ IsA κ.K (hid r (C.put L vs) H2) acc vs, fun H2 ⟨acc', vs', q1, q2, q3, q4, q5⟩ => ⟨ds.length - (i + 1), by omega, rfl, hlt, acc', vs', q1, q2, q3, q4, q5⟩, fun v H2 y => ?_⟩
      obtain ⟨d, hd', eH, id⟩ := yl v H2 y
      subst eH
      have at4 := (at3.setNo j none).set j (d := d) (v := v) id
      rw [List.set_set] at at4
      show wipe ((wipe σ [j]).set j (some v)) [j] = wipe σ [j] ∧ _
      refine ⟨?_, ?_⟩
      · show ((σ.set j none).set j (some v)).set j none = σ.set j none
        rw [List.set_set, List.set_set]
      · refine hs ds i d acc kd hd' hI B _ (C.put L vs) H2 at4 _ fun b H3 at5 e5 ht hf => ?_
        have at6 := at3.step at5.ok e5
        cases b with
        | true =>
          refine iteT (ht rfl B _ (C.put L vs) H3 at5 _ fun e' y' H4 ke at7 e7 i7 => ?_)
          have at8 := at6.step at7.ok e7
          obtain ⟨ok9, eh⟩ := cell_put (ws := vs ++ [y']) cL at8.ok
          refine ⟨vs, at8.ok.cel L vs Cl.put_same, Nat.lt_of_lt_of_le (by rw [← is.len]; have := hb ds kd; omega : vs.length < 1000001) (by decide), acc ++ [e'], vs ++ [y'], ke, by rw [List.length_append, List.length_singleton]; omega, at8.cell cL hn, ?_, ?_⟩
          · rw [eh]; exact (e3.trans e5).trans e7
          · rw [eh]; exact IsA.append (IsA.mono (e5.trans e7) _ _ is) (IsA.one i7)
        | false => exact iteF ⟨acc, vs, hf rfl, by omega, at6, e3.trans e5, IsA.mono e5 _ _ is⟩
    · have e : i = ds.length := by omega
      subst e
      exact .inl ⟨w.2 (Nat.le_refl _), q acc L vs H' (hd ds acc kd hI) np0 at3.ok (e1.trans e3) is⟩
/-- [elt for x in iter] -/
theorem lc_all {px : Pos} {scope : Scope} {j : Nat} {ki : List D → Prop} (I : List D → Nat → List D → Prop) (hi : Pi κ r (.Name x px) iter Γ ki) (hb : ∀ ds, ki ds → ds.length ≤ 1000000) (h0 : ∀ ds, ki ds → I ds 0 [])
    (hs : ∀ ds i d acc, ki ds → ds[i]? = some d → I ds i acc → Pe (κ.blk scope) r elt (Γ.set j (.val d)) fun e => I ds (i + 1) (acc ++ [e])) (hd : ∀ ds acc, ki ds → I ds ds.length acc → kn acc) : LcOk κ r iter elt x px [] tYes scope j Γ kn :=
  lc_ok I hi hb h0 (fun ds i d acc kd hd' hI B σ C H at_ Q q => q true H at_ (Ex.refl _) (fun _ => hs ds i d acc kd hd' hI) (fun z => nomatch z)) hd
/-- [elt for x in iter if c] -/
theorem lc_if {px : Pos} {scope : Scope} {j : Nat} {ki : List D → Prop} (I : List D → Nat → List D → Prop) (hi : Pi κ r (.Name x px) iter Γ ki) (hb : ∀ ds, ki ds → ds.length ≤ 1000000) (h0 : ∀ ds, ki ds → I ds 0 [])
    (hs : ∀ ds i d acc, ki ds → ds[i]? = some d → I ds i acc → ∃ kt, Pt (κ.blk scope) r c (Γ.set j (.val d)) kt ∧ (kt true → Pe (κ.blk scope) r elt (Γ.set j (.val d)) fun e => I ds (i + 1) (acc ++ [e])) ∧ (kt false → I ds (i + 1) acc)) (hd : ∀ ds acc, ki ds → I ds ds.length acc → kn acc) : LcOk κ r iter elt x px [c] (xt (κ.blk scope) c) scope j Γ kn :=
  lc_ok I hi hb h0 (fun ds i d acc kd hd' hI B σ C H at_ Q q => by
    obtain ⟨kt, ht, h1, h2⟩ := hs ds i d acc kd hd' hI
    exact ht B σ C H at_ Q fun b H' kb at1 e1 => q b H' at1 e1 (fun z => by subst z; exact h1 kb) (fun z => by subst z; exact h2 kb)) hd
theorem n_lc {px : Pos} {scope : Scope} {j : Nat} (h : LcOk κ r iter elt x px [] tYes scope j Γ kn) (s : Sto (κ.blk scope) j x) (ok : BlkOk κ.N κ.sc scope [(x, j)]) (hf : ∀ X, κ.F X → ∀ x, foldedSetIterable iter X.env x = pure x := by intro _ _ _; rfl) :
    Pn κ r (.ListComp elt [⟨.Name x px, iter, [], 0⟩] scope pos) Γ kn := fun B σ C H at_ Q q =>
  ⟨tLc (xi κ (.Name x px) iter) (gName j) tYes (xe (κ.blk scope) elt) [j], fun X hX => pe_lc (own := [(x, j)]) (Kx.calm hX) (by rw [Kx.hN hX]; exact Kx.nd hX) (xi_ok _ _ hX) (by rw [Kx.hN hX, Kx.hsc hX]; exact ok)
      (fun s' H' C' cl fp => pg_name' (κ := κ.blk scope) s ⟨X, s', H', C', cl, fp, hX, rfl⟩) (fun s' H' C' cl fp => pts_nil) (fun s' H' C' cl fp => xe_ok (κ := κ.blk scope) elt ⟨X, s', H', C', cl, fp, hX, rfl⟩) (hf X hX), h B σ C H at_ Q q⟩
theorem n_lcIf {px : Pos} {scope : Scope} {j : Nat} (h : LcOk κ r iter elt x px [c] (xt (κ.blk scope) c) scope j Γ kn) (s : Sto (κ.blk scope) j x) (ok : BlkOk κ.N κ.sc scope [(x, j)]) (hf : ∀ X, κ.F X → ∀ x, foldedSetIterable iter X.env x = pure x := by intro _ _ _; rfl) :
    Pn κ r (.ListComp elt [⟨.Name x px, iter, [c], 0⟩] scope pos) Γ kn := fun B σ C H at_ Q q =>
  ⟨tLc (xi κ (.Name x px) iter) (gName j) (xt (κ.blk scope) c) (xe (κ.blk scope) elt) [j], fun X hX => pe_lc (own := [(x, j)]) (Kx.calm hX) (by rw [Kx.hN hX]; exact Kx.nd hX) (xi_ok _ _ hX) (by rw [Kx.hN hX, Kx.hsc hX]; exact ok)
      (fun s' H' C' cl fp => pg_name' (κ := κ.blk scope) s ⟨X, s', H', C', cl, fp, hX, rfl⟩) (fun s' H' C' cl fp => pts_one (xt_ok (κ := κ.blk scope) c ⟨X, s', H', C', cl, fp, hX, rfl⟩)) (fun s' H' C' cl fp => xe_ok (κ := κ.blk scope) elt ⟨X, s', H', C', cl, fp, hX, rfl⟩) (hf X hX), h B σ C H at_ Q q⟩
/-- y = [elt for x in iter], not shared from here on -/
theorem s_lc {px py : Pos} {scope : Scope} {i j : Nat} (hi : κ.N[i]? = some y) (hl : κ.sc.names.lookup y = some .local) (h : LcOk κ r iter elt x px [] tYes scope j Γ kn) (s : Sto (κ.blk scope) j x) (ok : BlkOk κ.N κ.sc scope [(x, j)]) (hn : ∀ ds, kn ds → W.nx (Γ.set i (.own ds)))
    (hw : ∀ X, κ.F X → swapsWith (.ListComp elt [⟨.Name x px, iter, [], 0⟩] scope pos) (some (.Name y py)) p.line X.env = pure true)
    (hf : ∀ X, κ.F X → ∀ x, foldedSetIterable iter X.env x = pure x := by intro _ _ _; rfl) :
    Ps κ r (.Assign [.Name y py] (.ListComp elt [⟨.Name x px, iter, [], 0⟩] scope pos) p) Γ W := fun B σ C H at_ E o =>
  ⟨tAsg (tLc (xi κ (.Name x px) iter) (gName j) tYes (xe (κ.blk scope) elt) [j]) (gName i), fun X hX => ps_setLc (own := [(x, j)]) (Kx.calm hX) (by rw [Kx.hN hX]; exact Kx.nd hX) (by rw [Kx.hN hX]; exact hi) (by rw [Kx.hsc hX]; exact hl) (hw X hX) (xi_ok _ _ hX) (by rw [Kx.hN hX, Kx.hsc hX]; exact ok)
      (fun s' H' C' cl fp => pg_name' (κ := κ.blk scope) s ⟨X, s', H', C', cl, fp, hX, rfl⟩) (fun s' H' C' cl fp => pts_nil) (fun s' H' C' cl fp => xe_ok (κ := κ.blk scope) elt ⟨X, s', H', C', cl, fp, hX, rfl⟩) (hf X hX),
    h B σ C H at_ _ fun ds q vs H' kd np o1 e1 is => o.nx _ _ _ H' (hn ds kd) (at_.setOwn i np o1 e1 is)⟩
theorem s_lcIf {px py : Pos} {scope : Scope} {i j : Nat} (hi : κ.N[i]? = some y) (hl : κ.sc.names.lookup y = some .local) (h : LcOk κ r iter elt x px [c] (xt (κ.blk scope) c) scope j Γ kn) (s : Sto (κ.blk scope) j x) (ok : BlkOk κ.N κ.sc scope [(x, j)]) (hn : ∀ ds, kn ds → W.nx (Γ.set i (.own ds)))
    (hw : ∀ X, κ.F X → swapsWith (.ListComp elt [⟨.Name x px, iter, [c], 0⟩] scope pos) (some (.Name y py)) p.line X.env = pure true)
    (hf : ∀ X, κ.F X → ∀ x, foldedSetIterable iter X.env x = pure x := by intro _ _ _; rfl) :
    Ps κ r (.Assign [.Name y py] (.ListComp elt [⟨.Name x px, iter, [c], 0⟩] scope pos) p) Γ W := fun B σ C H at_ E o =>
  ⟨tAsg (tLc (xi κ (.Name x px) iter) (gName j) (xt (κ.blk scope) c) (xe (κ.blk scope) elt) [j]) (gName i), fun X hX => ps_setLc (own := [(x, j)]) (Kx.calm hX) (by rw [Kx.hN hX]; exact Kx.nd hX) (by rw [Kx.hN hX]; exact hi) (by rw [Kx.hsc hX]; exact hl) (hw X hX) (xi_ok _ _ hX) (by rw [Kx.hN hX, Kx.hsc hX]; exact ok)
      (fun s' H' C' cl fp => pg_name' (κ := κ.blk scope) s ⟨X, s', H', C', cl, fp, hX, rfl⟩) (fun s' H' C' cl fp => pts_one (xt_ok (κ := κ.blk scope) c ⟨X, s', H', C', cl, fp, hX, rfl⟩)) (fun s' H' C' cl fp => xe_ok (κ := κ.blk scope) elt ⟨X, s', H', C', cl, fp, hX, rfl⟩) (hf X hX),
    h B σ C H at_ _ fun ds q vs H' kd np o1 e1 is => o.nx _ _ _ H' (hn ds kd) (at_.setOwn i np o1 e1 is)⟩
/-- y = [..] where y itself is captured: an ordinary store -/
theorem s_newP {i : Nat} (s : Sto κ i y) {py : Pos} (h : Pn κ r e Γ kn) (hn : ∀ ds, kn ds → W.nx (Γ.set i (.own ds))) (hs : ∀ X, κ.F X → swapsWith e (some (.Name y py)) p.line X.env = pure false) : Ps κ r (.Assign [.Name y py] e p) Γ W := s_new s h hn hs
end
/-! ### calls of defs -/
/-- the hidden part together with the lists that are not shared -/
def Reg.cells (r : Reg) (C : Cl) : Reg where
  own := fun b => r.own b ∨ C b ≠ none
  ok := fun H => Okc r C H
  loc := fun H H' e k => k.keep e
  used := fun H b k hb => by
    rcases hb with hb | hb
    · exact r.used H b k.rok hb
    · cases q : C b with
      | none => exact absurd q hb
      | some vs => rw [k.cel b vs q]; intro z; cases z
theorem hid_cells (r : Reg) (C : Cl) (H : Hp) : hid (r.cells C) Cl.nil H = hid r C H := by
  funext b
  unfold hid
  by_cases c : r.own b ∨ C b ≠ none
  · rw [if_pos c, if_pos (.inl c)]
  · rw [if_neg c, if_neg (by rintro (z | z); exact c z; exact z rfl)]
/-- what a def does: from the hidden part and the arguments' data, k holds of what comes -/
abbrev Do := Reg → List D → (D → Prop) → Prop
abbrev DoN := Reg → List D → (List D → Prop) → Prop
def spD (K : PySem.W.Frag) (A : Do) : Sp := fun vs H Q _ => ∃ r ds k, r.ok H ∧ IsA K (hid r Cl.nil H) ds vs ∧ A r ds k ∧ ∀ d v H', k d → r.ok H' → Ex (hid r Cl.nil H) (hid r Cl.nil H') → Is K (hid r Cl.nil H') d v → Q v H'
/-- the same of a def that gives a new list -/
def spN (K : PySem.W.Frag) (A : DoN) : Sp := fun vs H Q _ => ∃ r ds k, r.ok H ∧ IsA K (hid r Cl.nil H) ds vs ∧ A r ds k ∧ ∀ es p us H', k es → H p = none → Okc r (Cl.put Cl.nil p us) H' → Ex (hid r Cl.nil H) (hid r (Cl.put Cl.nil p us) H') → IsA K (hid r (Cl.put Cl.nil p us) H') es us → Q (.ref p) H'
section
variable {κ : Kx} {r : Reg} {Γ Γ' : Gm} {e : Expr} {es : List Expr} {k : D → Prop} {kn kr : List D → Prop} {x : Str} {pos p : Pos} {lv : Nat} {f : Addr} {fd : FuncData} {ps : List Str} {A : Do} {AN : DoN}
theorem e_call (F : ∀ X, κ.F X → FnOk X.prog X.w κ.K κ.mg X.base CX0 lv f fd ps (spD κ.K A)) (hl : lv ≤ κ.lv) (hg : κ.sc.names.lookup x = some .globalImplicit) (hm : κ.mg x = some (.ref f)) (hk : PySem.W.keepIn κ.K (.ref f) = true) (hb : Binds κ.K fd ps []) (ha : Pa κ r (e :: es) Γ kr)
    (h : ∀ ds, kr ds → ∀ C, A (r.cells C) ds k) (hdb : (x == ("__debug__" : Str)) = false := by decide) (h1 : ∀ X, κ.F X → starEach (e :: es) X.env = (false, eval e X.env) :: starEach es X.env := by intro _ _; rfl) (h2 : ∀ X, κ.F X → (backTo pos (starEach es X.env)).any (·.1) = false := by intro _ _; rfl) :
    Pe κ r (.Call (.Name x p) (e :: es) [] pos) Γ k := fun B σ C H at_ Q q =>
  ⟨tCall (spD κ.K A) [] E0 (xa κ (e :: es)), fun X hX => pe_call (X := X) (by rw [Kx.hK hX, Kx.hmg hX]; exact F X hX) ((Kx.room hX).mono hl) (show X.env.scope.names.lookup x = _ by rw [Kx.hsc hX]; exact hg) (by rw [Kx.hmg hX]; exact hm) (by rw [Kx.hK hX]; exact hk) (by rw [Kx.hK hX]; exact hb) .nil pass0 (xa_ok _ hX) hdb (h1 X hX) (h2 X hX),
    ha B σ C H at_ _ fun ds vs H1 kd at1 e1 i1 => by
      refine ⟨r.cells C, ds, k, at1.ok, by rw [hid_cells, List.append_nil]; exact i1, h ds kd C, fun d v H2 kd2 o2 e2 i2 => ?_⟩
      rw [hid_cells, hid_cells] at e2
      rw [hid_cells] at i2
      exact q d v H2 kd2 (at1.step o2 e2) (e1.trans e2) i2⟩
theorem put_cells {r : Reg} {C : Cl} {H : Hp} {p : Addr} {us : List V} (hc : C p = none) (o : Okc (r.cells C) (Cl.put Cl.nil p us) H) : Okc r (C.put p us) H ∧ hid (r.cells C) (Cl.put Cl.nil p us) H = hid r (C.put p us) H := by
  have o1 : Okc r C H := o.rok
  have np : ¬ (r.own p ∨ C p ≠ none) := o.sep p (by rw [Cl.put_same]; intro z; cases z)
  refine ⟨⟨o1.rok, fun q ws hq => ?_, fun q hq => ?_⟩, ?_⟩
  · by_cases e : q = p
    · subst e; rw [Cl.put_same] at hq; cases hq; exact o.cel q _ Cl.put_same
    · rw [Cl.put_ne e] at hq; exact o1.cel q ws hq
  · by_cases e : q = p
    · subst e; exact fun z => np (.inl z)
    · rw [Cl.put_ne e] at hq; exact o1.sep q hq
  · funext b
    unfold hid
    by_cases e : b = p
    · subst e
      rw [if_pos (.inr (by rw [Cl.put_same]; intro z; cases z)), if_pos (.inr (by rw [Cl.put_same]; intro z; cases z))]
    · rw [Cl.put_ne e, Cl.put_ne e]
      by_cases c : r.own b ∨ C b ≠ none
      · rw [if_pos c, if_pos (.inl c)]
      · rw [if_neg c, if_neg (by rintro (z | z); exact c z; exact z rfl)]
theorem e_callN (F : ∀ X, κ.F X → FnOk X.prog X.w κ.K κ.mg X.base CX0 lv f fd ps (spN κ.K AN)) (hl : lv ≤ κ.lv) (hg : κ.sc.names.lookup x = some .globalImplicit) (hm : κ.mg x = some (.ref f)) (hk : PySem.W.keepIn κ.K (.ref f) = true) (hb : Binds κ.K fd ps []) (ha : Pa κ r (e :: es) Γ kr)
    (h : ∀ ds, kr ds → ∀ C, AN (r.cells C) ds kn) (hdb : (x == ("__debug__" : Str)) = false := by decide) (h1 : ∀ X, κ.F X → starEach (e :: es) X.env = (false, eval e X.env) :: starEach es X.env := by intro _ _; rfl) (h2 : ∀ X, κ.F X → (backTo pos (starEach es X.env)).any (·.1) = false := by intro _ _; rfl) :
    Pn κ r (.Call (.Name x p) (e :: es) [] pos) Γ kn := fun B σ C H at_ Q q =>
  ⟨tCall (spN κ.K AN) [] E0 (xa κ (e :: es)), fun X hX => pe_call (X := X) (by rw [Kx.hK hX, Kx.hmg hX]; exact F X hX) ((Kx.room hX).mono hl) (show X.env.scope.names.lookup x = _ by rw [Kx.hsc hX]; exact hg) (by rw [Kx.hmg hX]; exact hm) (by rw [Kx.hK hX]; exact hk) (by rw [Kx.hK hX]; exact hb) .nil pass0 (xa_ok _ hX) hdb (h1 X hX) (h2 X hX),
    ha B σ C H at_ _ fun ds vs H1 kd at1 e1 i1 => by
      refine ⟨r.cells C, ds, kn, at1.ok, by rw [hid_cells, List.append_nil]; exact i1, h ds kd C, fun es' p' us H2 kd2 np o2 e2 i2 => ?_⟩
      obtain ⟨o3, eh⟩ := put_cells (at1.ok.cel_ne np) o2
      rw [eh] at e2 i2
      rw [hid_cells] at e2
      have np0 : H p' = none := by
        cases q0 : H p' with
        | none => rfl
        | some o0 => exact absurd np (by
            rw [(hid_some (e1 p' o0 (hid_of q0 (at1.ok.own_ne np) (at1.ok.cel_ne np)))).1]
            intro z; cases z)
      exact q es' p' us H2 kd2 np0 o3 (e1.trans e2) i2⟩
/-- f(e, k = v): one keyword behind, in the parameters' order -/
theorem e_callK {kws : List Keyword} {ks : List Str} {g : List Value → List Value → List Value} {gV : List V → List V → List V} {tk : TA} (F : ∀ X, κ.F X → FnOk X.prog X.w κ.K κ.mg X.base CX0 lv f fd ps (spD κ.K A)) (hl : lv ≤ κ.lv) (hg : κ.sc.names.lookup x = some .globalImplicit) (hm : κ.mg x = some (.ref f)) (hk : PySem.W.keepIn κ.K (.ref f) = true) (hb : Binds κ.K fd ps []) (ha : Pa κ r (e :: es) Γ kr)
    (h : ∀ ds, kr ds → ∀ C, A (r.cells C) ds k) : True := trivial
/-! ### defs -/
/-- the context of a def's body -/
def kxOf (P : Program) (w : World) (K : PySem.W.Frag) (mg : Str → Option Value) (base : Heap) (N : List Str) (qual : Str) (scope : Scope) (f : Addr) (cd : Value) (A : Around) (outer : List Env) (s : Shared) (H : Hp) (E : XK) (lv : Nat) (hr : Room lv (A.deeper (envOfC qual scope s.heap.objs.size f cd))) (hN : N.Nodup) : Kx where
  K := K
  mg := mg
  N := N
  sc := scope
  fn := fun _ => true
  lv := lv
  F := fun X => X = (cxOf CX0 P w K mg base N qual scope f cd A outer s H E).nox
  all := by
    rintro X rfl
    exact ⟨rfl, rfl, rfl, rfl, rfl, rfl, hr, hN, rfl⟩
def gm0 (N : List Str) (ds : List D) : Gm := ds.map Sl.val ++ List.replicate (N.length - ds.length) .no
theorem at_start {K : PySem.W.Frag} {r : Reg} {H : Hp} {ds : List D} {vs : List V} (N : List Str) (ok : r.ok H) (is : IsA K (hid r Cl.nil H) ds vs) : At K r (hid r Cl.nil H) (gm0 N ds) (L2.start N vs) Cl.nil H := by
  have noown : ∀ (i : Nat) (es : List D), (gm0 N ds)[i]? ≠ some (.own es) := fun i es h => by
    unfold gm0 at h
    have hm := List.mem_of_getElem? h
    rcases List.mem_append.mp hm with hm | hm
    · obtain ⟨d, _, e⟩ := List.mem_map.mp hm; cases e
    · have := (List.mem_replicate.mp hm).2; cases this
  refine ⟨⟨ok, fun p vs h => (nomatch h), fun p h => absurd rfl h⟩, Ex.refl _, ?_, fun i d h => ?_, fun i es h => absurd h (noown i es), fun i j es fs q ne h => absurd h (noown i es)⟩
  · unfold L2.start gm0
    rw [List.length_append, List.length_append, List.length_map, List.length_map, List.length_replicate, List.length_replicate, is.len]
  · unfold gm0 at h
    by_cases hi : i < ds.length
    · rw [List.getElem?_append_left (by rw [List.length_map]; exact hi), List.getElem?_map] at h
      cases q : ds[i]? with
      | none => rw [q] at h; cases h
      | some d' =>
        rw [q] at h
        cases h
        obtain ⟨v, h1, h2⟩ := is.get q
        refine ⟨v, ?_, h2⟩
        unfold L2.start
        rw [List.getElem?_append_left (by rw [List.length_map, ← is.len]; exact hi), List.getElem?_map, h1]; rfl
    · rw [List.getElem?_append_right (by rw [List.length_map]; omega)] at h
      have := (List.mem_replicate.mp (List.mem_of_getElem? h)).2; cases this
variable {P : Program} {w : World} {K : PySem.W.Frag} {mg : Str → Option Value} {base : Heap} {qual : Str} {params : Arguments} {body : List Stmt} {scope : Scope} {N : List Str}
theorem fn_D {lv : Nat} (F : FunD K x qual params body scope [] [] f fd) (S : FnScope N ps scope) (hA : ∀ r ds k, A r ds k → ds.length = ps.length)
    (hb : ∀ (cdv : Value) (A' : Around) (outer : List Env) (s : Shared) (H : Hp) (E : XK) (hr : Room lv (A'.deeper (envOfC qual scope s.heap.objs.size f cdv))) (r : Reg) (ds : List D) (k : D → Prop), A r ds k →
      Bk (kxOf P w K mg base N qual scope f cdv A' outer s H E lv hr S.nd) r body (gm0 N ds) { nx := fun _ => k .non, rt := k }) : FnOk P w K mg base CX0 (lv + 1) f fd ps (spD K A) := by
  refine F.ok S (fun vs H Q E ⟨r, ds, k, ok, is, hA', _⟩ => by rw [← is.len]; exact hA r ds k hA') fun cdv A' outer s H vs Q E hr ⟨r, ds, k, ok, is, hA', q⟩ => ?_
  have h := hb cdv A' outer s H E hr r ds k hA' _ _ Cl.nil H (at_start N ok is) { nx := fun _ H' => Q .non H', rt := Q }
    ⟨fun Γ σ C H' kd a => by
        obtain ⟨k1, k2⟩ := nil_seen a.ok
        exact q .non .non H' kd k1 (a.ext.trans k2) rfl,
      fun d v H' kd k1 e i => q d v H' kd k1 e i, fun _ _ _ _ (z : False) => z.elim, fun _ _ _ _ (z : False) => z.elim, fun _ _ _ _ (z : False) => z.elim⟩
  obtain ⟨t, ht, hq⟩ := h
  exact ⟨t, PSs.nox (ht _ rfl), hq⟩
theorem fn_N {lv : Nat} (F : FunD K x qual params body scope [] [] f fd) (S : FnScope N ps scope) (hA : ∀ r ds k, AN r ds k → ds.length = ps.length)
    (hb : ∀ (cdv : Value) (A' : Around) (outer : List Env) (s : Shared) (H : Hp) (E : XK) (hr : Room lv (A'.deeper (envOfC qual scope s.heap.objs.size f cdv))) (r : Reg) (ds : List D) (k : List D → Prop), AN r ds k →
      Bk (kxOf P w K mg base N qual scope f cdv A' outer s H E lv hr S.nd) r body (gm0 N ds) { nx := fun _ => False, rt := fun _ => False, rl := k }) : FnOk P w K mg base CX0 (lv + 1) f fd ps (spN K AN) := by
  refine F.ok S (fun vs H Q E ⟨r, ds, k, ok, is, hA', _⟩ => by rw [← is.len]; exact hA r ds k hA') fun cdv A' outer s H vs Q E hr ⟨r, ds, k, ok, is, hA', q⟩ => ?_
  have h := hb cdv A' outer s H E hr r ds k hA' _ _ Cl.nil H (at_start N ok is) { nx := fun _ H' => Q .non H', rt := Q }
    ⟨fun _ _ _ _ (z : False) => z.elim, fun _ _ _ (z : False) => z.elim, fun es p us H' kd hp k1 e i => q es p us H' kd (by
        have no : ¬ r.own p := k1.sep p (by rw [Cl.put_same]; intro z; cases z)
        cases q0 : H p with
        | none => rfl
        | some o0 => exact absurd hp (by rw [hid_of q0 no rfl]; intro z; cases z)) k1 e i, fun _ _ _ _ (z : False) => z.elim, fun _ _ _ _ (z : False) => z.elim⟩
  obtain ⟨t, ht, hq⟩ := h
  exact ⟨t, PSs.nox (ht _ rfl), hq⟩
end
end Dv

set_option Elab.async false
set_option linter.all false
set_option maxRecDepth 100000
set_option maxHeartbeats 4000000
/-! the operators and built-ins by data, where all is determined -/
namespace Dv
open PySem PySem.Spec PyProof.Rows L2

/-! ### data -/
/-- no star -/
abbrev Pl (a : Expr) : Prop := ∀ (env : PySem.Env) (es : List Expr), starEach (a :: es) env = (false, eval a env) :: starEach es env
abbrev lsI (ns : List Int) : D := .lst (ns.map D.int)
abbrev tpI (ns : List Int) : D := .tup (ns.map D.int)
theorem IsA.atI {K : PySem.W.Frag} {G : Hp} {ds : List D} {vs : List V} {i : Int} {d : D} (h : IsA K G ds vs) (e : L2.atI ds i = some d) : ∃ v, L2.atI vs i = some v ∧ Is K G d v := by
  unfold L2.atI at e ⊢
  rw [← h.len]
  cases q : ixN ds.length i with
  | none => rw [q] at e; cases e
  | some j =>
    rw [q] at e
    exact h.get e
theorem at_ints {ns : List Int} {j : Nat} {n : Int} (h : ns[j]? = some n) : L2.atI (ns.map D.int) (j : Int) = some (.int n) := by
  refine atI_nat ?_
  rw [List.getElem?_map, h]; rfl
theorem at_nat {ds : List D} {j : Nat} {d : D} (h : ds[j]? = some d) : L2.atI ds (j : Int) = some d := atI_nat h
theorem at_intsI {ns : List Int} {i : Int} {n : Int} (h0 : 0 ≤ i) (h : ns[i.toNat]? = some n) : L2.atI (ns.map D.int) i = some (.int n) := by
  have := at_ints h
  rwa [show ((i.toNat : Nat) : Int) = i by omega] at this
theorem at_natI {ds : List D} {i : Int} {d : D} (h0 : 0 ≤ i) (h : ds[i.toNat]? = some d) : L2.atI ds i = some d := by
  have := at_nat h
  rwa [show ((i.toNat : Nat) : Int) = i by omega] at this
section
variable {κ : Kx} {r : Reg} {Γ Γ' : Gm} {e a b c : Expr} {es : List Expr} {k : D → Prop} {kn : List D → Prop} {x : Str} {pos p : Pos} {i j n m : Int} {ds es' : List D} {d d' : D} {W : Wt} {st : Stmt} {rest : List Stmt}
theorem d_var (l : Nat) (hN : κ.N[l]? = some x := by rfl) (hv : Vis κ.sc x := by first | exact Or.inl rfl | exact Or.inr (Or.inl rfl) | exact Or.inr (Or.inr rfl)) (hd : (x == ("__debug__" : Str)) = false := by decide) (hcd : (x == ("__classdict__" : Str)) = false := by decide) (hg : Γ[l]? = some (.val d) := by rfl) : De κ r (.Name x pos) Γ d := e_var hN hv hd hcd hg rfl
theorem d_int {j} : De κ r (.Constant (.int i) j pos) Γ (.int i) := e_int rfl
theorem d_bl {i : Bool} {j} : De κ r (.Constant (.bool i) j pos) Γ (.bl i) := e_bl rfl
theorem d_non {j} : De κ r (.Constant .none j pos) Γ .non := e_non rfl
theorem d_str {i : Str} {j} : De κ r (.Constant (.str i) j pos) Γ (.str i) := e_str rfl
theorem d_globI (hm : ∃ t, κ.mg x = some (.int i t)) (hg : κ.sc.names.lookup x = some .globalImplicit := by rfl) (hd : (x == ("__debug__" : Str)) = false := by decide) : De κ r (.Name x pos) Γ (.int i) := by
  obtain ⟨t, hm⟩ := hm
  exact e_glob (v := .int i) (d := .int i) hg hm ⟨t, rfl⟩ hd (fun _ => rfl) rfl
/-- a built-in class as an argument -/
theorem d_ty {T : String} (hm : κ.mg x = none) (hv : bootBuiltins x = some (.type T)) (hg : κ.sc.names.lookup x = some .globalImplicit := by rfl) (hn : x ≠ "__name__" := by decide) (hdb : (x == ("__debug__" : Str)) = false := by decide) : De κ r (.Name x pos) Γ (.raw (.ty T)) := fun B σ C H at_ Q q =>
  ⟨tC (.ty T), fun X hX => pe_bltn (show X.env.scope.names.lookup x = _ by rw [Kx.hsc hX]; exact hg) (by rw [Kx.hmg hX]; exact hm) hv rfl hn hdb, q _ _ H rfl at_ (Ex.refl _) rfl⟩
/-! ### scalars -/
theorem op2_i0 {g : Int → Int → V} (hs : ∀ G, Is κ.K G d (g i j)) : Op2 κ.K (rI0 g) (.int i) (.int j) (fun x => x = d) := fun r C H v w ok hv hw Q q => ⟨i, j, hv, hw, q d _ H rfl ok (Ex.refl _) (hs _)⟩
theorem op2_ic {Cc : Int → Int → Prop} {g : Int → Int → V} (hc : Cc i j) (hs : ∀ G, Is κ.K G d (g i j)) : Op2 κ.K (rI Cc g) (.int i) (.int j) (fun x => x = d) := fun r C H v w ok hv hw Q q => ⟨i, j, hv, hw, hc, q d _ H rfl ok (Ex.refl _) (hs _)⟩
theorem Op2.det {rr : R2} {x y : D} (h : Op2 κ.K rr x y k) : ∀ x' y', x' = x → y' = y → Op2 κ.K rr x' y' k := by
  rintro _ _ rfl rfl; exact h
theorem d_add (ha : De κ r a Γ (.int i)) (hb : De κ r b Γ (.int j)) : De κ r (.BinOp a .Add b pos) Γ (.int (i + j)) := e_bin (fun _ _ => op_add) ha hb (Op2.det (op2_i0 fun _ => rfl))
theorem d_sub (ha : De κ r a Γ (.int i)) (hb : De κ r b Γ (.int j)) : De κ r (.BinOp a .Sub b pos) Γ (.int (i - j)) := e_bin (fun _ _ => op_sub) ha hb (Op2.det (op2_i0 fun _ => rfl))
theorem d_mul (ha : De κ r a Γ (.int i)) (hb : De κ r b Γ (.int j)) (h : CMul i j) : De κ r (.BinOp a .Mult b pos) Γ (.int (i * j)) := e_bin (fun _ _ => op_mul) ha hb (Op2.det (op2_ic h fun _ => rfl))
theorem d_mulW (ha : De κ r a Γ (.int i)) (hb : De κ r b Γ (.int j)) (h : CMulW i j) : De κ r (.BinOp a .Mult b pos) Γ (.int (i * j)) := e_bin (fun _ _ => op_mulW) ha hb (Op2.det (op2_ic h fun _ => rfl))
theorem d_mod (ha : De κ r a Γ (.int i)) (hb : De κ r b Γ (.int j)) (h : 0 < j) : De κ r (.BinOp a .Mod b pos) Γ (.int (i % j)) := e_bin (fun _ _ => op_mod) ha hb (Op2.det (op2_ic h fun _ => rfl))
theorem d_fdiv (ha : De κ r a Γ (.int i)) (hb : De κ r b Γ (.int j)) (h : CDiv i j) : De κ r (.BinOp a .FloorDiv b pos) Γ (.int (i / j)) := e_bin (fun _ _ => op_fdiv) ha hb (Op2.det (op2_ic h fun _ => rfl))
theorem d_pow (ha : De κ r a Γ (.int i)) (hb : De κ r b Γ (.int j)) (h : CPow i j) : De κ r (.BinOp a .Pow b pos) Γ (.int (i ^ j.toNat)) := e_bin (fun _ _ => op_pow) ha hb (Op2.det (op2_ic h fun _ => rfl))
theorem d_neg (ha : De κ r a Γ (.int i)) : De κ r (.UnaryOp .USub a pos) Γ (.int (-i)) := e_un (fun _ _ => un_neg) ha (fun x hx v hv => by
  subst hx
  exact ⟨_, .int (-i), rfl, fun _ => rfl, fun H Q q => ⟨i, hv (fun _ => none), q⟩⟩) (fun x hx => by subst hx; rfl)
theorem d_lt (ha : De κ r a Γ (.int i)) (hb : De κ r b Γ (.int j)) : De κ r (.Compare a [.Lt] [b] pos) Γ (.bl (decide (i < j))) := e_cmp (fun _ _ => op_lt) (nomark _) ha hb (Op2.det (op2_i0 fun _ => rfl))
theorem d_le (ha : De κ r a Γ (.int i)) (hb : De κ r b Γ (.int j)) : De κ r (.Compare a [.LtE] [b] pos) Γ (.bl (decide (i ≤ j))) := e_cmp (fun _ _ => op_le) (nomark _) ha hb (Op2.det (op2_i0 fun _ => rfl))
theorem d_gt (ha : De κ r a Γ (.int i)) (hb : De κ r b Γ (.int j)) : De κ r (.Compare a [.Gt] [b] pos) Γ (.bl (decide (j < i))) := e_cmp (fun _ _ => op_gt) (nomark _) ha hb (Op2.det (op2_i0 fun _ => rfl))
theorem d_ge (ha : De κ r a Γ (.int i)) (hb : De κ r b Γ (.int j)) : De κ r (.Compare a [.GtE] [b] pos) Γ (.bl (decide (j ≤ i))) := e_cmp (fun _ _ => op_ge) (nomark _) ha hb (Op2.det (op2_i0 fun _ => rfl))
theorem op2_eqI : Op2 κ.K rEq (.int i) (.int j) (fun x => x = .bl (decide (i = j))) := fun r C H v w ok hv hw Q q => by
  have hv' : v = V.int i := hv
  have hw' : w = V.int j := hw
  subst hv' hw'
  refine ⟨rfl, ?_⟩
  have e : decide (V.int i = V.int j) = decide (i = j) := by
    by_cases h : i = j
    · subst h; rw [decide_eq_true rfl, decide_eq_true rfl]
    · rw [decide_eq_false h, decide_eq_false (fun z => h (V.int.inj z))]
  rw [e]
  exact q _ _ H rfl ok (Ex.refl _) rfl
theorem op2_neI : Op2 κ.K rNe (.int i) (.int j) (fun x => x = .bl (!decide (i = j))) := fun r C H v w ok hv hw Q q => by
  have hv' : v = V.int i := hv
  have hw' : w = V.int j := hw
  subst hv' hw'
  refine ⟨rfl, ?_⟩
  have e : decide (V.int i = V.int j) = decide (i = j) := by
    by_cases h : i = j
    · subst h; rw [decide_eq_true rfl, decide_eq_true rfl]
    · rw [decide_eq_false h, decide_eq_false (fun z => h (V.int.inj z))]
  rw [e]
  exact q _ _ H rfl ok (Ex.refl _) rfl
theorem d_eq (ha : De κ r a Γ (.int i)) (hb : De κ r b Γ (.int j)) : De κ r (.Compare a [.Eq] [b] pos) Γ (.bl (decide (i = j))) := e_cmp (fun _ _ => op_eq) (nomark _) ha hb (Op2.det op2_eqI)
theorem d_ne (ha : De κ r a Γ (.int i)) (hb : De κ r b Γ (.int j)) : De κ r (.Compare a [.NotEq] [b] pos) Γ (.bl (!decide (i = j))) := e_cmp (fun _ _ => op_ne) (nomark _) ha hb (Op2.det op2_neI)
/-- is None -/
def D.isNone : D → Bool
  | .non => true
  | _ => false
def D.notRaw : D → Bool
  | .raw _ => false
  | _ => true
theorem isNone_of {K : PySem.W.Frag} {G : Hp} {v : V} (h : Is K G d v) (hr : d.notRaw = true) : decide (v = V.non) = d.isNone := by
  cases d with
  | raw => cases hr
  | non => rw [show v = V.non from h]; rfl
  | bl => rw [show v = V.bl _ from h]; rfl
  | int => rw [show v = V.int _ from h]; rfl
  | str => rw [show v = V.str _ from h]; rfl
  | lst => obtain ⟨p, vs, e, _⟩ := h; rw [e]; rfl
  | tup => obtain ⟨p, vs, e, _⟩ := h; rw [e]; rfl
def rIsNn : R2 := fun x y H Q => y = .non ∧ Q (.bl (decide (x = .non))) H
def rNotNn : R2 := fun x y H Q => y = .non ∧ Q (.bl (!decide (x = .non))) H
theorem op2_isN (hr : d.notRaw = true) : Op2 κ.K rIsNn d .non (fun x => x = .bl d.isNone) := fun r C H v w ok hv hw Q q => ⟨hw, by
  rw [isNone_of hv hr]
  exact q _ _ H rfl ok (Ex.refl _) rfl⟩
theorem op2_notN (hr : d.notRaw = true) : Op2 κ.K rNotNn d .non (fun x => x = .bl (!d.isNone)) := fun r C H v w ok hv hw Q q => ⟨hw, by
  rw [isNone_of hv hr]
  exact q _ _ H rfl ok (Ex.refl _) rfl⟩
theorem d_isN (ha : De κ r a Γ d) (hb : De κ r b Γ .non) (hr : d.notRaw = true) : De κ r (.Compare a [.Is] [b] pos) Γ (.bl d.isNone) := e_cmp (rr := rIsNn) (fun _ _ => op_isN) (nomark _) ha hb (Op2.det (op2_isN hr))
theorem d_notN (ha : De κ r a Γ d) (hb : De κ r b Γ .non) (hr : d.notRaw = true) : De κ r (.Compare a [.IsNot] [b] pos) Γ (.bl (!d.isNone)) := e_cmp (rr := rNotNn) (fun _ _ => op_notN) (nomark _) ha hb (Op2.det (op2_notN hr))
/-! ### the same as tests -/
theorem Op2.tst {rr : R2} {x y : D} {b : Bool} (h : Op2 κ.K rr x y (fun x => x = .bl b)) : ∀ x' y', x' = x → y' = y → Op2 κ.K rr x' y' (fun d => ∃ c, d = .bl c ∧ c = b) := by
  rintro _ _ rfl rfl r C H v w ok hv hw Q q
  exact h r C H v w ok hv hw Q fun d u H' kd => q d u H' ⟨b, kd, rfl⟩
theorem dt_lt (ha : De κ r a Γ (.int i)) (hb : De κ r b Γ (.int j)) : Dt κ r (.Compare a [.Lt] [b] pos) Γ (decide (i < j)) := t_cmp (fun _ _ => op_lt) (nomark _) ha hb (Op2.tst (op2_i0 fun _ => rfl))
theorem dt_le (ha : De κ r a Γ (.int i)) (hb : De κ r b Γ (.int j)) : Dt κ r (.Compare a [.LtE] [b] pos) Γ (decide (i ≤ j)) := t_cmp (fun _ _ => op_le) (nomark _) ha hb (Op2.tst (op2_i0 fun _ => rfl))
theorem dt_gt (ha : De κ r a Γ (.int i)) (hb : De κ r b Γ (.int j)) : Dt κ r (.Compare a [.Gt] [b] pos) Γ (decide (j < i)) := t_cmp (fun _ _ => op_gt) (nomark _) ha hb (Op2.tst (op2_i0 fun _ => rfl))
theorem dt_ge (ha : De κ r a Γ (.int i)) (hb : De κ r b Γ (.int j)) : Dt κ r (.Compare a [.GtE] [b] pos) Γ (decide (j ≤ i)) := t_cmp (fun _ _ => op_ge) (nomark _) ha hb (Op2.tst (op2_i0 fun _ => rfl))
theorem dt_eq (ha : De κ r a Γ (.int i)) (hb : De κ r b Γ (.int j)) : Dt κ r (.Compare a [.Eq] [b] pos) Γ (decide (i = j)) := t_cmp (fun _ _ => op_eq) (nomark _) ha hb (Op2.tst op2_eqI)
theorem dt_ne (ha : De κ r a Γ (.int i)) (hb : De κ r b Γ (.int j)) : Dt κ r (.Compare a [.NotEq] [b] pos) Γ (!decide (i = j)) := t_cmp (fun _ _ => op_ne) (nomark _) ha hb (Op2.tst op2_neI)
theorem dt_isN (ha : De κ r a Γ d) (hb : De κ r b Γ .non) (hr : d.notRaw = true) : Dt κ r (.Compare a [.Is] [b] pos) Γ d.isNone := t_cmp (rr := rIsNn) (fun _ _ => op_isN) (nomark _) ha hb (Op2.tst (op2_isN hr))
theorem dt_notN (ha : De κ r a Γ d) (hb : De κ r b Γ .non) (hr : d.notRaw = true) : Dt κ r (.Compare a [.IsNot] [b] pos) Γ (!d.isNone) := t_cmp (rr := rNotNn) (fun _ _ => op_notN) (nomark _) ha hb (Op2.tst (op2_notN hr))
theorem dt_val {b : Bool} (ha : De κ r e Γ (.bl b)) (hs : ∀ X, κ.F X → ∀ whole, isTrue e X.env whole = (do let v ← whole; standAt e.pos; holding [v] (truthy v)) := by intro _ _ _; rfl) : Dt κ r e Γ b := t_val ha (fun d hd => ⟨b, hd, rfl⟩) hs
theorem dt_not {b : Bool} (ha : Dt κ r a Γ b) : Dt κ r (.UnaryOp .Not a pos) Γ (!b) := t_not (ha.imp fun c hc => by rw [hc])
theorem dw_one {b : Bool} (ha : Dt κ r a Γ b) : Pw κ r (.BoolOp .And [a] pos) Γ (fun x => x = b) := w_and1 ha
theorem dw_oneO {b : Bool} (ha : Dt κ r a Γ b) : Pw κ r (.BoolOp .Or [a] pos) Γ (fun x => x = b) := w_or1 ha
theorem dw_and {rest : List Expr} {b1 b2 : Bool} (h1 : Dt κ r a Γ b1) (h2 : b1 = true → Pw κ r (.BoolOp .And (b :: rest) pos) Γ (fun x => x = b2)) : Pw κ r (.BoolOp .And (a :: b :: rest) pos) Γ (fun x => x = (b1 && b2)) := by
  cases b1 with
  | true => exact w_and h1 (fun _ => h2 rfl) (fun z => nomatch z)
  | false => exact w_and h1 (fun z => nomatch z) (fun _ => rfl)
theorem dw_or {rest : List Expr} {b1 b2 : Bool} (h1 : Dt κ r a Γ b1) (h2 : b1 = false → Pw κ r (.BoolOp .Or (b :: rest) pos) Γ (fun x => x = b2)) : Pw κ r (.BoolOp .Or (a :: b :: rest) pos) Γ (fun x => x = (b1 || b2)) := by
  cases b1 with
  | false => exact w_or h1 (fun _ => h2 rfl) (fun z => nomatch z)
  | true => exact w_or h1 (fun z => nomatch z) (fun _ => rfl)
theorem d_and {rest : List Expr} {b1 b2 : Bool} (h1 : De κ r a Γ (.bl b1)) (h2 : b1 = true → De κ r (.BoolOp .And (b :: rest) pos) Γ (.bl b2)) : De κ r (.BoolOp .And (a :: b :: rest) pos) Γ (.bl (b1 && b2)) := by
  cases b1 with
  | true => exact e_and (k1 := fun c => c = true) (h1.imp fun d hd => ⟨true, hd, rfl⟩) (fun _ => h2 rfl) (fun z => nomatch z)
  | false => exact e_and (k1 := fun c => c = false) (h1.imp fun d hd => ⟨false, hd, rfl⟩) (fun z => nomatch z) (fun _ => rfl)
theorem d_or {rest : List Expr} {b1 b2 : Bool} (h1 : De κ r a Γ (.bl b1)) (h2 : b1 = false → De κ r (.BoolOp .Or (b :: rest) pos) Γ (.bl b2)) : De κ r (.BoolOp .Or (a :: b :: rest) pos) Γ (.bl (b1 || b2)) := by
  cases b1 with
  | false => exact e_or (k1 := fun c => c = false) (h1.imp fun d hd => ⟨false, hd, rfl⟩) (fun _ => h2 rfl) (fun z => nomatch z)
  | true => exact e_or (k1 := fun c => c = true) (h1.imp fun d hd => ⟨true, hd, rfl⟩) (fun z => nomatch z) (fun _ => rfl)
theorem d_one {op} (h : De κ r a Γ d) : De κ r (.BoolOp op [a] pos) Γ d := e_one h
theorem d_not {b : Bool} (h : De κ r a Γ (.bl b)) : De κ r (.UnaryOp .Not a pos) Γ (.bl (!b)) := e_not (k1 := fun c => c = b) (h.imp fun d hd => ⟨b, hd, rfl⟩) (fun c hc => by rw [hc])
/-! ### lists and tuples -/
theorem d_ixL (ha : De κ r a Γ (.lst ds)) (hb : De κ r b Γ (.int i)) (h : L2.atI ds i = some d) (hs : PlainIx b := by exact fun _ _ => rfl) : De κ r (.Subscript a b pos) Γ d := e_ix (rr := rIxL κ.K) (fun X hX => by rw [← Kx.hK hX]; exact ix_list) hs ha hb (Op2.det fun r C H v w ok hv hw Q q => by
  obtain ⟨p, vs, ev, hp, is⟩ := hv
  obtain ⟨u, h1, h2⟩ := is.atI h
  exact ⟨p, vs, i, u, ev, hw, .inl (.inl (hid_some hp).1), h1, q d u H rfl ok (Ex.refl _) h2⟩)
theorem d_ixT (ha : De κ r a Γ (.tup ds)) (hb : De κ r b Γ (.int i)) (h : L2.atI ds i = some d) (hs : PlainIx b := by exact fun _ _ => rfl) : De κ r (.Subscript a b pos) Γ d := e_ix (rr := rIxT κ.K) (fun X hX => by rw [← Kx.hK hX]; exact ix_tup) hs ha hb (Op2.det fun r C H v w ok hv hw Q q => by
  obtain ⟨p, vs, ev, hp, is⟩ := hv
  obtain ⟨u, h1, h2⟩ := is.atI h
  exact ⟨p, vs, i, u, ev, hw, exSqT (hid_ex r C H) hp, h1, q d u H rfl ok (Ex.refl _) h2⟩)
theorem da_nil : Da κ r [] Γ [] := a_nil rfl
theorem da_cons (ha : De κ r e Γ d) (hr : Da κ r es Γ ds) (hs : ∀ X, κ.F X → starEach (e :: es) X.env = (false, eval e X.env) :: starEach es X.env := by intro _ _; rfl) : Da κ r (e :: es) Γ (d :: ds) := a_cons hs ha hr (by rintro _ _ rfl rfl; rfl)
theorem d_tup {x1} (ha : Da κ r es Γ ds) (h : ds.length ≤ 100000 := by simp) : De κ r (.Tuple es x1 pos) Γ (.tup ds) := e_tup ha (by rintro _ rfl; exact ⟨h, rfl⟩)
theorem n_lst (ha : Da κ r es Γ ds) (h : ds.length ≤ 100000 := by simp) : Dn κ r (.List es pos) Γ ds := e_lst ha (by rintro _ rfl; exact ⟨h, rfl⟩)
/-- len -/
theorem d_lenL (hm : κ.mg x = none) (ha : De κ r a Γ (.lst ds)) (hv : bootBuiltins x = some (.builtin "len") := by exact PySem.boot_len) (hg : κ.sc.names.lookup x = some .globalImplicit := by rfl) (hn : x ≠ "__name__" := by decide) (hdb : (x == ("__debug__" : Str)) = false := by decide) (pla : Pl a := by intro _ _; rfl) : De κ r (.Call (.Name x p) [a] [] pos) Γ (.int ds.length) :=
  e_callB (rr := fun xs H Q => ∃ p ys, xs = [.ref p] ∧ (SqL κ.K H p ys ∨ SqT κ.K H p ys) ∧ Q (.int ys.length) H) (fun X hX => by rw [← Kx.hK hX]; exact call_len_seq) hg hm hv (da_cons ha da_nil (fun X _ => pla X.env [])) (by
    rintro _ rfl r C H vs ok is Q q
    obtain ⟨v, vr, ev, ⟨p, us, e1, hp, i1⟩, er⟩ := is
    obtain rfl : vr = [] := er
    subst ev e1
    exact ⟨p, us, rfl, .inl (.inl (.inl (hid_some hp).1)), q _ _ H rfl ok (Ex.refl _) (by rw [i1.len]; rfl)⟩) hn hdb (fun X _ => pla X.env []) (fun _ _ => rfl)
theorem d_lenT (hm : κ.mg x = none) (ha : De κ r a Γ (.tup ds)) (hv : bootBuiltins x = some (.builtin "len") := by exact PySem.boot_len) (hg : κ.sc.names.lookup x = some .globalImplicit := by rfl) (hn : x ≠ "__name__" := by decide) (hdb : (x == ("__debug__" : Str)) = false := by decide) (pla : Pl a := by intro _ _; rfl) : De κ r (.Call (.Name x p) [a] [] pos) Γ (.int ds.length) :=
  e_callB (rr := fun xs H Q => ∃ p ys, xs = [.ref p] ∧ (SqL κ.K H p ys ∨ SqT κ.K H p ys) ∧ Q (.int ys.length) H) (fun X hX => by rw [← Kx.hK hX]; exact call_len_seq) hg hm hv (da_cons ha da_nil (fun X _ => pla X.env [])) (by
    rintro _ rfl r C H vs ok is Q q
    obtain ⟨v, vr, ev, ⟨p, us, e1, hp, i1⟩, er⟩ := is
    obtain rfl : vr = [] := er
    subst ev e1
    exact ⟨p, us, rfl, .inr (exSqT (hid_ex r C H) hp), q _ _ H rfl ok (Ex.refl _) (by rw [i1.len]; rfl)⟩) hn hdb (fun X _ => pla X.env []) (fun _ _ => rfl)
theorem d_lenS {s : Str} (hm : κ.mg x = none) (ha : De κ r a Γ (.str s)) (hl : s.length ≤ 16000000) (hv : bootBuiltins x = some (.builtin "len") := by exact PySem.boot_len) (hg : κ.sc.names.lookup x = some .globalImplicit := by rfl) (hn : x ≠ "__name__" := by decide) (hdb : (x == ("__debug__" : Str)) = false := by decide) (pla : Pl a := by intro _ _; rfl) : De κ r (.Call (.Name x p) [a] [] pos) Γ (.int s.length) :=
  e_callB (rr := fun xs H Q => ∃ z, xs = [.str z] ∧ z.length ≤ sizeLine ∧ Q (.int z.length) H) (fun X hX => call_len_str) hg hm hv (da_cons ha da_nil (fun X _ => pla X.env [])) (by
    rintro _ rfl r C H vs ok is Q q
    obtain ⟨v, vr, ev, e1, er⟩ := is
    obtain rfl : vr = [] := er
    subst ev
    exact ⟨s, by rw [show v = V.str s from e1], Nat.le_trans hl (by decide), q _ _ H rfl ok (Ex.refl _) rfl⟩) hn hdb (fun X _ => pla X.env []) (fun _ _ => rfl)
/-- tuple(x), list(x) -/
theorem d_tupleL (hm : κ.mg x = none) (ha : De κ r a Γ (.lst ds)) (hv : bootBuiltins x = some (.type "tuple") := by decide +kernel) (hg : κ.sc.names.lookup x = some .globalImplicit := by rfl) (hn : x ≠ "__name__" := by decide) (hdb : (x == ("__debug__" : Str)) = false := by decide) (pla : Pl a := by intro _ _; rfl) : De κ r (.Call (.Name x p) [a] [] pos) Γ (.tup ds) :=
  e_callT (rr := fun xs H Q => ∃ p ys, xs = [.ref p] ∧ ((SqL κ.K H p ys ∧ ∀ l, H l = none → Q (.ref l) (upd H l (.tup ys))) ∨ (SqT κ.K H p ys ∧ Q (.ref p) H))) (fun X hX => by rw [← Kx.hK hX]; exact call_tuple_of) hg hm hv (da_cons ha da_nil (fun X _ => pla X.env [])) (by
    rintro _ rfl r C H vs ok is Q q
    obtain ⟨v, vr, ev, ⟨p, us, e1, hp, i1⟩, er⟩ := is
    obtain rfl : vr = [] := er
    subst ev e1
    refine ⟨p, us, rfl, .inl ⟨.inl (.inl (hid_some hp).1), fun l nl => ?_⟩⟩
    obtain ⟨o2, e2, s2⟩ := ok.new (o := .tup us) nl
    exact q _ _ _ rfl o2 e2 ⟨l, us, rfl, .inl (.inl s2), IsA.mono e2 _ _ i1⟩) hn hdb (fun X _ => pla X.env []) (fun _ _ => rfl)
theorem d_tupleT (hm : κ.mg x = none) (ha : De κ r a Γ (.tup ds)) (hv : bootBuiltins x = some (.type "tuple") := by decide +kernel) (hg : κ.sc.names.lookup x = some .globalImplicit := by rfl) (hn : x ≠ "__name__" := by decide) (hdb : (x == ("__debug__" : Str)) = false := by decide) (pla : Pl a := by intro _ _; rfl) : De κ r (.Call (.Name x p) [a] [] pos) Γ (.tup ds) :=
  e_callT (rr := fun xs H Q => ∃ p ys, xs = [.ref p] ∧ ((SqL κ.K H p ys ∧ ∀ l, H l = none → Q (.ref l) (upd H l (.tup ys))) ∨ (SqT κ.K H p ys ∧ Q (.ref p) H))) (fun X hX => by rw [← Kx.hK hX]; exact call_tuple_of) hg hm hv (da_cons ha da_nil (fun X _ => pla X.env [])) (by
    rintro _ rfl r C H vs ok is Q q
    obtain ⟨v, vr, ev, ⟨p, us, e1, hp, i1⟩, er⟩ := is
    obtain rfl : vr = [] := er
    subst ev e1
    exact ⟨p, us, rfl, .inr ⟨exSqT (hid_ex r C H) hp, q _ _ H rfl ok (Ex.refl _) ⟨p, us, rfl, hp, i1⟩⟩⟩) hn hdb (fun X _ => pla X.env []) (fun _ _ => rfl)
theorem n_listL (hm : κ.mg x = none) (ha : De κ r a Γ (.lst ds)) (hv : bootBuiltins x = some (.type "list") := by decide +kernel) (hg : κ.sc.names.lookup x = some .globalImplicit := by rfl) (hn : x ≠ "__name__" := by decide) (hdb : (x == ("__debug__" : Str)) = false := by decide) (pla : Pl a := by intro _ _; rfl) : Dn κ r (.Call (.Name x p) [a] [] pos) Γ ds :=
  e_callTn (rr := fun xs H Q => ∃ p ys, xs = [.ref p] ∧ (SqL κ.K H p ys ∨ SqT κ.K H p ys) ∧ ∀ l, H l = none → Q (.ref l) (upd H l (.lst ys))) (fun X hX => by rw [← Kx.hK hX]; exact call_list_of) hg hm hv (da_cons ha da_nil (fun X _ => pla X.env [])) (by
    rintro _ rfl r C H vs ok is Q q
    obtain ⟨v, vr, ev, ⟨p, us, e1, hp, i1⟩, er⟩ := is
    obtain rfl : vr = [] := er
    subst ev e1
    exact ⟨p, us, rfl, .inl (.inl (.inl (hid_some hp).1)), fun l nl => q ds us rfl i1 l nl⟩) hn hdb (fun X _ => pla X.env []) (fun _ _ => rfl)
theorem n_listT (hm : κ.mg x = none) (ha : De κ r a Γ (.tup ds)) (hv : bootBuiltins x = some (.type "list") := by decide +kernel) (hg : κ.sc.names.lookup x = some .globalImplicit := by rfl) (hn : x ≠ "__name__" := by decide) (hdb : (x == ("__debug__" : Str)) = false := by decide) (pla : Pl a := by intro _ _; rfl) : Dn κ r (.Call (.Name x p) [a] [] pos) Γ ds :=
  e_callTn (rr := fun xs H Q => ∃ p ys, xs = [.ref p] ∧ (SqL κ.K H p ys ∨ SqT κ.K H p ys) ∧ ∀ l, H l = none → Q (.ref l) (upd H l (.lst ys))) (fun X hX => by rw [← Kx.hK hX]; exact call_list_of) hg hm hv (da_cons ha da_nil (fun X _ => pla X.env [])) (by
    rintro _ rfl r C H vs ok is Q q
    obtain ⟨v, vr, ev, ⟨p, us, e1, hp, i1⟩, er⟩ := is
    obtain rfl : vr = [] := er
    subst ev e1
    exact ⟨p, us, rfl, .inr (exSqT (hid_ex r C H) hp), fun l nl => q ds us rfl i1 l nl⟩) hn hdb (fun X _ => pla X.env []) (fun _ _ => rfl)
/-- int(x), abs(x), sum(x), ord(x), max(x, y), min(x, y) -/
def rInt1 : List V → Hp → VK → Prop := fun xs H Q => (∃ i, xs = [.int i] ∧ Q (.int i) H) ∨ ∃ k, xs = [.bl k] ∧ Q (.int (if k then 1 else 0)) H
theorem d_intI (hm : κ.mg x = none) (ha : De κ r a Γ (.int i)) (hv : bootBuiltins x = some (.type "int") := by decide +kernel) (hg : κ.sc.names.lookup x = some .globalImplicit := by rfl) (hn : x ≠ "__name__" := by decide) (hdb : (x == ("__debug__" : Str)) = false := by decide) (pla : Pl a := by intro _ _; rfl) : De κ r (.Call (.Name x p) [a] [] pos) Γ (.int i) :=
  e_callT (rr := rInt1) (fun X hX => call_int1) hg hm hv (da_cons ha da_nil (fun X _ => pla X.env [])) (by
    rintro _ rfl r C H vs ok is Q q
    obtain ⟨v, vr, ev, e1, er⟩ := is
    obtain rfl : vr = [] := er
    subst ev
    exact .inl ⟨i, by rw [show v = V.int i from e1], q _ _ H rfl ok (Ex.refl _) rfl⟩) hn hdb (fun X _ => pla X.env []) (fun _ _ => rfl)
theorem d_intB {b : Bool} (hm : κ.mg x = none) (ha : De κ r a Γ (.bl b)) (hv : bootBuiltins x = some (.type "int") := by decide +kernel) (hg : κ.sc.names.lookup x = some .globalImplicit := by rfl) (hn : x ≠ "__name__" := by decide) (hdb : (x == ("__debug__" : Str)) = false := by decide) (pla : Pl a := by intro _ _; rfl) : De κ r (.Call (.Name x p) [a] [] pos) Γ (.int (if b then 1 else 0)) :=
  e_callT (rr := rInt1) (fun X hX => call_int1) hg hm hv (da_cons ha da_nil (fun X _ => pla X.env [])) (by
    rintro _ rfl r C H vs ok is Q q
    obtain ⟨v, vr, ev, e1, er⟩ := is
    obtain rfl : vr = [] := er
    subst ev
    exact .inr ⟨b, by rw [show v = V.bl b from e1], q _ _ H rfl ok (Ex.refl _) rfl⟩) hn hdb (fun X _ => pla X.env []) (fun _ _ => rfl)
theorem d_abs (hm : κ.mg x = none) (ha : De κ r a Γ (.int i)) (hv : bootBuiltins x = some (.builtin "abs") := by decide +kernel) (hg : κ.sc.names.lookup x = some .globalImplicit := by rfl) (hn : x ≠ "__name__" := by decide) (hdb : (x == ("__debug__" : Str)) = false := by decide) (pla : Pl a := by intro _ _; rfl) : De κ r (.Call (.Name x p) [a] [] pos) Γ (.int (if i < 0 then -i else i)) :=
  e_callB (rr := fun xs H Q => ∃ i, xs = [.int i] ∧ Q (.int (if i < 0 then -i else i)) H) (fun X hX => call_abs) hg hm hv (da_cons ha da_nil (fun X _ => pla X.env [])) (by
    rintro _ rfl r C H vs ok is Q q
    obtain ⟨v, vr, ev, e1, er⟩ := is
    obtain rfl : vr = [] := er
    subst ev
    exact ⟨i, by rw [show v = V.int i from e1], q _ _ H rfl ok (Ex.refl _) rfl⟩) hn hdb (fun X _ => pla X.env []) (fun _ _ => rfl)
theorem d_sum {ns : List Int} (hm : κ.mg x = none) (ha : De κ r a Γ (lsI ns)) (hv : bootBuiltins x = some (.builtin "sum") := by decide +kernel) (hg : κ.sc.names.lookup x = some .globalImplicit := by rfl) (hn : x ≠ "__name__" := by decide) (hdb : (x == ("__debug__" : Str)) = false := by decide) (pla : Pl a := by intro _ _; rfl) : De κ r (.Call (.Name x p) [a] [] pos) Γ (.int ns.sum) :=
  e_callB (rr := rSum κ.K) (fun X hX => by rw [← Kx.hK hX]; exact cr_sum (Kx.calm hX)) hg hm hv (da_cons ha da_nil (fun X _ => pla X.env [])) (by
    rintro _ rfl r C H vs ok is Q q
    obtain ⟨v, vr, ev, ⟨p, us, e1, hp, i1⟩, er⟩ := is
    obtain rfl : vr = [] := er
    subst ev e1
    have := isA_ints i1
    subst this
    exact ⟨p, ns, rfl, .inl (.inl (hid_some hp).1), q _ _ H rfl ok (Ex.refl _) rfl⟩) hn hdb (fun X _ => pla X.env []) (fun _ _ => rfl)
theorem d_ord {s : Str} {c : Nat} (hm : κ.mg x = none) (ha : De κ r a Γ (.str s)) (hs : s = ⟨#[c]⟩) (hv : bootBuiltins x = some (.builtin "ord") := by decide +kernel) (hg : κ.sc.names.lookup x = some .globalImplicit := by rfl) (hn : x ≠ "__name__" := by decide) (hdb : (x == ("__debug__" : Str)) = false := by decide) (pla : Pl a := by intro _ _; rfl) : De κ r (.Call (.Name x p) [a] [] pos) Γ (.int c) :=
  e_callB (rr := fun xs H Q => ∃ x, xs = [.str x] ∧ x.length = 1 ∧ Q (.int (x.cps.getD 0 0 : Nat)) H) (fun X hX => call_ord) hg hm hv (da_cons ha da_nil (fun X _ => pla X.env [])) (by
    rintro _ rfl r C H vs ok is Q q
    obtain ⟨v, vr, ev, e1, er⟩ := is
    obtain rfl : vr = [] := er
    subst ev hs
    exact ⟨⟨#[c]⟩, by rw [show v = V.str _ from e1], rfl, q _ _ H rfl ok (Ex.refl _) rfl⟩) hn hdb (fun X _ => pla X.env []) (fun _ _ => rfl)
theorem d_max2 (hm : κ.mg x = none) (ha : De κ r a Γ (.int i)) (hb : De κ r b Γ (.int j)) (hv : bootBuiltins x = some (.builtin "max") := by decide +kernel) (hg : κ.sc.names.lookup x = some .globalImplicit := by rfl) (hn : x ≠ "__name__" := by decide) (hdb : (x == ("__debug__" : Str)) = false := by decide) (pla : Pl a := by intro _ _; rfl) (plb : Pl b := by intro _ _; rfl) : De κ r (.Call (.Name x p) [a, b] [] pos) Γ (.int (if j > i then j else i)) :=
  e_callB (rr := fun xs H Q => ∃ i j, xs = [.int i, .int j] ∧ Q (.int (if j > i then j else i)) H) (fun X hX => call_max2 (Kx.calm hX)) hg hm hv (da_cons ha (da_cons hb da_nil (fun X _ => plb X.env [])) (fun X _ => pla X.env [b])) (by
    rintro _ rfl r C H vs ok is Q q
    obtain ⟨v, vr, ev, e1, w, wr, ew, e2, er⟩ := is
    obtain rfl : wr = [] := er
    subst ev ew
    exact ⟨i, j, by rw [show v = V.int i from e1, show w = V.int j from e2], q _ _ H rfl ok (Ex.refl _) rfl⟩) hn hdb (fun X _ => pla X.env [b]) (fun X _ => by rw [plb X.env []]; rfl)
theorem d_min2 (hm : κ.mg x = none) (ha : De κ r a Γ (.int i)) (hb : De κ r b Γ (.int j)) (hv : bootBuiltins x = some (.builtin "min") := by decide +kernel) (hg : κ.sc.names.lookup x = some .globalImplicit := by rfl) (hn : x ≠ "__name__" := by decide) (hdb : (x == ("__debug__" : Str)) = false := by decide) (pla : Pl a := by intro _ _; rfl) (plb : Pl b := by intro _ _; rfl) : De κ r (.Call (.Name x p) [a, b] [] pos) Γ (.int (if j < i then j else i)) :=
  e_callB (rr := fun xs H Q => ∃ i j, xs = [.int i, .int j] ∧ Q (.int (if j < i then j else i)) H) (fun X hX => call_min2 (Kx.calm hX)) hg hm hv (da_cons ha (da_cons hb da_nil (fun X _ => plb X.env [])) (fun X _ => pla X.env [b])) (by
    rintro _ rfl r C H vs ok is Q q
    obtain ⟨v, vr, ev, e1, w, wr, ew, e2, er⟩ := is
    obtain rfl : wr = [] := er
    subst ev ew
    exact ⟨i, j, by rw [show v = V.int i from e1, show w = V.int j from e2], q _ _ H rfl ok (Ex.refl _) rfl⟩) hn hdb (fun X _ => pla X.env [b]) (fun X _ => by rw [plb X.env []]; rfl)
/-! ### kinds -/
def D.ty : D → String
  | .non => "NoneType"
  | .bl _ => "bool"
  | .int _ => "int"
  | .str _ => "str"
  | .lst _ => "list"
  | .tup _ => "tuple"
  | .raw _ => ""
theorem tyX_of {K : PySem.W.Frag} {r : Reg} {C : Cl} {H : Hp} {v : V} (h : Is K (hid r C H) d v) (hr : d.notRaw = true) : TyX K H v (.type d.ty) := by
  cases d with
  | raw => cases hr
  | non => rw [show v = V.non from h]; exact .base .non
  | bl => rw [show v = V.bl _ from h]; exact .base (.bl _)
  | int => rw [show v = V.int _ from h]; exact .base (.int _)
  | str => rw [show v = V.str _ from h]; exact .base (.str _)
  | lst => obtain ⟨p, vs, e, hp, _⟩ := h; rw [e]; exact .base (.lst (hid_some hp).1)
  | tup =>
    obtain ⟨p, vs, e, hp, _⟩ := h
    rw [e]
    rcases exSqT (hid_ex r C H) hp with (hp | ⟨o, hp⟩) | ⟨o, its, n, h1, h2, _⟩
    · exact .base (.tup hp)
    · exact .fTuple hp
    · exact .kTuple h1 h2
theorem d_isi {b : Bool} {T : String} (hm : κ.mg x = none) (ha : De κ r a Γ d) (hc : De κ r c Γ (.raw (.ty T))) (hr : d.notRaw = true) (hk : kitB d.ty T = some b) (hv : bootBuiltins x = some (.builtin "isinstance") := by decide +kernel) (hg : κ.sc.names.lookup x = some .globalImplicit := by rfl) (hn : x ≠ "__name__" := by decide) (hdb : (x == ("__debug__" : Str)) = false := by decide) (pla : Pl a := by intro _ _; rfl) (plb : Pl c := by intro _ _; rfl) : De κ r (.Call (.Name x p) [a, c] [] pos) Γ (.bl b) :=
  e_callB (rr := rIsi κ.K) (fun X hX => by rw [← Kx.hK hX]; exact call_isi) hg hm hv (da_cons ha (da_cons hc da_nil (fun X _ => plb X.env [])) (fun X _ => pla X.env [c])) (by
    rintro _ rfl r C H vs ok is Q q
    obtain ⟨v, vr, ev, e1, w, wr, ew, e2, er⟩ := is
    obtain rfl : wr = [] := er
    subst ev ew
    obtain rfl : w = V.ty T := e2
    exact ⟨v, .ty T, .type d.ty, .type T, b, rfl, .ty T, tyX_of e1 hr, kit_ty hk, q _ _ H rfl ok (Ex.refl _) rfl⟩) hn hdb (fun X _ => pla X.env [c]) (fun X _ => by rw [plb X.env []]; rfl)
/-! ### sums of rows -/
theorem n_cat (ha : De κ r a Γ (.lst ds)) (hb : De κ r b Γ (.lst es')) (h : ds.length + es'.length ≤ 16000000) : Dn κ r (.BinOp a .Add b pos) Γ (ds ++ es') := e_binN (rr := rCat) (fun _ _ => op_cat) ha hb (by
  rintro _ _ rfl rfl r C H v w ok ⟨p, vs, e1, hp, i1⟩ ⟨q', ws, e2, hq, i2⟩ Q q
  subst e1 e2
  exact ⟨p, q', vs, ws, rfl, rfl, (hid_some hp).1, (hid_some hq).1, Nat.le_trans (by rw [← i1.len, ← i2.len]; exact h) (by decide), fun l nl => q _ _ rfl (IsA.append i1 i2) l nl⟩)
theorem n_rep (ha : De κ r a Γ (.lst ds)) (hb : De κ r b Γ (.int i)) (h0 : 0 ≤ i) (h : ds.length * i.toNat ≤ 16000000) (h2 : i < 2 ^ 62) : Dn κ r (.BinOp a .Mult b pos) Γ (List.replicate i.toNat ds).flatten := e_binN (rr := rRep) (fun _ _ => op_rep) ha hb (by
  rintro _ _ rfl rfl r C H v w ok ⟨p, vs, e1, hp, i1⟩ hw Q q
  subst e1
  exact ⟨p, i, vs, rfl, hw, (hid_some hp).1, by omega, by omega, Nat.le_trans (by rw [← i1.len]; exact h) (by decide), fun l nl => q _ _ rfl (i1.flatten_rep _) l nl⟩)
theorem d_catT (ha : De κ r a Γ (.tup ds)) (hb : De κ r b Γ (.tup es')) (h : ds.length + es'.length ≤ 16000000) : De κ r (.BinOp a .Add b pos) Γ (.tup (ds ++ es')) := e_bin (rr := rCatA κ.K) (fun X hX => by rw [← Kx.hK hX]; exact op_catA) ha hb (by
  rintro _ _ rfl rfl r C H v w ok ⟨p, vs, e1, hp, i1⟩ ⟨q', ws, e2, hq, i2⟩ Q q
  subst e1 e2
  refine ⟨p, q', vs, ws, rfl, rfl, exSqT (hid_ex r C H) hp, exSqT (hid_ex r C H) hq, Nat.le_trans (by rw [← i1.len, ← i2.len]; exact h) (by decide), fun z => ?_, fun z1 z2 => ?_, fun z1 z2 l nl => ?_⟩
  · subst z
    have hz : ds = [] := List.length_eq_zero_iff.mp (by rw [i1.len]; rfl)
    subst hz
    exact q _ _ H rfl ok (Ex.refl _) ⟨q', ws, rfl, hq, i2⟩
  · subst z2
    have hz : es' = [] := List.length_eq_zero_iff.mp (by rw [i2.len]; rfl)
    subst hz
    exact q _ _ H rfl ok (Ex.refl _) ⟨p, vs, rfl, hp, by rw [List.append_nil]; exact i1⟩
  · obtain ⟨o2, e2, s2⟩ := ok.new (o := .tup (vs ++ ws)) nl
    exact q _ _ _ rfl o2 e2 ⟨l, _, rfl, .inl (.inl s2), IsA.mono e2 _ _ (IsA.append i1 i2)⟩)
/-! ### slices -/
theorem do_none : Po κ r none Γ (fun o => o = none) := o_none rfl
theorem do_some (h : De κ r e Γ (.int i)) : Po κ r (some e) Γ (fun o => o = some i) := o_some h (by rintro _ rfl; exact ⟨i, rfl, rfl⟩)
theorem n_slice {lo hi : Option Expr} {p2 : Pos} {l u : Option Int} (ha : De κ r a Γ (.lst ds)) (hl : Po κ r lo Γ (fun o => o = l)) (hh : Po κ r hi Γ (fun o => o = u)) : Dn κ r (.Subscript a (.Slice lo hi none p2) pos) Γ (cutDs ds l u) := e_sliceL ha hl hh (by rintro _ rfl; exact ⟨ds, rfl, by rintro _ _ rfl rfl; rfl⟩)
theorem d_sliceT {lo hi : Option Expr} {p2 : Pos} {l u : Option Int} (ha : De κ r a Γ (.tup ds)) (hl : Po κ r lo Γ (fun o => o = l)) (hh : Po κ r hi Γ (fun o => o = u)) : De κ r (.Subscript a (.Slice lo hi none p2) pos) Γ (.tup (cutDs ds l u)) := e_sliceT ha hl hh (by rintro _ rfl; exact ⟨ds, rfl, by rintro _ _ rfl rfl; rfl⟩)
theorem n_rev {j : Nat} {p1 p2 p3 : Pos} (ha : De κ r a Γ (.lst ds)) : Dn κ r (.Subscript a (.Slice none none (some (.UnaryOp .USub (.Constant (.int 1) j p1) p2)) p3) pos) Γ ds.reverse := e_revL ha (by rintro _ rfl; exact ⟨ds, rfl, rfl⟩)
/-! ### == of rows of ints -/
theorem eqvAll_ints : ∀ ns ms : List Int, PyData.eqvAll (ns.map PyData.int) (ms.map PyData.int) = decide (ns = ms)
  | [], [] => rfl
  | [], _ :: _ => rfl
  | _ :: _, [] => rfl
  | n :: ns, m :: ms => by
    rw [List.map_cons, List.map_cons]
    show (PyData.eqv (.int n) (.int m) && PyData.eqvAll (ns.map PyData.int) (ms.map PyData.int)) = _
    rw [eqvAll_ints ns ms]
    show ((n == m) && decide (ns = ms)) = decide (n :: ns = m :: ms)
    by_cases h1 : n = m
    · subst h1
      by_cases h2 : ns = ms
      · subst h2; simp
      · simp [h2]
    · simp [h1]
theorem shaped_ints (ns : List Int) : SeqAt.shaped (.list (ns.map PyData.int)) = true ∧ SeqAt.shaped (.tuple (ns.map PyData.int)) = true := by
  have h1 : PyData.canLayAll0 (ns.map PyData.int) = true := by
    induction ns with
    | nil => rfl
    | cons n ns ih => rw [List.map_cons]; simp [PyData.canLayAll0, PyData.canLay0, ih]
  have h2 : PyData.depthAll (ns.map PyData.int) ≤ 1 := by
    clear h1
    induction ns with
    | nil => decide
    | cons n ns ih => rw [List.map_cons]; simp only [PyData.depthAll]; simp [PyData.depth]; omega
  refine ⟨?_, ?_⟩
  · unfold SeqAt.shaped
    simp only [PyData.canLay0, h1, PyData.depth]
    simp; omega
  · unfold SeqAt.shaped
    simp only [PyData.canLay0, h1, PyData.depth]
    simp; omega
theorem dpAll_ints {K : PySem.W.Frag} {H : Hp} : ∀ ns : List Int, DpAll K H (ns.map V.int) (ns.map PyData.int)
  | [] => .nil
  | n :: ns => .cons (.int n) (dpAll_ints ns)
theorem op2_eqLL {ns ms : List Int} : Op2 κ.K (rEqD κ.K) (lsI ns) (lsI ms) (fun x => x = .bl (decide (ns = ms))) := by
  rintro r C H v w ok ⟨p, vs, e1, hp, i1⟩ ⟨q', ws, e2, hq, i2⟩ Q q
  have h1 := isA_ints i1
  have h2 := isA_ints i2
  subst e1 e2 h1 h2
  refine ⟨.list (ns.map PyData.int), .list (ms.map PyData.int), .lst (.inl (.inl (hid_some hp).1)) (dpAll_ints ns), .lst (.inl (.inl (hid_some hq).1)) (dpAll_ints ms), (shaped_ints ns).1, (shaped_ints ms).1, ?_⟩
  rw [show PyData.eqv (.list (ns.map PyData.int)) (.list (ms.map PyData.int)) = decide (ns = ms) from eqvAll_ints ns ms]
  exact q _ _ H rfl ok (Ex.refl _) rfl
theorem op2_neLL {ns ms : List Int} : Op2 κ.K (rNeD κ.K) (lsI ns) (lsI ms) (fun x => x = .bl (!decide (ns = ms))) := by
  rintro r C H v w ok ⟨p, vs, e1, hp, i1⟩ ⟨q', ws, e2, hq, i2⟩ Q q
  have h1 := isA_ints i1
  have h2 := isA_ints i2
  subst e1 e2 h1 h2
  refine ⟨.list (ns.map PyData.int), .list (ms.map PyData.int), .lst (.inl (.inl (hid_some hp).1)) (dpAll_ints ns), .lst (.inl (.inl (hid_some hq).1)) (dpAll_ints ms), (shaped_ints ns).1, (shaped_ints ms).1, ?_⟩
  rw [show PyData.eqv (.list (ns.map PyData.int)) (.list (ms.map PyData.int)) = decide (ns = ms) from eqvAll_ints ns ms]
  exact q _ _ H rfl ok (Ex.refl _) rfl
theorem op2_neTT {ns ms : List Int} : Op2 κ.K (rNeD κ.K) (tpI ns) (tpI ms) (fun x => x = .bl (!decide (ns = ms))) := by
  rintro r C H v w ok ⟨p, vs, e1, hp, i1⟩ ⟨q', ws, e2, hq, i2⟩ Q q
  have h1 := isA_ints i1
  have h2 := isA_ints i2
  subst e1 e2 h1 h2
  refine ⟨.tuple (ns.map PyData.int), .tuple (ms.map PyData.int), .tup (exSqT (hid_ex r C H) hp) (dpAll_ints ns), .tup (exSqT (hid_ex r C H) hq) (dpAll_ints ms), (shaped_ints ns).2, (shaped_ints ms).2, ?_⟩
  rw [show PyData.eqv (.tuple (ns.map PyData.int)) (.tuple (ms.map PyData.int)) = decide (ns = ms) from eqvAll_ints ns ms]
  exact q _ _ H rfl ok (Ex.refl _) rfl
theorem op2_eqTT {ns ms : List Int} : Op2 κ.K (rEqD κ.K) (tpI ns) (tpI ms) (fun x => x = .bl (decide (ns = ms))) := by
  rintro r C H v w ok ⟨p, vs, e1, hp, i1⟩ ⟨q', ws, e2, hq, i2⟩ Q q
  have h1 := isA_ints i1
  have h2 := isA_ints i2
  subst e1 e2 h1 h2
  refine ⟨.tuple (ns.map PyData.int), .tuple (ms.map PyData.int), .tup (exSqT (hid_ex r C H) hp) (dpAll_ints ns), .tup (exSqT (hid_ex r C H) hq) (dpAll_ints ms), (shaped_ints ns).2, (shaped_ints ms).2, ?_⟩
  rw [show PyData.eqv (.tuple (ns.map PyData.int)) (.tuple (ms.map PyData.int)) = decide (ns = ms) from eqvAll_ints ns ms]
  exact q _ _ H rfl ok (Ex.refl _) rfl
theorem units64 {X : Cx} (h : κ.F X) : X.A.units + 64 < cLine := by
  have := (Kx.room h).un
  omega
theorem d_eqLL {ns ms : List Int} (ha : De κ r a Γ (lsI ns)) (hb : De κ r b Γ (lsI ms)) : De κ r (.Compare a [.Eq] [b] pos) Γ (.bl (decide (ns = ms))) := e_cmp (rr := rEqD κ.K) (fun X hX => by rw [← Kx.hK hX]; exact op_eqD (units64 hX)) (nomark _) ha hb (Op2.det op2_eqLL)
theorem dt_eqLL {ns ms : List Int} (ha : De κ r a Γ (lsI ns)) (hb : De κ r b Γ (lsI ms)) : Dt κ r (.Compare a [.Eq] [b] pos) Γ (decide (ns = ms)) := t_cmp (rr := rEqD κ.K) (fun X hX => by rw [← Kx.hK hX]; exact op_eqD (units64 hX)) (nomark _) ha hb (Op2.tst op2_eqLL)
theorem dt_neLL {ns ms : List Int} (ha : De κ r a Γ (lsI ns)) (hb : De κ r b Γ (lsI ms)) : Dt κ r (.Compare a [.NotEq] [b] pos) Γ (!decide (ns = ms)) := t_cmp (rr := rNeD κ.K) (fun X hX => by rw [← Kx.hK hX]; exact op_neD (units64 hX)) (nomark _) ha hb (Op2.tst op2_neLL)
theorem dt_neTT {ns ms : List Int} (ha : De κ r a Γ (tpI ns)) (hb : De κ r b Γ (tpI ms)) : Dt κ r (.Compare a [.NotEq] [b] pos) Γ (!decide (ns = ms)) := t_cmp (rr := rNeD κ.K) (fun X hX => by rw [← Kx.hK hX]; exact op_neD (units64 hX)) (nomark _) ha hb (Op2.tst op2_neTT)
theorem dt_eqTT {ns ms : List Int} (ha : De κ r a Γ (tpI ns)) (hb : De κ r b Γ (tpI ms)) : Dt κ r (.Compare a [.Eq] [b] pos) Γ (decide (ns = ms)) := t_cmp (rr := rEqD κ.K) (fun X hX => by rw [← Kx.hK hX]; exact op_eqD (units64 hX)) (nomark _) ha hb (Op2.tst op2_eqTT)
/-! ### statements where all is determined -/
theorem sto {l : Nat} (hi : κ.N[l]? = some x := by rfl) (hx : Loc κ.sc x := by first | exact Or.inl rfl | exact Or.inr rfl) (hf : κ.fn x = true ∨ κ.sc.names.lookup x = some .local := by first | exact Or.inl rfl | exact Or.inr rfl) : Sto κ l x := ⟨hi, hx, hf⟩
theorem ds_set (l : Nat) (h : De κ r e Γ d) (hn : W.nx (Γ.set l (.val d))) (s : Sto κ l x := by exact sto) (hs : ∀ X, κ.F X → swapsWith e (some (.Name x p)) pos.line X.env = pure false := by intro _ _; rfl) : Ps κ r (.Assign [.Name x p] e pos) Γ W := s_set s h (by rintro _ rfl; exact hn) hs
theorem ds_new (l : Nat) (h : Dn κ r e Γ ds) (hn : W.nx (Γ.set l (.own ds))) (s : Sto κ l x := by exact sto) (hs : ∀ X, κ.F X → swapsWith e (some (.Name x p)) pos.line X.env = pure false := by intro _ _; rfl) : Ps κ r (.Assign [.Name x p] e pos) Γ W := s_new s h (by rintro _ rfl; exact hn) hs
theorem ds_ret (h : De κ r e Γ d) (hn : W.rt d) : Ps κ r (.Return (some e) pos) Γ W := s_ret h (by rintro _ rfl; exact hn)
theorem ds_retN (h : Dn κ r e Γ ds) (hn : W.rl ds) : Ps κ r (.Return (some e) pos) Γ W := s_retN h (by rintro _ rfl; exact hn)
theorem ds_if {q1 q2 : List Stmt} {b : Bool} (ht : Dt κ r c Γ b) (h1 : b = true → Bk κ r q1 Γ W) (h2 : b = false → Bk κ r q2 Γ W) : Ps κ r (.If c q1 q2 pos) Γ W := s_if ht (fun e => h1 e.symm) (fun e => h2 e.symm)
theorem ds_aug (l : Nat) (hg : Γ[l]? = some (.val (.int n)) := by rfl) (h : De κ r e Γ (.int m)) (hn : W.nx (Γ.set l (.val (.int (n + m))))) (s : Sto κ l x := by exact sto) : Ps κ r (.AugAssign (.Name x p) .Add e pos) Γ W := s_aug (f := fun i j => i + j) s (fun _ _ => ip_add) hg h (by rintro _ rfl; exact ⟨m, rfl, hn⟩)
end
end Dv

set_option Elab.async false
set_option linter.all false
set_option maxRecDepth 100000
set_option maxHeartbeats 400000
/-! helpers: weakening, calls by name, one keyword -/
namespace Dv
open PySem PySem.Spec PyProof.Rows L2
theorem Wk.nil : Wk [] [] := Wk.refl _
theorem Wk.cons {s s' : Sl} {Γ Γ' : Gm} (h : s' = .no ∨ s = s') (w : Wk Γ Γ') : Wk (s :: Γ) (s' :: Γ') := by
  refine ⟨by rw [List.length_cons, List.length_cons, w.1], fun i t ht => ?_⟩
  cases i with
  | zero =>
    have e : s' = t := Option.some.inj ht
    subst e
    rcases h with h | h
    · exact .inl h
    · exact .inr (by subst h; rfl)
  | succ i => exact w.2 i t ht
theorem Wk.no {s : Sl} {Γ Γ' : Gm} (w : Wk Γ Γ') : Wk (s :: Γ) (.no :: Γ') := Wk.cons (.inl rfl) w
theorem Wk.eq {s : Sl} {Γ Γ' : Gm} (w : Wk Γ Γ') : Wk (s :: Γ) (s :: Γ') := Wk.cons (.inr rfl) w
theorem Wk.val {d d' : D} {Γ Γ' : Gm} (h : d = d') (w : Wk Γ Γ') : Wk (.val d :: Γ) (.val d' :: Γ') := by subst h; exact Wk.eq w
theorem Wk.own {d d' : List D} {Γ Γ' : Gm} (h : d = d') (w : Wk Γ Γ') : Wk (.own d :: Γ) (.own d' :: Γ') := by subst h; exact Wk.eq w
theorem Up.by {I : Gm → Prop} {Γ Γ' : Gm} (w : Wk Γ Γ') (h : I Γ') : Up I Γ := ⟨Γ', w, h⟩
theorem rng_get {lo c : Int} {n i : Nat} {d : D} (h : (rngD lo c n)[i]? = some d) : i < n ∧ d = .int (lo + (i : Int) * c) := by
  have hi : i < n := by have := (List.getElem?_eq_some_iff.mp h).1; rwa [rngD_len] at this
  rw [rngD_get hi] at h
  exact ⟨hi, (Option.some.inj h).symm⟩
theorem rng0_get {n i : Nat} {d : D} (h : (rngD 0 1 n)[i]? = some d) : i < n ∧ d = .int (i : Int) := by
  obtain ⟨h1, h2⟩ := rng_get h
  exact ⟨h1, by rw [h2]; congr 1; omega⟩
/-- a def of the text without defaults -/
abbrev FnP (K : PySem.W.Frag) (x : Str) (st : Stmt) (f : Addr) (fd : FuncData) : Prop := FunD K x x (defArgs st) (defBody st) (defScope st) [] [] f fd
section
variable {κ : Kx} {r : Reg} {Γ : Gm} {e : Expr} {es : List Expr} {k : D → Prop} {kn kr : List D → Prop} {x g : Str} {st : Stmt} {pos p : Pos} {lv : Nat} {f : Addr} {ps : List Str} {A : Do} {AN : DoN} {ds : List D}
theorem callD (Dd : ∃ fd, FnP κ.K g st f fd) (ok : ∀ (P : Program) (w : World) (base : Heap) (fd : FuncData), FnP κ.K g st f fd → FnOk P w κ.K κ.mg base CX0 lv f fd ps (spD κ.K A)) (hb : ∀ fd, FnP κ.K g st f fd → Binds κ.K fd ps []) (hl : lv ≤ κ.lv) (hm : κ.mg x = some (.ref f)) (hg : κ.sc.names.lookup x = some .globalImplicit) (ha : Pa κ r (e :: es) Γ kr)
    (h : ∀ ds, kr ds → ∀ C, A (r.cells C) ds k) (hdb : (x == ("__debug__" : Str)) = false) (h1 : ∀ X, κ.F X → starEach (e :: es) X.env = (false, eval e X.env) :: starEach es X.env) (h2 : ∀ X, κ.F X → (backTo pos (starEach es X.env)).any (·.1) = false) :
    Pe κ r (.Call (.Name x p) (e :: es) [] pos) Γ k := by
  obtain ⟨fd, F⟩ := Dd
  exact e_call (fun X _ => ok _ _ _ fd F) hl hg hm F.kp (hb fd F) ha h hdb h1 h2
theorem callN (Dd : ∃ fd, FnP κ.K g st f fd) (ok : ∀ (P : Program) (w : World) (base : Heap) (fd : FuncData), FnP κ.K g st f fd → FnOk P w κ.K κ.mg base CX0 lv f fd ps (spN κ.K AN)) (hb : ∀ fd, FnP κ.K g st f fd → Binds κ.K fd ps []) (hl : lv ≤ κ.lv) (hm : κ.mg x = some (.ref f)) (hg : κ.sc.names.lookup x = some .globalImplicit) (ha : Pa κ r (e :: es) Γ kr)
    (h : ∀ ds, kr ds → ∀ C, AN (r.cells C) ds kn) (hdb : (x == ("__debug__" : Str)) = false) (h1 : ∀ X, κ.F X → starEach (e :: es) X.env = (false, eval e X.env) :: starEach es X.env) (h2 : ∀ X, κ.F X → (backTo pos (starEach es X.env)).any (·.1) = false) :
    Pn κ r (.Call (.Name x p) (e :: es) [] pos) Γ kn := by
  obtain ⟨fd, F⟩ := Dd
  exact e_callN (fun X _ => ok _ _ _ fd F) hl hg hm F.kp (hb fd F) ha h hdb h1 h2
/-- f(k = e), one parameter -/
theorem kb1 {K : PySem.W.Frag} {fd : FuncData} {nm : Str} (h0 : Binds K fd [nm] []) (hb : ∀ (s : Shared) (u : Value), BindsTo s fd ⟨[], [(nm, u)]⟩ [(nm, u)]) : KBinds K fd [nm] [nm] (fun us ws => us ++ ws) (fun vs zs => vs ++ zs) where
  to := fun s us ws X hl => by
    match us, ws, hl with
    | [], [u], _ => exact hb s u
    | [u], [], _ =>
      have := h0 s [u] X rfl
      exact this
  rel := fun r1 r2 => r1.append r2
theorem pe_callK1 {X : Cx} {sp : Sp} {f : Addr} {fd : FuncData} {nm : Str} {kpos : Pos} {t : TE} (F : FnOk X.prog X.w X.K X.mg X.base CX0 lv f fd [nm] sp) (hr : Room lv X.A) (hg : Gl X x) (hm : X.mg x = some (.ref f)) (hk : PySem.W.keepIn X.K (.ref f) = true)
    (hb : KBinds X.K fd [nm] [nm] (fun us ws => us ++ ws) (fun vs zs => vs ++ zs)) (ha : PE X e t) (hdb : (x == ("__debug__" : Str)) = false) : PE X (.Call (.Name x p) [] [⟨some nm, e, kpos⟩] pos) (tCall sp [] E0 (tCons t tNil)) := by
  have hks : (backToKw pos (keywordEach [⟨some nm, e, kpos⟩] X.env)).filterMap (·.1) = [nm] := by rfl
  have hall : (backToKw pos (keywordEach [⟨some nm, e, kpos⟩] X.env)).all (·.1.isSome) = true := by rfl
  have hpl : ((backTo pos (starEach [] X.env)).any (·.1) || (backToKw pos (keywordEach [⟨some nm, e, kpos⟩] X.env)).any (·.1.isNone)) = false := by rfl
  refine ⟨fun pins s σ H Q I h => ?_⟩
  have hp : PK X [⟨some nm, e, kpos⟩] (tCons t tNil) := pk_cons ha pk_nil
  refine wpAny_Call_Name_kw (ld_glob I hg hm ?_ hdb)
  refine PySem.W.callWith_KW0 (h₀ := X.base) I.ok.mod.kin hk hall (thn (hp.run pos pins s σ H (fun zs H' => sp (zs ++ []) H' Q E0) I h) fun ws s2 hq => ?_) hpl
  obtain ⟨zs, H2, I2, rz, q2⟩ := hq
  refine ⟨I2.kIn, ?_⟩
  rw [hks]
  have q3 : sp ([] ++ zs) H2 Q E0 := by
    have q4 : sp (zs ++ []) H2 Q E0 := q2
    rwa [List.append_nil] at q4
  exact run_fnk (us := []) (vs := []) F hr hb pass0 I2 .nil rz q3
theorem callK1 {nm : Str} {kpos : Pos} {ke : D → Prop} (Dd : ∃ fd, FnP κ.K g st f fd) (ok : ∀ (P : Program) (w : World) (base : Heap) (fd : FuncData), FnP κ.K g st f fd → FnOk P w κ.K κ.mg base CX0 lv f fd [nm] (spD κ.K A)) (hb : ∀ fd, FnP κ.K g st f fd → KBinds κ.K fd [nm] [nm] (fun us ws => us ++ ws) (fun vs zs => vs ++ zs)) (hl : lv ≤ κ.lv) (hm : κ.mg x = some (.ref f)) (hg : κ.sc.names.lookup x = some .globalImplicit) (ha : Pe κ r e Γ ke)
    (h : ∀ d, ke d → ∀ C, A (r.cells C) [d] k) (hdb : (x == ("__debug__" : Str)) = false) : Pe κ r (.Call (.Name x p) [] [⟨some nm, e, kpos⟩] pos) Γ k := fun B σ C H at_ Q q => by
  obtain ⟨fd, F⟩ := Dd
  refine ⟨tCall (spD κ.K A) [] E0 (tCons (xe κ e) tNil), fun X hX => pe_callK1 (X := X) (by rw [Kx.hK hX, Kx.hmg hX]; exact ok _ _ _ fd F) ((Kx.room hX).mono hl) (show X.env.scope.names.lookup x = _ by rw [Kx.hsc hX]; exact hg) (by rw [Kx.hmg hX]; exact hm) (by rw [Kx.hK hX]; exact F.kp) (by rw [Kx.hK hX]; exact hb fd F) (xe_ok e hX) hdb,
    ha B σ C H at_ _ fun d v H1 kd at1 e1 i1 => ?_⟩
  refine ⟨r.cells C, [d], k, at1.ok, by rw [hid_cells]; exact IsA.one i1, h d kd C, fun d' v' H2 kd2 o2 e2 i2 => ?_⟩
  rw [hid_cells, hid_cells] at e2
  rw [hid_cells] at i2
  exact q d' v' H2 kd2 (at1.step o2 e2) (e1.trans e2) i2
end
/-- how a keyword binds, from the def's row -/
theorem bindsK1 {K : PySem.W.Frag} {g nm : Str} {st : Stmt} {f : Addr} {fd : FuncData} (F : FnP K g st f fd) (h : ∀ (kV doc pm : Value) (an : Option Addr) (cdv ct : Value) (u : Value), bindArgs (PySem.W.fnOf g g (defArgs st) (defBody st) (defScope st) .none kV doc pm an cdv ct) ⟨[], [(nm, u)]⟩ = pure [(nm, u)]) (s : Shared) (u : Value) : BindsTo s fd ⟨[], [(nm, u)]⟩ [(nm, u)] := by
  obtain ⟨oc, od, dV, kV, doc, pm, an, cdv, ct, osl, rfl, lk, hcd, hD, hK⟩ := F.ex
  rcases hD with ⟨_, rfl⟩ | ⟨e, _⟩
  · exact .of_eq (h kV doc pm an cdv ct u)
  · exact absurd rfl e
/-! ### places that are drawn from -/
/-- a row of three: a list of ints from 0 on, two ints; what a draw changes -/
def DealAt (a s : Addr) (H : Hp) : Prop := a ≠ s ∧ ∃ (ns : List Int) (mix cnt : Int), H a = some (.lst [.ref s, .int mix, .int cnt]) ∧ H s = some (.lst (ns.map V.int)) ∧ (∀ n ∈ ns, 0 ≤ n) ∧ ns.length ≤ 64 ∧ 0 ≤ mix ∧ mix < 2147483647 ∧ 0 ≤ cnt
def Draws (r : Reg) (v : V) : Prop := ∃ a s, v = .ref a ∧ r.own a ∧ r.own s ∧ ∀ H, r.ok H → DealAt a s H ∧ ∀ H', (∀ b, r.own b → b ≠ a → b ≠ s → H' b = H b) → DealAt a s H' → r.ok H'
theorem Draws.cells {r : Reg} {v : V} (h : Draws r v) (C : Cl) : Draws (r.cells C) v := by
  obtain ⟨a, s, e, ha, hs, hk⟩ := h
  refine ⟨a, s, e, .inl ha, .inl hs, fun H k => ?_⟩
  obtain ⟨h1, h2⟩ := hk H k.rok
  refine ⟨h1, fun H' e1 d => ⟨h2 H' (fun b hb n1 n2 => e1 b (.inl hb) n1 n2) d, fun p vs hp => ?_, k.sep⟩⟩
  have hp0 : C p ≠ none := by rw [hp]; intro z; cases z
  rw [e1 p (.inr hp0) (fun z => by subst z; exact k.sep _ hp0 ha) (fun z => by subst z; exact k.sep _ hp0 hs)]
  exact k.cel p vs hp
end Dv

set_option Elab.async false
set_option linter.all false
set_option maxRecDepth 100000
set_option maxHeartbeats 1000000
namespace Dv
open PySem PySem.Spec PyProof.Rows L2
section
variable {κ : Kx} {r : Reg} {Γ Γ' : Gm} {e a b c iter elt : Expr} {es : List Expr} {d : D} {ds : List D} {ss : List Sl} {x y : Str} {pos : Pos}
theorem di_tup {tg : Expr} (h : De κ r e Γ (.tup ds)) : Pi κ r tg e Γ (fun z => z = ds) := i_tup (h.imp fun d hd => ⟨ds, hd, rfl⟩)
theorem di_list {tg : Expr} (h : De κ r e Γ (.lst ds)) : Pi κ r tg e Γ (fun z => z = ds) := i_list (h.imp fun d hd => ⟨ds, hd, rfl⟩)
theorem di_str {tg : Expr} {s : Str} (h : De κ r e Γ (.str s)) : Pi κ r tg e Γ (fun z => z = signsD s) := i_str (h.imp fun d hd => ⟨s, hd, rfl⟩)
theorem di_rng {tg : Expr} {p : Pos} {n : Nat} {m : Int} (hm : κ.mg ("range" : Str) = none) (h : De κ r a Γ (.int m)) (hn : m.toNat = n) (hb : n < 4000000000) (hm0 : -4000000000 ≤ m) (hg : κ.sc.names.lookup ("range" : Str) = some .globalImplicit := by rfl) (pl : Pl a := by intro _ _; rfl) : Pi κ r tg (.Call (.Name "range" p) [a] [] pos) Γ (fun z => z = rngD 0 1 n) :=
  i_rng1 hg hm (da_cons h da_nil (fun X _ => pl X.env [])) (by rintro _ rfl; exact ⟨m, rfl, by omega, by omega, by rw [hn]⟩) (fun X _ => pl X.env [])
theorem dv_nil : Pv κ r [] Γ (fun z => z = []) := v_nil rfl
theorem dv_val (ha : De κ r e Γ d) (hr : Pv κ r es Γ (fun z => z = ss)) (pl : Pl e := by intro _ _; rfl) : Pv κ r (e :: es) Γ (fun z => z = .val d :: ss) := v_val (fun X _ => pl X.env es) ha hr (by rintro _ _ rfl rfl; rfl)
theorem dv_new (ha : Dn κ r e Γ ds) (hr : Pv κ r es Γ (fun z => z = ss)) (pl : Pl e := by intro _ _; rfl) : Pv κ r (e :: es) Γ (fun z => z = .own ds :: ss) := v_new (fun X _ => pl X.env es) ha hr (by rintro _ _ rfl rfl; rfl)
/-- a comprehension whose element is determined -/
theorem dlc {px : Pos} {scope : Scope} {j : Nat} {xs : List D} (f : Nat → D) (hi : Pi κ r (.Name x px) iter Γ (fun z => z = xs)) (hb : xs.length ≤ 1000000)
    (hs : ∀ i d, xs[i]? = some d → De (κ.blk scope) r elt (Γ.set j (.val d)) (f i)) : LcOk κ r iter elt x px [] tYes scope j Γ (fun z => z = (List.range xs.length).map f) :=
  lc_all (fun _ i acc => acc = (List.range i).map f) hi (by rintro _ rfl; exact hb) (fun _ _ => rfl) (by
    rintro _ i d acc rfl hd rfl
    refine (hs i d hd).imp fun e he => ?_
    rw [he, List.range_succ, List.map_append]; rfl) (by rintro _ acc rfl rfl; rfl)
theorem ds_lc {px py p : Pos} {scope : Scope} {j : Nat} {W : Wt} (l : Nat) (h : LcOk κ r iter elt x px [] tYes scope j Γ (fun z => z = ds)) (hn : W.nx (Γ.set l (.own ds))) (hi : κ.N[l]? = some y := by rfl) (hl : κ.sc.names.lookup y = some .local := by rfl) (s : Sto (κ.blk scope) j x := by exact sto) (ok : BlkOk κ.N κ.sc scope [(x, j)] := by exact blkOk_by (by kernel_rfl))
    (hw : ∀ X, κ.F X → swapsWith (.ListComp elt [⟨.Name x px, iter, [], 0⟩] scope pos) (some (.Name y py)) p.line X.env = pure true := by (intro X hX; obtain rfl := hX; exact sw_true rfl rfl rfl (by decide +kernel)))
    (hf : ∀ X, κ.F X → ∀ x, foldedSetIterable iter X.env x = pure x := by intro _ _ _; rfl) : Ps κ r (.Assign [.Name y py] (.ListComp elt [⟨.Name x px, iter, [], 0⟩] scope pos) p) Γ W := s_lc hi hl h s ok (by rintro _ rfl; exact hn) hw hf
theorem dn_lc {px : Pos} {scope : Scope} {j : Nat} (h : LcOk κ r iter elt x px [] tYes scope j Γ (fun z => z = ds)) (s : Sto (κ.blk scope) j x := by exact sto) (ok : BlkOk κ.N κ.sc scope [(x, j)] := by exact blkOk_by (by kernel_rfl)) (hf : ∀ X, κ.F X → ∀ x, foldedSetIterable iter X.env x = pure x := by intro _ _ _; rfl) :
    Dn κ r (.ListComp elt [⟨.Name x px, iter, [], 0⟩] scope pos) Γ ds := n_lc h s ok hf
theorem ds_tup2 {kt k2 pt2} {px py pt : Pos} {s1 s2 : Sl} {W : Wt} (i j : Nat) (h : Pv κ r [a, b] Γ (fun z => z = [s1, s2])) (hn : W.nx ((Γ.set i s1).set j s2)) (t1 : Sto κ i x := by exact sto) (t2 : Sto κ j y := by exact sto) (hli : i < Γ.length := by simp) (hlj : j < Γ.length := by simp)
    (hs : ∀ X, κ.F X → swapsWithSole [.Tuple [.Name x px, .Name y py] kt pt] (.Tuple [a, b] k2 pt2) pos.line X.env = pure false := by intro _ _; rfl) (hw : ∀ X, κ.F X → X.env.scope = κ.sc → swappedStores [.Tuple [.Name x px, .Name y py] kt pt] (.Tuple [a, b] k2 pt2) X.env = pure none := by (rintro X rfl _; rfl))
    (h1 : ∀ X, κ.F X → (assignEach [.Tuple [.Name x px, .Name y py] kt pt] X.env).map (·.2) = [assign (.Tuple [.Name x px, .Name y py] kt pt) X.env] := by intro _ _; rfl) : Ps κ r (.Assign [.Tuple [.Name x px, .Name y py] kt pt] (.Tuple [a, b] k2 pt2) pos) Γ W := s_tup2 t1 t2 hli hlj h (by rintro _ rfl; exact ⟨_, _, rfl, hn⟩) hs hw h1
theorem ds_tup3 {z : Str} {kt k2 pt2} {px py pz pt : Pos} {s1 s2 s3 : Sl} {W : Wt} (i j l : Nat) (h : Pv κ r [a, b, c] Γ (fun z => z = [s1, s2, s3])) (hn : W.nx (((Γ.set i s1).set j s2).set l s3)) (t1 : Sto κ i x := by exact sto) (t2 : Sto κ j y := by exact sto) (t3 : Sto κ l z := by exact sto) (hli : i < Γ.length := by simp) (hlj : j < Γ.length := by simp) (hll : l < Γ.length := by simp)
    (hs : ∀ X, κ.F X → swapsWithSole [.Tuple [.Name x px, .Name y py, .Name z pz] kt pt] (.Tuple [a, b, c] k2 pt2) pos.line X.env = pure false := by intro _ _; rfl) (hw : ∀ X, κ.F X → X.env.scope = κ.sc → swappedStores [.Tuple [.Name x px, .Name y py, .Name z pz] kt pt] (.Tuple [a, b, c] k2 pt2) X.env = pure none := by (rintro X rfl _; rfl))
    (h1 : ∀ X, κ.F X → (assignEach [.Tuple [.Name x px, .Name y py, .Name z pz] kt pt] X.env).map (·.2) = [assign (.Tuple [.Name x px, .Name y py, .Name z pz] kt pt) X.env] := by intro _ _; rfl) : Ps κ r (.Assign [.Tuple [.Name x px, .Name y py, .Name z pz] kt pt] (.Tuple [a, b, c] k2 pt2) pos) Γ W := s_tup3 t1 t2 t3 hli hlj hll h (by rintro _ rfl; exact ⟨_, _, _, rfl, hn⟩) hs hw h1
theorem ds_par {kt k2 pt2} {px py pt : Pos} {s1 s2 : Sl} {W : Wt} (i j : Nat) (h : Pv κ r [a, b] Γ (fun z => z = [s1, s2])) (hn : W.nx ((Γ.set i s1).set j s2)) (hi : κ.N[i]? = some x := by rfl) (hj : κ.N[j]? = some y := by rfl) (hij : i ≠ j := by decide) (hx : κ.sc.names.lookup x = some .local := by rfl) (hy : κ.sc.names.lookup y = some .local := by rfl) (hli : i < Γ.length := by simp) (hlj : j < Γ.length := by simp)
    (hw : ∀ X, κ.F X → X.env.scope = κ.sc → swappedStores [.Tuple [.Name x px, .Name y py] kt pt] (.Tuple [a, b] k2 pt2) X.env = pure (some [x, y]) := by (rintro X rfl _; rfl))
    (hs : ∀ X, κ.F X → swapsWithSole [.Tuple [.Name x px, .Name y py] kt pt] (.Tuple [a, b] k2 pt2) pos.line X.env = pure false := by intro _ _; rfl) : Ps κ r (.Assign [.Tuple [.Name x px, .Name y py] kt pt] (.Tuple [a, b] k2 pt2) pos) Γ W := s_par hi hj hij hx hy hli hlj h (by rintro _ rfl; exact ⟨_, _, rfl, hn⟩) hw hs
theorem ds_par3 {z : Str} {kt k2 pt2} {px py pz pt : Pos} {s1 s2 s3 : Sl} {W : Wt} (i j l : Nat) (h : Pv κ r [a, b, c] Γ (fun z => z = [s1, s2, s3])) (hn : W.nx (((Γ.set i s1).set j s2).set l s3)) (hi : κ.N[i]? = some x := by rfl) (hj : κ.N[j]? = some y := by rfl) (hl : κ.N[l]? = some z := by rfl) (hij : i ≠ j := by decide) (hil : i ≠ l := by decide) (hjl : j ≠ l := by decide) (hx : κ.sc.names.lookup x = some .local := by rfl) (hy : κ.sc.names.lookup y = some .local := by rfl) (hz : κ.sc.names.lookup z = some .local := by rfl) (hli : i < Γ.length := by simp) (hlj : j < Γ.length := by simp) (hll : l < Γ.length := by simp)
    (hw : ∀ X, κ.F X → X.env.scope = κ.sc → swappedStores [.Tuple [.Name x px, .Name y py, .Name z pz] kt pt] (.Tuple [a, b, c] k2 pt2) X.env = pure (some [x, y, z]) := by (rintro X rfl _; rfl))
    (hs : ∀ X, κ.F X → swapsWithSole [.Tuple [.Name x px, .Name y py, .Name z pz] kt pt] (.Tuple [a, b, c] k2 pt2) pos.line X.env = pure false := by intro _ _; rfl) : Ps κ r (.Assign [.Tuple [.Name x px, .Name y py, .Name z pz] kt pt] (.Tuple [a, b, c] k2 pt2) pos) Γ W := s_par3 hi hj hl hij hil hjl hx hy hz hli hlj hll h (by rintro _ rfl; exact ⟨_, _, _, rfl, hn⟩) hw hs
/-- a, b = e -/
theorem ds_un2 {kt} {d1 d2 : D} {p1 p2 p : Pos} {W : Wt} (i j : Nat) (h : De κ r e Γ (.tup [d1, d2])) (hn : W.nx ((Γ.set i (.val d1)).set j (.val d2))) (t1 : Sto κ i x := by exact sto) (t2 : Sto κ j y := by exact sto)
    (hs : ∀ X, κ.F X → swapsWithSole [.Tuple [.Name x p1, .Name y p2] kt p] e pos.line X.env = pure false := by intro _ _; rfl) (hw : ∀ X, κ.F X → swappedStores [.Tuple [.Name x p1, .Name y p2] kt p] e X.env = pure none := by intro _ _; rfl)
    (h1 : ∀ X, κ.F X → (assignEach [.Tuple [.Name x p1, .Name y p2] kt p] X.env).map (·.2) = [assign (.Tuple [.Name x p1, .Name y p2] kt p) X.env] := by intro _ _; rfl) : Ps κ r (.Assign [.Tuple [.Name x p1, .Name y p2] kt p] e pos) Γ W := s_asg (fun X hX => pg_t2 t1 t2 hX) h (by rintro _ rfl; exact ⟨_, tg_t2 i j d1 d2, hn⟩) hs hw h1
theorem ds_append {apos npos cpos : Pos} {W : Wt} (l : Nat) (hg : Γ[l]? = some (.own ds)) (h : De κ r e Γ d) (hn : W.nx (Γ.set l (.own (ds ++ [d])))) (hl : ds.length < 16000000) (hN : κ.N[l]? = some x := by rfl) (hv : Vis κ.sc x := by first | exact Or.inl rfl | exact Or.inr (Or.inl rfl)) (hd : (x == ("__debug__" : Str)) = false := by decide) (hcd : (x == ("__classdict__" : Str)) = false := by decide) (pl : Pl e := by intro _ _; rfl)
    (h2 : ∀ X, κ.F X → ((backTo cpos (starEach [e] X.env)).all (fun x => !x.1) && (backToKw cpos (keywordEach [] X.env)).all (fun x => x.1.isSome)
      && decide (([e] : List Expr).length + ([] : List Keyword).length + (if ([] : List Keyword).isEmpty then 0 else 1) < 30)) = true := by intro _ _; rfl)
    (h3 : (apos.endLine == cpos.line) = true := by rfl) (hs : ∀ X, κ.F X → swapsWith (.Call (.Attribute (.Name x npos) "append" apos) [e] [] cpos) none pos.line X.env = pure false := by intro _ _; rfl) : Ps κ r (.Expr (.Call (.Attribute (.Name x npos) "append" apos) [e] [] cpos) pos) Γ W :=
  s_append hN hv hd hcd hg hl h (by rintro _ rfl; exact hn) (fun X _ => pl X.env []) h2 h3 (fun _ _ => rfl) hs
theorem ds_extend {apos npos cpos : Pos} {es' : List D} {W : Wt} (l : Nat) (hg : Γ[l]? = some (.own ds)) (h : De κ r e Γ (.lst es')) (hn : W.nx (Γ.set l (.own (ds ++ es')))) (hl : ds.length + es'.length ≤ 16000000) (hN : κ.N[l]? = some x := by rfl) (hv : Vis κ.sc x := by first | exact Or.inl rfl | exact Or.inr (Or.inl rfl)) (hd : (x == ("__debug__" : Str)) = false := by decide) (hcd : (x == ("__classdict__" : Str)) = false := by decide) (pl : Pl e := by intro _ _; rfl)
    (h2 : ∀ X, κ.F X → ((backTo cpos (starEach [e] X.env)).all (fun x => !x.1) && (backToKw cpos (keywordEach [] X.env)).all (fun x => x.1.isSome)
      && decide (([e] : List Expr).length + ([] : List Keyword).length + (if ([] : List Keyword).isEmpty then 0 else 1) < 30)) = true := by intro _ _; rfl)
    (h3 : (apos.endLine == cpos.line) = true := by rfl) (hs : ∀ X, κ.F X → swapsWith (.Call (.Attribute (.Name x npos) "extend" apos) [e] [] cpos) none pos.line X.env = pure false := by intro _ _; rfl) : Ps κ r (.Expr (.Call (.Attribute (.Name x npos) "extend" apos) [e] [] cpos) pos) Γ W :=
  s_extend hN hv hd hcd hg h (by rintro _ rfl; exact ⟨es', rfl, hl, hn⟩) (fun X _ => pl X.env []) h2 h3 (fun _ _ => rfl) hs
end
/-- range by steps of 2 from 0 -/
theorem rgC2 {n : Nat} (h : n < 1000000000) : RgC 0 ((n : Int) - 1) 2 (n / 2) := by
  have e : Builtin.Range.rangeSize 0 ((n : Int) - 1) 2 = ((n / 2 : Nat) : Int) := by
    unfold Builtin.Range.rangeSize
    rw [if_pos (by decide)]
    split <;> omega
  refine ⟨by decide, by decide, ?_, e⟩
  unfold Builtin.Range.small
  rw [e]
  simp only [Builtin.Range.rangeFitsLong, Bool.and_eq_true, Bool.or_eq_true, decide_eq_true_eq, beq_iff_eq, show ((2 : Int) > 0) by decide, if_true]
  omega
end Dv

set_option Elab.async false
set_option linter.all false
set_option maxRecDepth 100000
set_option maxHeartbeats 1000000
/-! a row that is drawn from: read as data, changed in place -/
namespace Dv
open PySem PySem.Spec PyProof.Rows L2
structure DSt where
  ns : List Int
  mix : Int
  cnt : Int
def DSt.good (z : DSt) : Prop := (∀ n ∈ z.ns, 0 ≤ n) ∧ z.ns.length ≤ 64 ∧ 0 ≤ z.mix ∧ z.mix < 2147483647 ∧ 0 ≤ z.cnt
def DSt.data (z : DSt) : D := .lst [lsI z.ns, .int z.mix, .int z.cnt]
def Has (a s : Addr) (z : DSt) (H : Hp) : Prop := H a = some (.lst [.ref s, .int z.mix, .int z.cnt]) ∧ H s = some (.lst (z.ns.map V.int))
theorem DSt.good.pop {z : DSt} {ms : List Int} {n : Int} (g : z.good) (h : z.ns = ms ++ [n]) : ({ z with ns := ms } : DSt).good :=
  ⟨fun w hw => g.1 w (by rw [h]; exact List.mem_append_left _ hw), by have := g.2.1; rw [h, List.length_append] at this; exact Nat.le_trans (Nat.le_add_right _ _) this, g.2.2⟩
theorem DSt.good.app {z : DSt} {n : Int} (g : z.good) (h : 0 ≤ n) (hl : z.ns.length < 64) : ({ z with ns := z.ns ++ [n] } : DSt).good :=
  ⟨fun w hw => by
    rcases List.mem_append.mp hw with hw | hw
    · exact g.1 w hw
    · rw [List.mem_singleton.mp hw]; exact h, by show (z.ns ++ [n]).length ≤ 64; rw [List.length_append]; exact hl, g.2.2⟩
structure Drw (r : Reg) (a s : Addr) : Prop where
  ne : a ≠ s
  oa : r.own a
  os : r.own s
  has : ∀ H, r.ok H → ∃ z : DSt, z.good ∧ Has a s z H
  put : ∀ H, r.ok H → ∀ H' z, (∀ b, r.own b → b ≠ a → b ≠ s → H' b = H b) → DSt.good z → Has a s z H' → r.ok H'
def Reg.less (r : Reg) (a s : Addr) : Reg where
  own := fun b => r.own b ∧ b ≠ a ∧ b ≠ s
  ok := fun H => ∃ H0, r.ok H0 ∧ ∀ b, r.own b → b ≠ a → b ≠ s → H b = H0 b
  loc := fun H H' e k => by
    obtain ⟨H0, k0, e0⟩ := k
    exact ⟨H0, k0, fun b h1 h2 h3 => (e b ⟨h1, h2, h3⟩).trans (e0 b h1 h2 h3)⟩
  used := fun H b k hb => by
    obtain ⟨H0, k0, e0⟩ := k
    rw [e0 b hb.1 hb.2.1 hb.2.2]
    exact r.used H0 b k0 hb.1
section
variable {K : PySem.W.Frag} {r : Reg} {a s : Addr} {B : Hp} {Γ : Gm} {σ : L2.St} {C : Cl} {H H' : Hp} {z z' : DSt} {i : Nat}
theorem hid_less : Ex (hid r C H) (hid (r.less a s) C H) := fun b o h => by
  obtain ⟨h1, h2, h3⟩ := hid_some h
  exact hid_of h1 (fun q => h2 q.1) h3
theorem Drw.no (d : Drw r a s) (k : Okc r C H) : C a = none ∧ C s = none := by
  constructor
  · cases q : C a with
    | none => rfl
    | some u => exact absurd d.oa (k.sep a (by rw [q]; intro z; cases z))
  · cases q : C s with
    | none => rfl
    | some u => exact absurd d.os (k.sep s (by rw [q]; intro z; cases z))
theorem Drw.seen (d : Drw r a s) (at_ : At K r B Γ σ C H) (hz : Has a s z H) (hi : Γ[i]? = some (.val (.raw (.ref a)))) : At K (r.less a s) (hid (r.less a s) C H) (Γ.set i (.val z.data)) σ C H := by
  obtain ⟨na, ns⟩ := d.no at_.ok
  have hl : i < Γ.length := (List.getElem?_eq_some_iff.mp hi).1
  have hne : ∀ {j : Nat} {t : Sl}, (Γ.set i (.val z.data))[j]? = some t → (j = i ∧ t = .val z.data) ∨ Γ[j]? = some t := fun {j t} h => by
    by_cases e : i = j
    · subst e
      rw [List.getElem?_set_self hl] at h
      exact .inl ⟨rfl, (Option.some.inj h).symm⟩
    · rw [List.getElem?_set_ne e] at h; exact .inr h
  refine ⟨⟨⟨H, at_.ok.rok, fun _ _ _ _ => rfl⟩, at_.ok.cel, fun p hp q => at_.ok.sep p hp q.1⟩, Ex.refl _, by rw [List.length_set]; exact at_.len, fun j x h => ?_, fun j ds h => ?_, fun j l ds es p ne h1 h2 => ?_⟩
  · rcases hne h with ⟨rfl, e⟩ | h
    · cases e
      obtain ⟨v, h1, h2⟩ := at_.val j _ hi
      refine ⟨v, h1, ?_⟩
      refine ⟨a, _, h2, hid_of hz.1 (fun q => q.2.1 rfl) na, .ref s, _, rfl, ⟨s, _, rfl, hid_of hz.2 (fun q => q.2.2 rfl) ns, ints_isA _⟩, _, _, rfl, rfl, _, _, rfl, rfl, rfl⟩
    · obtain ⟨v, h1, h2⟩ := at_.val j x h
      exact ⟨v, h1, Is.mono hid_less _ _ h2⟩
  · rcases hne h with ⟨rfl, e⟩ | h
    · cases e
    · obtain ⟨p, vs, h1, h2, h3⟩ := at_.own j ds h
      exact ⟨p, vs, h1, h2, IsA.mono hid_less _ _ h3⟩
  · rcases hne h1 with ⟨rfl, e⟩ | h1
    · cases e
    · rcases hne h2 with ⟨rfl, e⟩ | h2
      · cases e
      · exact at_.inj j l ds es p ne h1 h2
/-- back from there -/
theorem Drw.back (d : Drw r a s) (hg : z.good) (at_ : At K r B Γ σ C H) (hz : Has a s z H) (o1 : Okc (r.less a s) C H') (e1 : Ex (hid (r.less a s) C H) (hid (r.less a s) C H')) : At K r B Γ σ C H' ∧ Has a s z H' ∧ Ex (hid r C H) (hid r C H') := by
  obtain ⟨na, ns⟩ := d.no at_.ok
  have hz' : Has a s z H' := ⟨(hid_some (e1 a _ (hid_of hz.1 (fun q => q.2.1 rfl) na))).1, (hid_some (e1 s _ (hid_of hz.2 (fun q => q.2.2 rfl) ns))).1⟩
  have ex : Ex (hid r C H) (hid r C H') := fun b o hb => by
    obtain ⟨h1, h2, h3⟩ := hid_some hb
    exact hid_of (hid_some (e1 b o (hid_less b o hb))).1 h2 h3
  obtain ⟨H0, k0, e0⟩ := o1.rok
  exact ⟨at_.step ⟨d.put H0 k0 H' z e0 hg hz', o1.cel, at_.ok.sep⟩ ex, hz', ex⟩
/-- the row is changed -/
theorem Drw.turn (d : Drw r a s) (hg : z'.good) (at_ : At K r B Γ σ C H) (e : ∀ b, b ≠ a → b ≠ s → H' b = H b) (hz : Has a s z' H') : At K r B Γ σ C H' := by
  obtain ⟨na, ns⟩ := d.no at_.ok
  refine at_.step ⟨d.put H at_.ok.rok H' z' (fun b _ h1 h2 => e b h1 h2) hg hz, fun p vs hp => ?_, at_.ok.sep⟩ fun b o hb => ?_
  · rw [e p (fun q => by subst q; rw [na] at hp; cases hp) (fun q => by subst q; rw [ns] at hp; cases hp)]
    exact at_.ok.cel p vs hp
  · obtain ⟨h1, h2, h3⟩ := hid_some hb
    refine hid_of ?_ h2 h3
    rw [e b (fun q => by subst q; exact h2 d.oa) (fun q => by subst q; exact h2 d.os)]
    exact h1
end
theorem Draws.drw {r : Reg} {v : V} {H : Hp} (h : Draws r v) (k : r.ok H) : ∃ a s, v = .ref a ∧ Drw r a s := by
  obtain ⟨a, s, ev, ha, hs, hk⟩ := h
  refine ⟨a, s, ev, (hk H k).1.1, ha, hs, fun H1 k1 => ?_, fun H1 k1 H' z e g hz => ?_⟩
  · obtain ⟨_, ns, mix, cnt, h1, h2, g1, g5, g2, g3, g4⟩ := (hk H1 k1).1
    exact ⟨⟨ns, mix, cnt⟩, ⟨g1, g5, g2, g3, g4⟩, h1, h2⟩
  · exact (hk H1 k1).2 H' e ⟨(hk H k).1.1, z.ns, z.mix, z.cnt, hz.1, hz.2, g.1, g.2.1, g.2.2.1, g.2.2.2.1, g.2.2.2.2⟩
section
variable {κ : Kx} {r : Reg} {a s : Addr} {Γ Γ' : Gm} {z z' z1 : DSt} {i j : Nat} {e c : Expr} {k : D → Prop} {x : Str} {pos p p2 p3 apos cpos : Pos} {st : Stmt} {rest body : List Stmt} {W : Wt} {n m : Int} {b : Bool}
def BkD (κ : Kx) (r : Reg) (a s : Addr) (z : DSt) (body : List Stmt) (Γ : Gm) (W : Wt) : Prop := ∀ B σ C H, At κ.K r B Γ σ C H → Has a s z H → ∀ E, Eo κ.K r B W E → xss κ body E σ H
def PsD (κ : Kx) (r : Reg) (a s : Addr) (z : DSt) (st : Stmt) (Γ : Gm) (z' : DSt) (Γ' : Gm) : Prop := ∀ B σ C H, At κ.K r B Γ σ C H → Has a s z H → ∀ E : Ends, (∀ σ' H', At κ.K r B Γ' σ' C H' → Has a s z' H' → E.nx σ' H') → xs κ st E σ H
theorem bd_start {v : V} (h : Draws r v) (q : ∀ a s z, v = .ref a → Drw r a s → DSt.good z → BkD κ r a s z body Γ W) : Bk κ r body Γ W := fun B σ C H at_ E o => by
  obtain ⟨a, s, ev, d⟩ := h.drw at_.ok.rok
  obtain ⟨z, g, hz⟩ := d.has H at_.ok.rok
  exact q a s z ev d g B σ C H at_ hz E o
theorem bd_cons (h : PsD κ r a s z st Γ z' Γ') (q : BkD κ r a s z' rest Γ' W) : BkD κ r a s z (st :: rest) Γ W := fun B σ C H at_ hz E o =>
  ⟨tSeq (xs κ st) (xss κ rest), fun X hX => pss_cons (xs_ok st hX) (xss_ok rest hX), h B σ C H at_ hz { E with nx := fun σ' H' => xss κ rest E σ' H' } fun σ' H' a1 h1 => q B σ' C H' a1 h1 E o⟩
theorem bd_ret (d : Drw r a s) (hg : z.good) (hi : Γ[i]? = some (.val (.raw (.ref a)))) (h : De κ (r.less a s) e (Γ.set i (.val z.data)) (.int m)) (hk : W.rt (.int m)) : BkD κ r a s z [.Return (some e) pos] Γ W := fun B σ C H at_ hz E o =>
  ⟨tRet (xe κ e), fun X hX => pss_one (ps_ret (xe_ok e hX)), h _ σ C H (d.seen at_ hz hi) _ fun x v H' kd at1 e1 i1 => by
    subst kd
    obtain ⟨at2, hz2, ex⟩ := d.back hg at_ hz at1.ok e1
    obtain ⟨k1, k2⟩ := nil_seen at2.ok
    exact o.rt (.int m) v H' hk k1 (at2.ext.trans k2) (Is.scal i1 rfl)⟩
theorem bd_if (d : Drw r a s) (hg : z.good) (hi : Γ[i]? = some (.val (.raw (.ref a)))) (h : Dt κ (r.less a s) c (Γ.set i (.val z.data)) b) (h1 : b = true → BkD κ r a s z body Γ { W with nx := fun _ => False }) (h2 : b = false → BkD κ r a s z rest Γ W) : BkD κ r a s z (.If c body [] pos :: rest) Γ W := fun B σ C H at_ hz E o =>
  ⟨tSeq (tIfS (xt κ c) (xss κ body) tNext) (xss κ rest), fun X hX => pss_cons (ps_if (xt_ok c hX) (xss_ok body hX) pss_nil) (xss_ok rest hX), h _ σ C H (d.seen at_ hz hi) _ fun b' H1 kb at1 e1 => by
    subst kb
    obtain ⟨at2, hz2, ex⟩ := d.back hg at_ hz at1.ok e1
    cases b' with
    | true => exact iteT (h1 rfl B σ C H1 at2 hz2 _ ⟨fun _ _ _ _ w => w.elim, o.rt, o.rl, o.bk, o.ct⟩)
    | false => exact iteF (h2 rfl B σ C H1 at2 hz2 E o)⟩
/-- the row's first thing -/
abbrev tFst (K : PySem.W.Frag) (i : Nat) : TE := tOp (rIxL K) (tVar i) (tC (.int 0))
theorem pe_fst {j0 : Nat} (hN : κ.N[i]? = some x) (hv : Vis κ.sc x) (hd : (x == ("__debug__" : Str)) = false) (hcd : (x == ("__classdict__" : Str)) = false) : ∀ X, κ.F X → PE X (.Subscript (.Name x p) (.Constant (.int 0) j0 p2) p3) (tFst κ.K i) := fun X hX => by
  rw [← Kx.hK hX]
  exact pe_ix ix_list (pe_var (by rw [Kx.hN hX]; exact hN) (by rw [Kx.hsc hX]; exact hv) hd hcd) pe_int (fun _ _ => rfl)
theorem fst_at {K : PySem.W.Frag} {B : Hp} {σ : L2.St} {C : Cl} {H : Hp} {Q : VK} (at_ : At K r B Γ σ C H) (hz : Has a s z H) (hi : Γ[i]? = some (.val (.raw (.ref a)))) (q : Q (.ref s) H) : tFst K i σ H Q := by
  obtain ⟨v, h1, h2⟩ := at_.val i _ hi
  exact ⟨v, h1, a, _, 0, .ref s, h2, rfl, .inl (.inl hz.1), rfl, q⟩
theorem pop_get {ns ms : List Int} (hm : ns = ms ++ [n]) : (ns.map V.int)[(ns.map V.int).length - 1]? = some (V.int n) ∧ (ns.map V.int).dropLast = ms.map V.int := by
  subst hm
  rw [List.map_append]
  exact ⟨by simp, by simp⟩
theorem pe_popFst {j0 : Nat} (hN : κ.N[i]? = some x) (hv : Vis κ.sc x) (hd : (x == ("__debug__" : Str)) = false) (hcd : (x == ("__classdict__" : Str)) = false) (h3 : (apos.endLine == cpos.line) = true) : ∀ X, κ.F X → PE X (.Call (.Attribute (.Subscript (.Name x p) (.Constant (.int 0) j0 p2) p3) "pop" apos) [] [] cpos) (tBM0 κ.K "list" rPop (tFst κ.K i)) := fun X hX => by
  have := pe_fst (j0 := j0) (p := p) (p2 := p2) (p3 := p3) hN hv hd hcd X hX
  rw [← Kx.hK hX] at this ⊢
  exact pe_bm0 PySem.F.plainAttrs_list PySem.F.slot_list_pop PySem.F.type_list_pop mt_pop this (by rfl) h3
theorem pop_at {K : PySem.W.Frag} {B : Hp} {σ : L2.St} {C : Cl} {H : Hp} {Q : VK} {ms : List Int} (d : Drw r a s) (hg : z.good) (at_ : At K r B Γ σ C H) (hz : Has a s z H) (hi : Γ[i]? = some (.val (.raw (.ref a)))) (hm : z.ns = ms ++ [n])
    (q : ∀ H', At K r B Γ σ C H' → Has a s { z with ns := ms } H' → Q (.int n) H') : tBM0 K "list" rPop (tFst K i) σ H Q := by
  refine fst_at at_ hz hi ⟨.inl ⟨rfl, _, .inl (.inl hz.2)⟩, s, _, .int n, rfl, rfl, hz.2, (pop_get hm).1, ?_⟩
  have h2 : Has a s { z with ns := ms } (upd H s (.lst ((z.ns.map V.int).dropLast))) := ⟨by rw [upd_ne d.ne]; exact hz.1, by rw [upd_same, (pop_get hm).2]⟩
  exact q _ (d.turn (z' := { z with ns := ms }) (hg.pop hm) at_ (fun b _ h => upd_ne h) h2) h2
theorem pd_pop {ms : List Int} {j0 : Nat} (i : Nat) (d : Drw r a s) (hg : z.good) (hi : Γ[i]? = some (.val (.raw (.ref a)))) (hm : z.ns = ms ++ [n]) (hN : κ.N[i]? = some x := by rfl) (hv : Vis κ.sc x := by first | exact Or.inl rfl | exact Or.inr (Or.inl rfl)) (hd : (x == ("__debug__" : Str)) = false := by decide) (hcd : (x == ("__classdict__" : Str)) = false := by decide) (h3 : (apos.endLine == cpos.line) = true := by rfl)
    (hs : ∀ X, κ.F X → swapsWith (.Call (.Attribute (.Subscript (.Name x p) (.Constant (.int 0) j0 p2) p3) "pop" apos) [] [] cpos) none pos.line X.env = pure false := by intro _ _; rfl) :
    PsD κ r a s z (.Expr (.Call (.Attribute (.Subscript (.Name x p) (.Constant (.int 0) j0 p2) p3) "pop" apos) [] [] cpos) pos) Γ { z with ns := ms } Γ := fun B σ C H at_ hz E q =>
  ⟨tDrop (tBM0 κ.K "list" rPop (tFst κ.K i)), fun X hX => ps_expr (pe_popFst hN hv hd hcd h3 X hX) (hs X hX), pop_at d hg at_ hz hi hm fun H' at1 h1 => q σ H' at1 h1⟩
/-- y = int(x[0].pop()) -/
theorem pd_take {ms : List Int} {j0 : Nat} {y f : Str} {py pf ci : Pos} (i l : Nat) (d : Drw r a s) (hg : z.good) (hi : Γ[i]? = some (.val (.raw (.ref a)))) (hm : z.ns = ms ++ [n]) (hf : κ.mg f = none) (hfv : bootBuiltins f = some (.type "int") := by decide +kernel) (hfg : κ.sc.names.lookup f = some .globalImplicit := by rfl) (hfn : f ≠ "__name__" := by decide) (hfd : (f == ("__debug__" : Str)) = false := by decide) (sy : Sto κ l y := by exact sto)
    (hN : κ.N[i]? = some x := by rfl) (hv : Vis κ.sc x := by first | exact Or.inl rfl | exact Or.inr (Or.inl rfl)) (hd : (x == ("__debug__" : Str)) = false := by decide) (hcd : (x == ("__classdict__" : Str)) = false := by decide) (h3 : (apos.endLine == cpos.line) = true := by rfl)
    (hs : ∀ X, κ.F X → swapsWith (.Call (.Name f pf) [.Call (.Attribute (.Subscript (.Name x p) (.Constant (.int 0) j0 p2) p3) "pop" apos) [] [] cpos] [] ci) (some (.Name y py)) pos.line X.env = pure false := by intro _ _; rfl) :
    PsD κ r a s z (.Assign [.Name y py] (.Call (.Name f pf) [.Call (.Attribute (.Subscript (.Name x p) (.Constant (.int 0) j0 p2) p3) "pop" apos) [] [] cpos] [] ci) pos) Γ { z with ns := ms } (Γ.set l (.val (.int n))) := fun B σ C H at_ hz E q =>
  ⟨tAsg (tCB rInt1 (tCons (tBM0 κ.K "list" rPop (tFst κ.K i)) tNil)) (gName l), fun X hX => ps_set (by rw [Kx.hN hX]; exact Kx.nd hX) (by rw [Kx.hN hX]; exact sy.hi) (sy.loc hX) (pe_callTy call_int1 (show X.env.scope.names.lookup f = _ by rw [Kx.hsc hX]; exact hfg) (by rw [Kx.hmg hX]; exact hf) hfv (pa_cons (pe_popFst hN hv hd hcd h3 X hX) pa_nil (by rfl)) hfn hfd (by rfl) (by rfl)) (hs X hX) (sy.fn hX),
    pop_at d hg at_ hz hi hm fun H' at1 h1 => .inl ⟨n, rfl, q _ H' (at1.set l (d := .int n) rfl) h1⟩⟩
/-- x[0].append(e) -/
theorem pd_app {j0 : Nat} (i : Nat) (d : Drw r a s) (hg : z.good) (hi : Γ[i]? = some (.val (.raw (.ref a)))) (h : De κ (r.less a s) e (Γ.set i (.val z.data)) (.int n)) (hn : 0 ≤ n) (hl : z.ns.length < 64) (hN : κ.N[i]? = some x := by rfl) (hv : Vis κ.sc x := by first | exact Or.inl rfl | exact Or.inr (Or.inl rfl)) (hd : (x == ("__debug__" : Str)) = false := by decide) (hcd : (x == ("__classdict__" : Str)) = false := by decide) (h3 : (apos.endLine == cpos.line) = true := by rfl) (pl : Pl e := by intro _ _; rfl)
    (h2 : ∀ X, κ.F X → ((backTo cpos (starEach [e] X.env)).all (fun x => !x.1) && (backToKw cpos (keywordEach [] X.env)).all (fun x => x.1.isSome)
      && decide (([e] : List Expr).length + ([] : List Keyword).length + (if ([] : List Keyword).isEmpty then 0 else 1) < 30)) = true := by intro _ _; rfl)
    (hs : ∀ X, κ.F X → swapsWith (.Call (.Attribute (.Subscript (.Name x p) (.Constant (.int 0) j0 p2) p3) "append" apos) [e] [] cpos) none pos.line X.env = pure false := by intro _ _; rfl) :
    PsD κ r a s z (.Expr (.Call (.Attribute (.Subscript (.Name x p) (.Constant (.int 0) j0 p2) p3) "append" apos) [e] [] cpos) pos) Γ { z with ns := z.ns ++ [n] } Γ := fun B σ C H at_ hz E q =>
  ⟨tDrop (tBM κ.K "list" rAppend (tFst κ.K i) (tCons (xe κ e) tNil)), fun X hX => ps_expr (by
      have := pe_fst (j0 := j0) (p := p) (p2 := p2) (p3 := p3) hN hv hd hcd X hX
      rw [← Kx.hK hX] at this ⊢
      exact pe_bm PySem.F.plainAttrs_list PySem.F.slot_list_append PySem.F.type_list_append mt_append this (pa_cons (xe_ok e hX) pa_nil (pl X.env [])) (by rfl) (h2 X hX) h3 (pl X.env []) (by rfl)) (hs X hX),
    fst_at at_ hz hi ⟨.inl ⟨rfl, _, .inl (.inl hz.2)⟩, h _ σ C H (d.seen at_ hz hi) _ fun w v H1 kd at1 e1 i1 => by
      subst kd
      obtain ⟨at2, hz2, ex⟩ := d.back hg at_ hz at1.ok e1
      refine ⟨s, _, v, rfl, rfl, hz2.2, Nat.lt_of_lt_of_le (m := 64) (by rw [List.length_map]; exact hl) (by decide), ?_⟩
      have h2 : Has a s { z with ns := z.ns ++ [n] } (upd H1 s (.lst (z.ns.map V.int ++ [v]))) := ⟨by rw [upd_ne d.ne]; exact hz2.1, by rw [upd_same, List.map_append, show v = V.int n from i1]; rfl⟩
      exact q σ _ (d.turn (z' := { z with ns := z.ns ++ [n] }) (hg.app hn hl) at2 (fun b _ h => upd_ne h) h2) h2⟩⟩
/-- x[n] = e -/
theorem pd_put {j0 : Nat} {t : Nat} (i : Nat) (d : Drw r a s) (hg : z.good) (hg' : z'.good) (hi : Γ[i]? = some (.val (.raw (.ref a)))) (h : De κ (r.less a s) e (Γ.set i (.val z.data)) (.int n)) (hz' : ([.ref s, .int z.mix, .int z.cnt] : List V).set t (.int n) = [.ref s, .int z'.mix, .int z'.cnt]) (ht : t < 3) (hns : z'.ns = z.ns) (hN : κ.N[i]? = some x := by rfl) (hv : Vis κ.sc x := by first | exact Or.inl rfl | exact Or.inr (Or.inl rfl)) (hd : (x == ("__debug__" : Str)) = false := by decide) (hcd : (x == ("__classdict__" : Str)) = false := by decide)
    (ha : ∀ X, κ.F X → ∀ z, assign (.Subscript (.Name x p) (.Constant (.int t) j0 p2) p3) X.env z = (do
      let ov ← holding [z] (eval (.Name x p) X.env)
      let iv ← holding [z, ov] (eval (.Constant (.int t) j0 p2) X.env)
      standAt p3
      holding [z, ov, iv] (setItem ov iv z)
      release [z, ov, iv] []) := by intro _ _ _; rfl)
    (hs : ∀ X, κ.F X → swapsWithSole [.Subscript (.Name x p) (.Constant (.int t) j0 p2) p3] e pos.line X.env = pure false := by intro _ _; rfl)
    (hw : ∀ X, κ.F X → swappedStores [.Subscript (.Name x p) (.Constant (.int t) j0 p2) p3] e X.env = pure none := by intro _ _; rfl)
    (h1 : ∀ X, κ.F X → (assignEach [.Subscript (.Name x p) (.Constant (.int t) j0 p2) p3] X.env).map (·.2) = [assign (.Subscript (.Name x p) (.Constant (.int t) j0 p2) p3) X.env] := by intro _ _; rfl) :
    PsD κ r a s z (.Assign [.Subscript (.Name x p) (.Constant (.int t) j0 p2) p3] e pos) Γ z' Γ := fun B σ C H at_ hz E q =>
  ⟨tAsg (xe κ e) (gSub (tVar i) (tC (.int t)) rSetL), fun X hX => ps_asg (xe_ok e hX) (pg_sub (pe_var (by rw [Kx.hN hX]; exact hN) (by rw [Kx.hsc hX]; exact hv) hd hcd) pe_int set_list (ha X hX)) (hs X hX) (hw X hX) (h1 X hX),
    h _ σ C H (d.seen at_ hz hi) _ fun w v H1 kd at1 e1 i1 => by
      subst kd
      obtain ⟨at2, hz2, ex⟩ := d.back hg at_ hz at1.ok e1
      obtain ⟨u, h1, h2⟩ := at2.val i _ hi
      refine ⟨u, h1, a, _, t, t, h2, rfl, hz2.1, ?_, ?_⟩
      · rcases t with _ | _ | _ | t
        · rfl
        · rfl
        · rfl
        · omega
      · have h3 : Has a s z' (upd H1 a (.lst (([.ref s, .int z.mix, .int z.cnt] : List V).set t v))) := ⟨by rw [upd_same, show v = V.int n from i1, hz'], by rw [upd_ne (Ne.symm d.ne), hns]; exact hz2.2⟩
        exact q σ _ (d.turn hg' at2 (fun b h _ => upd_ne h) h3) h3⟩
/-- as long as c holds, a pop -/
theorem bd_while {f : DSt → Bool} (d : Drw r a s) (hg : z.good) (hi : Γ[i]? = some (.val (.raw (.ref a)))) (ht : ∀ z, DSt.good z → Dt κ (r.less a s) c (Γ.set i (.val z.data)) (f z))
    (hb : ∀ z, DSt.good z → f z = true → ∃ z', z'.good ∧ z'.ns.length < z.ns.length ∧ PsD κ r a s z st Γ z' Γ) (h : ∀ z', DSt.good z' → f z' = false → BkD κ r a s z' rest Γ W) : BkD κ r a s z (.While c [st] [] pos :: rest) Γ W := fun B σ C H at_ hz E o =>
  ⟨tSeq (tWhile (xt κ c) (xs κ st)) (xss κ rest), fun X hX => pss_cons (ps_while (Kx.passes hX) (xt_ok c hX) (pss_one (xs_ok st hX))) (xss_ok rest hX), by
    refine ⟨fun m σ' H' => ∃ z1, DSt.good z1 ∧ z1.ns.length = m ∧ At κ.K r B Γ σ' C H' ∧ Has a s z1 H', ⟨_, z, hg, rfl, at_, hz⟩, ?_⟩
    rintro m σ' H' ⟨z1, g1, hm, at1, hz1⟩
    refine ht z1 g1 _ σ' C H' (d.seen at1 hz1 hi) _ fun b' H2 kb at2 e2 => ?_
    subst kb
    obtain ⟨at3, hz3, ex⟩ := d.back g1 at1 hz1 at2.ok e2
    cases hf : f z1 with
    | true =>
      obtain ⟨z', g', hl, hp⟩ := hb z1 g1 hf
      exact iteT ⟨fun σ3 H3 => ∃ m', m' < m ∧ ∃ z1, DSt.good z1 ∧ z1.ns.length = m' ∧ At κ.K r B Γ σ3 C H3 ∧ Has a s z1 H3, fun σ3 H3 q => q, hp B σ' C H2 at3 hz3 _ fun σ4 H4 at4 hz4 => ⟨_, by omega, z', g', rfl, at4, hz4⟩⟩
    | false => exact iteF (h z1 g1 hf B σ' C H2 at3 hz3 E o)⟩
end
end Dv

set_option Elab.async false
set_option linter.all false
set_option maxRecDepth 100000
set_option maxHeartbeats 1000000
/-! ints of which only a range is known -/
namespace Dv
open PySem PySem.Spec PyProof.Rows L2
section
variable {κ : Kx} {r : Reg} {Γ Γ' : Gm} {e a b c iter elt : Expr} {es : List Expr} {d : D} {ds : List D} {x y : Str} {pos pos' p : Pos} {k ka kb : Int → Prop} {W : Wt}
def Pz (κ : Kx) (r : Reg) (e : Expr) (Γ : Gm) (k : Int → Prop) : Prop := Pe κ r e Γ fun d => ∃ i, d = .int i ∧ k i
theorem Op2.imp {K : PySem.W.Frag} {rr : R2} {x y : D} {k k' : D → Prop} (h : Op2 K rr x y k) (i : ∀ d, k d → k' d) : Op2 K rr x y k' := fun r C H v w ok hv hw Q q => h r C H v w ok hv hw Q fun d u H' kd => q d u H' (i d kd)
theorem z_of {i : Int} (h : De κ r e Γ (.int i)) (hk : k i) : Pz κ r e Γ k := h.imp fun d hd => ⟨i, hd, hk⟩
theorem Pz.imp {k' : Int → Prop} (h : Pz κ r e Γ k) (i : ∀ n, k n → k' n) : Pz κ r e Γ k' := Pe.imp h fun d ⟨n, e, kn⟩ => ⟨n, e, i n kn⟩
theorem z_add (ha : Pz κ r a Γ ka) (hb : Pz κ r b Γ kb) (h : ∀ i j, ka i → kb j → k (i + j)) : Pz κ r (.BinOp a .Add b pos) Γ k := e_bin (fun _ _ => op_add) ha hb (by
  rintro _ _ ⟨i, rfl, hi⟩ ⟨j, rfl, hj⟩
  exact Op2.imp (op2_i0 (d := .int (i + j)) fun _ => rfl) fun d hd => ⟨_, hd, h i j hi hj⟩)
theorem z_sub (ha : Pz κ r a Γ ka) (hb : Pz κ r b Γ kb) (h : ∀ i j, ka i → kb j → k (i - j)) : Pz κ r (.BinOp a .Sub b pos) Γ k := e_bin (fun _ _ => op_sub) ha hb (by
  rintro _ _ ⟨i, rfl, hi⟩ ⟨j, rfl, hj⟩
  exact Op2.imp (op2_i0 (d := .int (i - j)) fun _ => rfl) fun d hd => ⟨_, hd, h i j hi hj⟩)
theorem z_mod (ha : Pz κ r a Γ ka) (hb : Pz κ r b Γ kb) (h : ∀ i j, ka i → kb j → 0 < j ∧ k (i % j)) : Pz κ r (.BinOp a .Mod b pos) Γ k := e_bin (fun _ _ => op_mod) ha hb (by
  rintro _ _ ⟨i, rfl, hi⟩ ⟨j, rfl, hj⟩
  exact Op2.imp (op2_ic (d := .int (i % j)) (h i j hi hj).1 fun _ => rfl) fun d hd => ⟨_, hd, (h i j hi hj).2⟩)
theorem z_fdiv (ha : Pz κ r a Γ ka) (hb : Pz κ r b Γ kb) (h : ∀ i j, ka i → kb j → CDiv i j ∧ k (i / j)) : Pz κ r (.BinOp a .FloorDiv b pos) Γ k := e_bin (fun _ _ => op_fdiv) ha hb (by
  rintro _ _ ⟨i, rfl, hi⟩ ⟨j, rfl, hj⟩
  exact Op2.imp (op2_ic (d := .int (i / j)) (h i j hi hj).1 fun _ => rfl) fun d hd => ⟨_, hd, (h i j hi hj).2⟩)
theorem z_int (hm : κ.mg x = none) (ha : Pz κ r a Γ k) (hv : bootBuiltins x = some (.type "int") := by decide +kernel) (hg : κ.sc.names.lookup x = some .globalImplicit := by rfl) (hn : x ≠ "__name__" := by decide) (hdb : (x == ("__debug__" : Str)) = false := by decide) (pla : Pl a := by intro _ _; rfl) : Pz κ r (.Call (.Name x p) [a] [] pos) Γ k :=
  e_callT (rr := rInt1) (kr := fun ds => ∃ i, ds = [.int i] ∧ k i) (fun X hX => call_int1) hg hm hv (a_cons (fun X _ => pla X.env []) ha (a_nil (k := fun ds => ds = []) rfl) (by rintro _ _ ⟨i, rfl, hi⟩ rfl; exact ⟨i, rfl, hi⟩)) (by
    rintro _ ⟨i, rfl, hi⟩ r C H vs ok is Q q
    obtain ⟨v, vr, ev, e1, er⟩ := is
    obtain rfl : vr = [] := er
    subst ev
    exact .inl ⟨i, by rw [show v = V.int i from e1], q _ _ H ⟨i, rfl, hi⟩ ok (Ex.refl _) rfl⟩) hn hdb (fun X _ => pla X.env []) (fun _ _ => rfl)
theorem tz_eq {kk : Bool → Prop} (ha : Pz κ r a Γ ka) (hb : Pz κ r b Γ kb) (h : ∀ i j, ka i → kb j → kk (decide (i = j))) : Pt κ r (.Compare a [.Eq] [b] pos) Γ kk := t_cmp (fun _ _ => op_eq) (nomark _) ha hb (by
  rintro _ _ ⟨i, rfl, hi⟩ ⟨j, rfl, hj⟩
  exact Op2.imp op2_eqI fun d hd => ⟨_, hd, h i j hi hj⟩)
theorem ez_eq {kk : Bool → Prop} (ha : Pz κ r a Γ ka) (hb : Pz κ r b Γ kb) (h : ∀ i j, ka i → kb j → kk (decide (i = j))) : Pe κ r (.Compare a [.Eq] [b] pos) Γ (fun d => ∃ c, d = .bl c ∧ kk c) := e_cmp (fun _ _ => op_eq) (nomark _) ha hb (by
  rintro _ _ ⟨i, rfl, hi⟩ ⟨j, rfl, hj⟩
  exact Op2.imp op2_eqI fun d hd => ⟨_, hd, h i j hi hj⟩)
/-- all of them are so -/
def PaAll (κ : Kx) (r : Reg) (es : List Expr) (Γ : Gm) (kd : D → Prop) : Prop := Pa κ r es Γ fun ds => ds.length = es.length ∧ ∀ d ∈ ds, kd d
theorem pall_nil {kd : D → Prop} : PaAll κ r [] Γ kd := a_nil ⟨rfl, fun d h => (nomatch h)⟩
theorem pall_cons {kd : D → Prop} (ha : Pe κ r e Γ kd) (hr : PaAll κ r es Γ kd) (pl : Pl e := by intro _ _; rfl) : PaAll κ r (e :: es) Γ kd := a_cons (fun X _ => pl X.env es) ha hr fun d ds hd ⟨h1, h2⟩ => ⟨by rw [List.length_cons, List.length_cons, h1], fun x hx => by
  rcases List.mem_cons.mp hx with rfl | hx
  · exact hd
  · exact h2 x hx⟩
def AllOf (kd : D → Prop) (n : Nat) : D → Prop := fun d => ∃ es, d = .lst es ∧ es.length = n ∧ ∀ x ∈ es, kd x
theorem lst_all {kd : D → Prop} (h : PaAll κ r es Γ kd) (hl : es.length ≤ 100000 := by decide) : Pe κ r (.List es pos) Γ (AllOf kd es.length) :=
  (Pn.pe (e_lst (k := fun ds => ds.length = es.length ∧ ∀ d ∈ ds, kd d) h fun ds hd => ⟨by rw [hd.1]; exact hl, hd⟩)).imp fun d ⟨ds, e, h1, h2⟩ => ⟨ds, e, h1, h2⟩
theorem op2_ixL {K : PySem.W.Frag} {es : List D} {i : Int} {d : D} {k : D → Prop} (h : L2.atI es i = some d) (hk : k d) : Op2 K (rIxL K) (.lst es) (.int i) k := fun r C H v w ok hv hw Q q => by
  obtain ⟨p, vs, ev, hp, is⟩ := hv
  obtain ⟨u, h1, h2⟩ := is.atI h
  exact ⟨p, vs, i, u, ev, hw, .inl (.inl (hid_some hp).1), h1, q d u H hk ok (Ex.refl _) h2⟩
/-- an item at a place of which a range is known -/
theorem z_ixL {k : D → Prop} (ha : De κ r a Γ (.lst ds)) (hb : Pz κ r b Γ kb) (h : ∀ i, kb i → ∃ d, L2.atI ds i = some d ∧ k d) (hs : PlainIx b := by exact fun _ _ => rfl) : Pe κ r (.Subscript a b pos) Γ k := e_ix (rr := rIxL κ.K) (fun X hX => by rw [← Kx.hK hX]; exact ix_list) hs ha hb (by
  rintro _ _ rfl ⟨i, rfl, hi⟩
  obtain ⟨d, h1, h2⟩ := h i hi
  exact op2_ixL h1 h2)
/-- range up to an int of which a range is known -/
theorem iz_rng {tg : Expr} (hm : κ.mg ("range" : Str) = none) (h : Pz κ r a Γ k) (hb : ∀ i, k i → i < 4000000000 ∧ -4000000000 ≤ i) (hg : κ.sc.names.lookup ("range" : Str) = some .globalImplicit := by rfl) (pl : Pl a := by intro _ _; rfl) : Pi κ r tg (.Call (.Name "range" p) [a] [] pos) Γ (fun z => ∃ i : Int, k i ∧ z = rngD 0 1 i.toNat) :=
  i_rng1 (kr := fun ds => ∃ i, ds = [.int i] ∧ k i) hg hm (a_cons (fun X _ => pl X.env []) h (a_nil (k := fun ds => ds = []) rfl) (by rintro _ _ ⟨i, rfl, hi⟩ rfl; exact ⟨i, rfl, hi⟩)) (by
    rintro _ ⟨i, rfl, hi⟩
    have := hb i hi
    exact ⟨i, rfl, by omega, by omega, i, hi, rfl⟩) (fun X _ => pl X.env [])
/-- list(range(n)) -/
theorem n_listRg {m : Int} {n : Nat} {px : Pos} (hm : κ.mg ("list" : Str) = none) (hm2 : κ.mg ("range" : Str) = none) (ha : De κ r a Γ (.int m)) (hn : m = (n : Int)) (hb : n ≤ 16777216) (hg : κ.sc.names.lookup ("list" : Str) = some .globalImplicit := by rfl) (hg2 : κ.sc.names.lookup ("range" : Str) = some .globalImplicit := by rfl) (pl : Pl a := by intro _ _; rfl) :
    Dn κ r (.Call (.Name "list" p) [.Call (.Name "range" px) [a] [] pos] [] pos') Γ (((List.range n).map fun i : Nat => (0 : Int) + (i : Nat)).map D.int) := fun B σ C H at_ Q q =>
  ⟨tLstRg (tRg1 (xe κ a)), fun X hX => pe_listRg (Kx.calm hX) (show X.env.scope.names.lookup _ = _ by rw [Kx.hsc hX]; exact hg) (by rw [Kx.hmg hX]; exact hm) (prg_1 (show X.env.scope.names.lookup _ = _ by rw [Kx.hsc hX]; exact hg2) (by rw [Kx.hmg hX]; exact hm2) (xe_ok a hX) (pl X.env [])) (by rfl),
    ha B σ C H at_ _ fun d v H1 kd at1 e1 i1 => by
      subst kd
      subst hn
      refine ⟨(n : Int), i1, RgOk.of_le (by omega) (by omega) (by omega) (by omega), fun q' nn => ?_⟩
      have ev : rgV 0 (n : Int) = ((List.range n).map fun i : Nat => (0 : Int) + (i : Nat)).map V.int := by
        unfold rgV
        rw [List.map_map, show ((n : Int) - 0).toNat = n by omega]; rfl
      rw [ev]
      obtain ⟨o4, e4⟩ := new_put (vs := ((List.range n).map fun i : Nat => (0 : Int) + (i : Nat)).map V.int) at1.ok nn
      have np0 : H q' = none := by
        cases q0 : H q' with
        | none => rfl
        | some o0 => exact absurd nn (by
            rw [(hid_some (e1 q' o0 (hid_of q0 (at1.ok.own_ne nn) (at1.ok.cel_ne nn)))).1]
            intro z; cases z)
      exact q _ q' _ _ rfl np0 o4 (e1.trans e4) (ints_isA _)⟩
theorem map_get {α : Type} {xs : List α} {g : α → D} {i : Nat} {d : D} (h : (xs.map g)[i]? = some d) : ∃ x, xs[i]? = some x ∧ d = g x ∧ x ∈ xs := by
  rw [List.getElem?_map] at h
  cases q : xs[i]? with
  | none => rw [q] at h; cases h
  | some x =>
    rw [q] at h
    exact ⟨x, rfl, (Option.some.inj h).symm, List.mem_of_getElem? q⟩
theorem take_get {α : Type} {xs : List α} {i : Nat} {x : α} (h : xs[i]? = some x) : xs.take (i + 1) = xs.take i ++ [x] := by rw [List.take_add_one, h]; rfl
/-- [elt for x in iter], thing by thing -/
theorem dlc_map {α : Type} {px : Pos} {scope : Scope} {j : Nat} {xs : List α} (g h : α → D) (hi : Pi κ r (.Name x px) iter Γ (fun z => z = xs.map g)) (hb : xs.length ≤ 1000000)
    (hs : ∀ y, y ∈ xs → De (κ.blk scope) r elt (Γ.set j (.val (g y))) (h y)) : LcOk κ r iter elt x px [] tYes scope j Γ (fun z => z = xs.map h) :=
  lc_all (fun _ i acc => acc = (xs.take i).map h) hi (by rintro _ rfl; rw [List.length_map]; exact hb) (fun _ _ => rfl) (by
    rintro _ i d acc rfl hd rfl
    obtain ⟨y, h1, rfl, h2⟩ := map_get hd
    refine (hs y h2).imp fun e he => ?_
    rw [he, take_get h1, List.map_append]; rfl) (by rintro _ acc rfl rfl; rw [List.length_map, List.take_length])
end
end Dv

set_option Elab.async false
set_option linter.all false
set_option maxRecDepth 100000
set_option maxHeartbeats 0
namespace K84
open PySem PySem.Spec PyProof.Rows L2
def topS (i : Nat) : Stmt := PySem.Challenge.pw_ownmirrors_k84_whole_rows_of_frames_cut.main.body.getD i (.Pass ⟨0, 0, 0, 0⟩)
abbrev st_number_octets : Stmt := topS 5
abbrev st_number_of : Stmt := topS 6
abbrev st_behind_number : Stmt := topS 7
abbrev st_read_number : Stmt := topS 8
abbrev st_sum_of_octets : Stmt := topS 9
abbrev st_sum_pair : Stmt := topS 10
abbrev st_frame : Stmt := topS 11
abbrev st_frame_at : Stmt := topS 12
abbrev st_frames : Stmt := topS 13
abbrev st_law_deal : Stmt := topS 15
abbrev st_law_any : Stmt := topS 16
abbrev st_law_of : Stmt := topS 17
abbrev st_law_same : Stmt := topS 18
abbrev st_law_counted : Stmt := topS 19
abbrev st_law_summed : Stmt := topS 20
abbrev st_law_flat : Stmt := topS 21
abbrev st_law_is_row : Stmt := topS 22
abbrev st_law_is_told : Stmt := topS 23
abbrev st_law_long : Stmt := topS 24
abbrev st_law_block_sum : Stmt := topS 25
abbrev st_law_whole : Stmt := topS 26
abbrev st_law_body : Stmt := topS 27
abbrev st_law_ahead : Stmt := topS 28
abbrev st_law_read : Stmt := topS 29
abbrev st_law_frames_hold : Stmt := topS 30
abbrev st_law_cuts_hold : Stmt := topS 31
abbrev st_law_spoilt : Stmt := topS 32
abbrev st_law_spoils_hold : Stmt := topS 33
abbrev st_law_any_hold : Stmt := topS 34
abbrev st_law_great_holds : Stmt := topS 35
abbrev st_law : Stmt := topS 36
def fn : List He.DefD := ([⟨("number_octets", none), "number_octets", "number_octets", defArgs st_number_octets, defBody st_number_octets, defScope st_number_octets, [], []⟩, ⟨("number_of", none), "number_of", "number_of", defArgs st_number_of, defBody st_number_of, defScope st_number_of, [], []⟩, ⟨("behind_number", none), "behind_number", "behind_number", defArgs st_behind_number, defBody st_behind_number, defScope st_behind_number, [], []⟩, ⟨("read_number", none), "read_number", "read_number", defArgs st_read_number, defBody st_read_number, defScope st_read_number, [], []⟩, ⟨("sum_of_octets", none), "sum_of_octets", "sum_of_octets", defArgs st_sum_of_octets, defBody st_sum_of_octets, defScope st_sum_of_octets, [], []⟩, ⟨("sum_pair", none), "sum_pair", "sum_pair", defArgs st_sum_pair, defBody st_sum_pair, defScope st_sum_pair, [], []⟩, ⟨("frame", none), "frame", "frame", defArgs st_frame, defBody st_frame, defScope st_frame, [], []⟩, ⟨("frame_at", none), "frame_at", "frame_at", defArgs st_frame_at, defBody st_frame_at, defScope st_frame_at, [], []⟩, ⟨("frames", none), "frames", "frames", defArgs st_frames, defBody st_frames, defScope st_frames, [], []⟩, ⟨("_law_deal", none), "_law_deal", "_law_deal", defArgs st_law_deal, defBody st_law_deal, defScope st_law_deal, [], []⟩] : List He.DefD) ++ ([⟨("_law_any", none), "_law_any", "_law_any", defArgs st_law_any, defBody st_law_any, defScope st_law_any, [], []⟩, ⟨("_law_of", none), "_law_of", "_law_of", defArgs st_law_of, defBody st_law_of, defScope st_law_of, [], []⟩, ⟨("_law_same", none), "_law_same", "_law_same", defArgs st_law_same, defBody st_law_same, defScope st_law_same, [], []⟩, ⟨("_law_counted", none), "_law_counted", "_law_counted", defArgs st_law_counted, defBody st_law_counted, defScope st_law_counted, [], []⟩, ⟨("_law_summed", none), "_law_summed", "_law_summed", defArgs st_law_summed, defBody st_law_summed, defScope st_law_summed, [], []⟩, ⟨("_law_flat", none), "_law_flat", "_law_flat", defArgs st_law_flat, defBody st_law_flat, defScope st_law_flat, [], []⟩, ⟨("_law_is_row", none), "_law_is_row", "_law_is_row", defArgs st_law_is_row, defBody st_law_is_row, defScope st_law_is_row, [], []⟩, ⟨("_law_is_told", none), "_law_is_told", "_law_is_told", defArgs st_law_is_told, defBody st_law_is_told, defScope st_law_is_told, [], []⟩, ⟨("_law_long", none), "_law_long", "_law_long", defArgs st_law_long, defBody st_law_long, defScope st_law_long, [], []⟩, ⟨("_law_block_sum", none), "_law_block_sum", "_law_block_sum", defArgs st_law_block_sum, defBody st_law_block_sum, defScope st_law_block_sum, [], []⟩] : List He.DefD) ++ ([⟨("_law_whole", none), "_law_whole", "_law_whole", defArgs st_law_whole, defBody st_law_whole, defScope st_law_whole, [], []⟩, ⟨("_law_body", none), "_law_body", "_law_body", defArgs st_law_body, defBody st_law_body, defScope st_law_body, [], []⟩, ⟨("_law_ahead", none), "_law_ahead", "_law_ahead", defArgs st_law_ahead, defBody st_law_ahead, defScope st_law_ahead, [], []⟩, ⟨("_law_read", none), "_law_read", "_law_read", defArgs st_law_read, defBody st_law_read, defScope st_law_read, [], []⟩, ⟨("_law_frames_hold", none), "_law_frames_hold", "_law_frames_hold", defArgs st_law_frames_hold, defBody st_law_frames_hold, defScope st_law_frames_hold, [], []⟩, ⟨("_law_cuts_hold", none), "_law_cuts_hold", "_law_cuts_hold", defArgs st_law_cuts_hold, defBody st_law_cuts_hold, defScope st_law_cuts_hold, [], []⟩, ⟨("_law_spoilt", none), "_law_spoilt", "_law_spoilt", defArgs st_law_spoilt, defBody st_law_spoilt, defScope st_law_spoilt, [], []⟩, ⟨("_law_spoils_hold", none), "_law_spoils_hold", "_law_spoils_hold", defArgs st_law_spoils_hold, defBody st_law_spoils_hold, defScope st_law_spoils_hold, [], []⟩, ⟨("_law_any_hold", none), "_law_any_hold", "_law_any_hold", defArgs st_law_any_hold, defBody st_law_any_hold, defScope st_law_any_hold, [], []⟩, ⟨("_law_great_holds", none), "_law_great_holds", "_law_great_holds", defArgs st_law_great_holds, defBody st_law_great_holds, defScope st_law_great_holds, [], []⟩] : List He.DefD) ++ ([⟨("law", none), "law", "law", defArgs st_law, defBody st_law, defScope st_law, [], []⟩] : List He.DefD)
def fa : List He.Fa := ([.glo "number_octets", .glo "number_of", .glo "behind_number", .glo "read_number", .glo "sum_of_octets", .glo "sum_pair", .glo "frame", .glo "frame_at", .glo "frames", .glo "_law_deal"] : List He.Fa) ++ ([.glo "_law_any", .glo "_law_of", .glo "_law_same", .glo "_law_counted", .glo "_law_summed", .glo "_law_flat", .glo "_law_is_row", .glo "_law_is_told", .glo "_law_long", .glo "_law_block_sum"] : List He.Fa) ++ ([.glo "_law_whole", .glo "_law_body", .glo "_law_ahead", .glo "_law_read", .glo "_law_frames_hold", .glo "_law_cuts_hold", .glo "_law_spoilt", .glo "_law_spoils_hold", .glo "_law_any_hold", .glo "_law_great_holds"] : List He.Fa) ++ ([.glo "law", .free "tuple", .free "range", .free "isinstance", .free "bool", .free "int", .free "list", .free "len", .free "abs", .free "str"] : List He.Fa) ++ ([.free "sum", .free "max", .free "ord", .free "min", .int "BASE" 128, .int "OCTET" 256, .int "PRIME" 65521, .int "SUM_OCTETS" 2] : List He.Fa)
def loose : List PySem.Str := (["BASE", "OCTET", "PRIME", "SUM_OCTETS", "number_octets", "number_of", "behind_number", "read_number", "sum_of_octets", "sum_pair"] : List PySem.Str) ++ (["frame", "frame_at", "frames", "_law_deal", "_law_any", "_law_of", "_law_same", "_law_counted", "_law_summed", "_law_flat"] : List PySem.Str) ++ (["_law_is_row", "_law_is_told", "_law_long", "_law_block_sum", "_law_whole", "_law_body", "_law_ahead", "_law_read", "_law_frames_hold", "_law_cuts_hold"] : List PySem.Str) ++ (["_law_spoilt", "_law_spoils_hold", "_law_any_hold", "_law_great_holds"] : List PySem.Str)
def lawAt : Nat := 36
abbrev R : PySem.W.OpenRow := PySem.W.OpenLaw.row PySem.Challenge.rw_ownmirrors_k84_whole_rows_of_frames_cut
abbrev hk : PySem.W.Hook := He.hookD 4 fa fn
def ob (s : PySem.W.SharedT) : He.AlD := He.obsDG 4 fa fn (HandSHeadRun.getT s)
theorem ob_eq (s : PySem.W.SharedT) : ob s = hk.obs s.abs := He.obsDG_eq (HandSHeadRun.getT_eq s)
theorem run (w : World) : HandSHeadRun.RunEq R (PySem.W.view R.prog [lawAt]) hk ob 3000 loose w := by
  intro os
  kernel_rfl
end K84

set_option Elab.async false
set_option linter.all false
set_option maxRecDepth 100000
set_option maxHeartbeats 1000000
namespace K84
open PySem PySem.Spec PyProof.Rows L2 Dv
structure Top (K : PySem.W.Frag) (mg : Str → Option Value) : Prop where
  m_tuple : mg "tuple" = none
  m_range : mg "range" = none
  m_isinstance : mg "isinstance" = none
  m_bool : mg "bool" = none
  m_int : mg "int" = none
  m_list : mg "list" = none
  m_len : mg "len" = none
  m_abs : mg "abs" = none
  m_str : mg "str" = none
  m_sum : mg "sum" = none
  m_max : mg "max" = none
  m_ord : mg "ord" = none
  m_min : mg "min" = none
  c_BASE : ∃ t, mg "BASE" = some (.int 128 t)
  c_OCTET : ∃ t, mg "OCTET" = some (.int 256 t)
  c_PRIME : ∃ t, mg "PRIME" = some (.int 65521 t)
  c_SUM_OCTETS : ∃ t, mg "SUM_OCTETS" = some (.int 2 t)
  d_number_octets : ∃ fd, FnP K "number_octets" st_number_octets (He.ga K "number_octets") fd
  g_number_octets : mg "number_octets" = some (.ref (He.ga K "number_octets"))
  d_number_of : ∃ fd, FnP K "number_of" st_number_of (He.ga K "number_of") fd
  g_number_of : mg "number_of" = some (.ref (He.ga K "number_of"))
  d_behind_number : ∃ fd, FnP K "behind_number" st_behind_number (He.ga K "behind_number") fd
  g_behind_number : mg "behind_number" = some (.ref (He.ga K "behind_number"))
  d_read_number : ∃ fd, FnP K "read_number" st_read_number (He.ga K "read_number") fd
  g_read_number : mg "read_number" = some (.ref (He.ga K "read_number"))
  d_sum_of_octets : ∃ fd, FnP K "sum_of_octets" st_sum_of_octets (He.ga K "sum_of_octets") fd
  g_sum_of_octets : mg "sum_of_octets" = some (.ref (He.ga K "sum_of_octets"))
  d_sum_pair : ∃ fd, FnP K "sum_pair" st_sum_pair (He.ga K "sum_pair") fd
  g_sum_pair : mg "sum_pair" = some (.ref (He.ga K "sum_pair"))
  d_frame : ∃ fd, FnP K "frame" st_frame (He.ga K "frame") fd
  g_frame : mg "frame" = some (.ref (He.ga K "frame"))
  d_frame_at : ∃ fd, FnP K "frame_at" st_frame_at (He.ga K "frame_at") fd
  g_frame_at : mg "frame_at" = some (.ref (He.ga K "frame_at"))
  d_frames : ∃ fd, FnP K "frames" st_frames (He.ga K "frames") fd
  g_frames : mg "frames" = some (.ref (He.ga K "frames"))
  d_law_deal : ∃ fd, FnP K "_law_deal" st_law_deal (He.ga K "_law_deal") fd
  g_law_deal : mg "_law_deal" = some (.ref (He.ga K "_law_deal"))
  d_law_any : ∃ fd, FnP K "_law_any" st_law_any (He.ga K "_law_any") fd
  g_law_any : mg "_law_any" = some (.ref (He.ga K "_law_any"))
  d_law_of : ∃ fd, FnP K "_law_of" st_law_of (He.ga K "_law_of") fd
  g_law_of : mg "_law_of" = some (.ref (He.ga K "_law_of"))
  d_law_same : ∃ fd, FnP K "_law_same" st_law_same (He.ga K "_law_same") fd
  g_law_same : mg "_law_same" = some (.ref (He.ga K "_law_same"))
  d_law_counted : ∃ fd, FnP K "_law_counted" st_law_counted (He.ga K "_law_counted") fd
  g_law_counted : mg "_law_counted" = some (.ref (He.ga K "_law_counted"))
  d_law_summed : ∃ fd, FnP K "_law_summed" st_law_summed (He.ga K "_law_summed") fd
  g_law_summed : mg "_law_summed" = some (.ref (He.ga K "_law_summed"))
  d_law_flat : ∃ fd, FnP K "_law_flat" st_law_flat (He.ga K "_law_flat") fd
  g_law_flat : mg "_law_flat" = some (.ref (He.ga K "_law_flat"))
  d_law_is_row : ∃ fd, FnP K "_law_is_row" st_law_is_row (He.ga K "_law_is_row") fd
  g_law_is_row : mg "_law_is_row" = some (.ref (He.ga K "_law_is_row"))
  d_law_is_told : ∃ fd, FnP K "_law_is_told" st_law_is_told (He.ga K "_law_is_told") fd
  g_law_is_told : mg "_law_is_told" = some (.ref (He.ga K "_law_is_told"))
  d_law_long : ∃ fd, FnP K "_law_long" st_law_long (He.ga K "_law_long") fd
  g_law_long : mg "_law_long" = some (.ref (He.ga K "_law_long"))
  d_law_block_sum : ∃ fd, FnP K "_law_block_sum" st_law_block_sum (He.ga K "_law_block_sum") fd
  g_law_block_sum : mg "_law_block_sum" = some (.ref (He.ga K "_law_block_sum"))
  d_law_whole : ∃ fd, FnP K "_law_whole" st_law_whole (He.ga K "_law_whole") fd
  g_law_whole : mg "_law_whole" = some (.ref (He.ga K "_law_whole"))
  d_law_body : ∃ fd, FnP K "_law_body" st_law_body (He.ga K "_law_body") fd
  g_law_body : mg "_law_body" = some (.ref (He.ga K "_law_body"))
  d_law_ahead : ∃ fd, FnP K "_law_ahead" st_law_ahead (He.ga K "_law_ahead") fd
  g_law_ahead : mg "_law_ahead" = some (.ref (He.ga K "_law_ahead"))
  d_law_read : ∃ fd, FnP K "_law_read" st_law_read (He.ga K "_law_read") fd
  g_law_read : mg "_law_read" = some (.ref (He.ga K "_law_read"))
  d_law_frames_hold : ∃ fd, FnP K "_law_frames_hold" st_law_frames_hold (He.ga K "_law_frames_hold") fd
  g_law_frames_hold : mg "_law_frames_hold" = some (.ref (He.ga K "_law_frames_hold"))
  d_law_cuts_hold : ∃ fd, FnP K "_law_cuts_hold" st_law_cuts_hold (He.ga K "_law_cuts_hold") fd
  g_law_cuts_hold : mg "_law_cuts_hold" = some (.ref (He.ga K "_law_cuts_hold"))
  d_law_spoilt : ∃ fd, FnP K "_law_spoilt" st_law_spoilt (He.ga K "_law_spoilt") fd
  g_law_spoilt : mg "_law_spoilt" = some (.ref (He.ga K "_law_spoilt"))
  d_law_spoils_hold : ∃ fd, FnP K "_law_spoils_hold" st_law_spoils_hold (He.ga K "_law_spoils_hold") fd
  g_law_spoils_hold : mg "_law_spoils_hold" = some (.ref (He.ga K "_law_spoils_hold"))
  d_law_any_hold : ∃ fd, FnP K "_law_any_hold" st_law_any_hold (He.ga K "_law_any_hold") fd
  g_law_any_hold : mg "_law_any_hold" = some (.ref (He.ga K "_law_any_hold"))
  d_law_great_holds : ∃ fd, FnP K "_law_great_holds" st_law_great_holds (He.ga K "_law_great_holds") fd
  g_law_great_holds : mg "_law_great_holds" = some (.ref (He.ga K "_law_great_holds"))
  d_law : ∃ fd, FnP K "law" st_law (He.ga K "law") fd
  g_law : mg "law" = some (.ref (He.ga K "law"))
theorem sc_number_octets : FnScope ["number", "found", "rest"] ["number"] (defScope st_number_octets) := ⟨rfl, rfl, rfl, by decide +kernel, rfl, by decide +kernel, by decide +kernel⟩
theorem bd_number_octets {K : PySem.W.Frag} {f : Addr} (fd : FuncData) (F : FnP K "number_octets" st_number_octets f fd) : Binds K fd ["number"] [] := FunD.bindsN F fun _ _ _ _ _ _ us hl => match us, hl with | [_], _ => rfl
theorem sc_number_of : FnScope ["figures", "row", "base", "pairs", "at"] ["figures"] (defScope st_number_of) := ⟨rfl, rfl, rfl, by decide +kernel, rfl, by decide +kernel, by decide +kernel⟩
theorem bd_number_of {K : PySem.W.Frag} {f : Addr} (fd : FuncData) (F : FnP K "number_of" st_number_of f fd) : Binds K fd ["figures"] [] := FunD.bindsN F fun _ _ _ _ _ _ us hl => match us, hl with | [_], _ => rfl
theorem sc_behind_number : FnScope ["octets", "at", "place"] ["octets", "at"] (defScope st_behind_number) := ⟨rfl, rfl, rfl, by decide +kernel, rfl, by decide +kernel, by decide +kernel⟩
theorem bd_behind_number {K : PySem.W.Frag} {f : Addr} (fd : FuncData) (F : FnP K "behind_number" st_behind_number f fd) : Binds K fd ["octets", "at"] [] := FunD.bindsN F fun _ _ _ _ _ _ us hl => match us, hl with | [_, _], _ => rfl
theorem sc_read_number : FnScope ["octets", "at", "end", "figures", "octet"] ["octets", "at"] (defScope st_read_number) := ⟨rfl, rfl, rfl, by decide +kernel, rfl, by decide +kernel, by decide +kernel⟩
theorem bd_read_number {K : PySem.W.Frag} {f : Addr} (fd : FuncData) (F : FnP K "read_number" st_read_number f fd) : Binds K fd ["octets", "at"] [] := FunD.bindsN F fun _ _ _ _ _ _ us hl => match us, hl with | [_, _], _ => rfl
theorem sc_sum_of_octets : FnScope ["octets", "found", "at"] ["octets"] (defScope st_sum_of_octets) := ⟨rfl, rfl, rfl, by decide +kernel, rfl, by decide +kernel, by decide +kernel⟩
theorem bd_sum_of_octets {K : PySem.W.Frag} {f : Addr} (fd : FuncData) (F : FnP K "sum_of_octets" st_sum_of_octets f fd) : Binds K fd ["octets"] [] := FunD.bindsN F fun _ _ _ _ _ _ us hl => match us, hl with | [_], _ => rfl
theorem sc_sum_pair : FnScope ["body", "found"] ["body"] (defScope st_sum_pair) := ⟨rfl, rfl, rfl, by decide +kernel, rfl, by decide +kernel, by decide +kernel⟩
theorem bd_sum_pair {K : PySem.W.Frag} {f : Addr} (fd : FuncData) (F : FnP K "sum_pair" st_sum_pair f fd) : Binds K fd ["body"] [] := FunD.bindsN F fun _ _ _ _ _ _ us hl => match us, hl with | [_], _ => rfl
theorem sc_frame : FnScope ["body"] ["body"] (defScope st_frame) := ⟨rfl, rfl, rfl, by decide +kernel, rfl, by decide +kernel, by decide +kernel⟩
theorem bd_frame {K : PySem.W.Frag} {f : Addr} (fd : FuncData) (F : FnP K "frame" st_frame f fd) : Binds K fd ["body"] [] := FunD.bindsN F fun _ _ _ _ _ _ us hl => match us, hl with | [_], _ => rfl
theorem sc_frame_at : FnScope ["octets", "at", "told", "end", "body"] ["octets", "at"] (defScope st_frame_at) := ⟨rfl, rfl, rfl, by decide +kernel, rfl, by decide +kernel, by decide +kernel⟩
theorem bd_frame_at {K : PySem.W.Frag} {f : Addr} (fd : FuncData) (F : FnP K "frame_at" st_frame_at f fd) : Binds K fd ["octets", "at"] [] := FunD.bindsN F fun _ _ _ _ _ _ us hl => match us, hl with | [_, _], _ => rfl
theorem sc_frames : FnScope ["octets", "bodies", "place", "told"] ["octets"] (defScope st_frames) := ⟨rfl, rfl, rfl, by decide +kernel, rfl, by decide +kernel, by decide +kernel⟩
theorem bd_frames {K : PySem.W.Frag} {f : Addr} (fd : FuncData) (F : FnP K "frames" st_frames f fd) : Binds K fd ["octets"] [] := FunD.bindsN F fun _ _ _ _ _ _ us hl => match us, hl with | [_], _ => rfl
theorem sc_law_deal : FnScope ["script", "salt", "cells", "mix", "cell"] ["script", "salt"] (defScope st_law_deal) := ⟨rfl, rfl, rfl, by decide +kernel, rfl, by decide +kernel, by decide +kernel⟩
theorem bd_law_deal {K : PySem.W.Frag} {f : Addr} (fd : FuncData) (F : FnP K "_law_deal" st_law_deal f fd) : Binds K fd ["script", "salt"] [] := FunD.bindsN F fun _ _ _ _ _ _ us hl => match us, hl with | [_, _], _ => rfl
theorem sc_law_any : FnScope ["deal", "bound", "rest"] ["deal", "bound"] (defScope st_law_any) := ⟨rfl, rfl, rfl, by decide +kernel, rfl, by decide +kernel, by decide +kernel⟩
theorem bd_law_any {K : PySem.W.Frag} {f : Addr} (fd : FuncData) (F : FnP K "_law_any" st_law_any f fd) : Binds K fd ["deal", "bound"] [] := FunD.bindsN F fun _ _ _ _ _ _ us hl => match us, hl with | [_, _], _ => rfl
theorem sc_law_of : FnScope ["deal", "some"] ["deal", "some"] (defScope st_law_of) := ⟨rfl, rfl, rfl, by decide +kernel, rfl, by decide +kernel, by decide +kernel⟩
theorem bd_law_of {K : PySem.W.Frag} {f : Addr} (fd : FuncData) (F : FnP K "_law_of" st_law_of f fd) : Binds K fd ["deal", "some"] [] := FunD.bindsN F fun _ _ _ _ _ _ us hl => match us, hl with | [_, _], _ => rfl
theorem sc_law_same : FnScope ["told", "due", "at"] ["told", "due"] (defScope st_law_same) := ⟨rfl, rfl, rfl, by decide +kernel, rfl, by decide +kernel, by decide +kernel⟩
theorem bd_law_same {K : PySem.W.Frag} {f : Addr} (fd : FuncData) (F : FnP K "_law_same" st_law_same f fd) : Binds K fd ["told", "due"] [] := FunD.bindsN F fun _ _ _ _ _ _ us hl => match us, hl with | [_, _], _ => rfl
theorem sc_law_counted : FnScope ["many"] ["many"] (defScope st_law_counted) := ⟨rfl, rfl, rfl, by decide +kernel, rfl, by decide +kernel, by decide +kernel⟩
theorem bd_law_counted {K : PySem.W.Frag} {f : Addr} (fd : FuncData) (F : FnP K "_law_counted" st_law_counted f fd) : Binds K fd ["many"] [] := FunD.bindsN F fun _ _ _ _ _ _ us hl => match us, hl with | [_], _ => rfl
theorem sc_law_summed : FnScope ["body", "total", "place"] ["body"] (defScope st_law_summed) := ⟨rfl, rfl, rfl, by decide +kernel, rfl, by decide +kernel, by decide +kernel⟩
theorem bd_law_summed {K : PySem.W.Frag} {f : Addr} (fd : FuncData) (F : FnP K "_law_summed" st_law_summed f fd) : Binds K fd ["body"] [] := FunD.bindsN F fun _ _ _ _ _ _ us hl => match us, hl with | [_], _ => rfl
theorem sc_law_flat : FnScope ["rows", "found", "row"] ["rows"] (defScope st_law_flat) := ⟨rfl, rfl, rfl, by decide +kernel, rfl, by decide +kernel, by decide +kernel⟩
theorem bd_law_flat {K : PySem.W.Frag} {f : Addr} (fd : FuncData) (F : FnP K "_law_flat" st_law_flat f fd) : Binds K fd ["rows"] [] := FunD.bindsN F fun _ _ _ _ _ _ us hl => match us, hl with | [_], _ => rfl
theorem sc_law_is_row : FnScope ["told", "due", "one"] ["told", "due"] (defScope st_law_is_row) := ⟨rfl, rfl, rfl, by decide +kernel, rfl, by decide +kernel, by decide +kernel⟩
theorem bd_law_is_row {K : PySem.W.Frag} {f : Addr} (fd : FuncData) (F : FnP K "_law_is_row" st_law_is_row f fd) : Binds K fd ["told", "due"] [] := FunD.bindsN F fun _ _ _ _ _ _ us hl => match us, hl with | [_, _], _ => rfl
theorem sc_law_is_told : FnScope ["told", "bodies", "behind", "k"] ["told", "bodies", "behind"] (defScope st_law_is_told) := ⟨rfl, rfl, rfl, by decide +kernel, rfl, by decide +kernel, by decide +kernel⟩
theorem bd_law_is_told {K : PySem.W.Frag} {f : Addr} (fd : FuncData) (F : FnP K "_law_is_told" st_law_is_told f fd) : Binds K fd ["told", "bodies", "behind"] [] := FunD.bindsN F fun _ _ _ _ _ _ us hl => match us, hl with | [_, _, _], _ => rfl
theorem sc_law_long : FnScope ["many"] ["many"] (defScope st_law_long) := ⟨rfl, rfl, rfl, by decide +kernel, rfl, by decide +kernel, by decide +kernel⟩
theorem bd_law_long {K : PySem.W.Frag} {f : Addr} (fd : FuncData) (F : FnP K "_law_long" st_law_long f fd) : Binds K fd ["many"] [] := FunD.bindsN F fun _ _ _ _ _ _ us hl => match us, hl with | [_], _ => rfl
theorem sc_law_block_sum : FnScope ["block", "many", "size", "placed", "place"] ["block", "many"] (defScope st_law_block_sum) := ⟨rfl, rfl, rfl, by decide +kernel, rfl, by decide +kernel, by decide +kernel⟩
theorem bd_law_block_sum {K : PySem.W.Frag} {f : Addr} (fd : FuncData) (F : FnP K "_law_block_sum" st_law_block_sum f fd) : Binds K fd ["block", "many"] [] := FunD.bindsN F fun _ _ _ _ _ _ us hl => match us, hl with | [_, _], _ => rfl
theorem sc_law_whole : FnScope ["body", "total"] ["body", "total"] (defScope st_law_whole) := ⟨rfl, rfl, rfl, by decide +kernel, rfl, by decide +kernel, by decide +kernel⟩
theorem bd_law_whole {K : PySem.W.Frag} {f : Addr} (fd : FuncData) (F : FnP K "_law_whole" st_law_whole f fd) : Binds K fd ["body", "total"] [] := FunD.bindsN F fun _ _ _ _ _ _ us hl => match us, hl with | [_, _], _ => rfl
theorem sc_law_body : FnScope ["deal", "great", "many", "line", "block", "times", "sign", "k"] ["deal", "great"] (defScope st_law_body) := ⟨rfl, rfl, rfl, by decide +kernel, rfl, by decide +kernel, by decide +kernel⟩
theorem bd_law_body {K : PySem.W.Frag} {f : Addr} (fd : FuncData) (F : FnP K "_law_body" st_law_body f fd) : Binds K fd ["deal", "great"] [] := FunD.bindsN F fun _ _ _ _ _ _ us hl => match us, hl with | [_, _], _ => rfl
theorem sc_law_ahead : FnScope ["found", "cut", "place", "k"] ["found", "cut"] (defScope st_law_ahead) := ⟨rfl, rfl, rfl, by decide +kernel, rfl, by decide +kernel, by decide +kernel⟩
theorem bd_law_ahead {K : PySem.W.Frag} {f : Addr} (fd : FuncData) (F : FnP K "_law_ahead" st_law_ahead f fd) : Binds K fd ["found", "cut"] [] := FunD.bindsN F fun _ _ _ _ _ _ us hl => match us, hl with | [_, _], _ => rfl
theorem sc_law_read : FnScope ["row", "bodies", "place", "k", "end", "step", "length", "body"] ["row"] (defScope st_law_read) := ⟨rfl, rfl, rfl, by decide +kernel, rfl, by decide +kernel, by decide +kernel⟩
theorem bd_law_read {K : PySem.W.Frag} {f : Addr} (fd : FuncData) (F : FnP K "_law_read" st_law_read f fd) : Binds K fd ["row"] [] := FunD.bindsN F fun _ _ _ _ _ _ us hl => match us, hl with | [_], _ => rfl
theorem sc_law_frames_hold : FnScope ["found", "body", "due", "row", "pair"] ["found"] (defScope st_law_frames_hold) := ⟨rfl, rfl, rfl, by decide +kernel, rfl, by decide +kernel, by decide +kernel⟩
theorem bd_law_frames_hold {K : PySem.W.Frag} {f : Addr} (fd : FuncData) (F : FnP K "_law_frames_hold" st_law_frames_hold f fd) : Binds K fd ["found"] [] := FunD.bindsN F fun _ _ _ _ _ _ us hl => match us, hl with | [_], _ => rfl
theorem sc_law_cuts_hold : FnScope ["deal", "found", "row", "bounds", "place", "body", "due", "cuts", "cut", "many", "behind", "pair", "k"] ["deal", "found"] (defScope st_law_cuts_hold) := ⟨rfl, rfl, rfl, by decide +kernel, rfl, by decide +kernel, by decide +kernel⟩
theorem bd_law_cuts_hold {K : PySem.W.Frag} {f : Addr} (fd : FuncData) (F : FnP K "_law_cuts_hold" st_law_cuts_hold f fd) : Binds K fd ["deal", "found"] [] := FunD.bindsN F fun _ _ _ _ _ _ us hl => match us, hl with | [_, _], _ => rfl
theorem sc_law_spoilt : FnScope ["deal", "pair", "body", "due", "head", "kind", "spoilt", "one", "other", "place", "octet"] ["deal", "pair"] (defScope st_law_spoilt) := ⟨rfl, rfl, rfl, by decide +kernel, rfl, by decide +kernel, by decide +kernel⟩
theorem bd_law_spoilt {K : PySem.W.Frag} {f : Addr} (fd : FuncData) (F : FnP K "_law_spoilt" st_law_spoilt f fd) : Binds K fd ["deal", "pair"] [] := FunD.bindsN F fun _ _ _ _ _ _ us hl => match us, hl with | [_, _], _ => rfl
theorem sc_law_spoils_hold : FnScope ["deal", "found", "many", "other", "ahead", "row", "turned", "pair"] ["deal", "found"] (defScope st_law_spoils_hold) := ⟨rfl, rfl, rfl, by decide +kernel, rfl, by decide +kernel, by decide +kernel⟩
theorem bd_law_spoils_hold {K : PySem.W.Frag} {f : Addr} (fd : FuncData) (F : FnP K "_law_spoils_hold" st_law_spoils_hold f fd) : Binds K fd ["deal", "found"] [] := FunD.bindsN F fun _ _ _ _ _ _ us hl => match us, hl with | [_, _], _ => rfl
theorem sc_law_any_hold : FnScope ["deal", "found", "row", "k", "kind", "place", "bodies", "behind", "pair"] ["deal", "found"] (defScope st_law_any_hold) := ⟨rfl, rfl, rfl, by decide +kernel, rfl, by decide +kernel, by decide +kernel⟩
theorem bd_law_any_hold {K : PySem.W.Frag} {f : Addr} (fd : FuncData) (F : FnP K "_law_any_hold" st_law_any_hold f fd) : Binds K fd ["deal", "found"] [] := FunD.bindsN F fun _ _ _ _ _ _ us hl => match us, hl with | [_, _], _ => rfl
theorem sc_law_great_holds : FnScope ["deal", "kind", "size", "block", "due", "many", "told", "k", "place"] ["deal"] (defScope st_law_great_holds) := ⟨rfl, rfl, rfl, by decide +kernel, rfl, by decide +kernel, by decide +kernel⟩
theorem bd_law_great_holds {K : PySem.W.Frag} {f : Addr} (fd : FuncData) (F : FnP K "_law_great_holds" st_law_great_holds f fd) : Binds K fd ["deal"] [] := FunD.bindsN F fun _ _ _ _ _ _ us hl => match us, hl with | [_], _ => rfl
theorem sc_law : FnScope ["script", "deal", "k", "found", "at"] ["script"] (defScope st_law) := ⟨rfl, rfl, rfl, by decide +kernel, rfl, by decide +kernel, by decide +kernel⟩
theorem bd_law {K : PySem.W.Frag} {f : Addr} (fd : FuncData) (F : FnP K "law" st_law f fd) : Binds K fd ["script"] [] := FunD.bindsN F fun _ _ _ _ _ _ us hl => match us, hl with | [_], _ => rfl
end K84

set_option Elab.async false
set_option linter.all false
set_option maxRecDepth 100000
set_option maxHeartbeats 1000000
namespace K84
/-! what the defs reckon, over rows of ints -/
def numOct (n : Nat) : List Int := if h : n < 128 then [(n : Int)] else (128 + (n : Int) % 128) :: numOct (n / 128)
termination_by n
decreasing_by omega
def valB (b : Int) : List Int → Int
  | [] => 0
  | d :: ds => d + b * valB b ds
abbrev valLE (ds : List Int) : Int := valB 128 ds
def behind (ns : List Int) (a : Nat) : Option Nat := ((ns.drop a).findIdx? fun n => decide (n < 128)).map fun i => a + i + 1
def figs (ns : List Int) (a e : Nat) : List Int := ((ns.drop a).take (e - 1 - a)).map (fun n => n - 128) ++ [ns.getD (e - 1) 0]
def readNum (ns : List Int) (a : Nat) : Option (Int × Nat) := match behind ns a with
  | none => none
  | some e => if e - a > 1 ∧ ns.getD (e - 1) 0 = 0 then none else some (valLE (figs ns a e), e)
def part (ns : List Int) (i : Nat) : Int := ((List.range i).map fun i : Nat => ((i : Int) + 1) * ns.getD i 0).sum
def placed (ns : List Int) : Int := part ns ns.length
def octSum (ns : List Int) : Int := placed ns % 65521
def sumPair (ns : List Int) : List Int := [octSum ns % 256, octSum ns / 256]
def frameAt (ns : List Int) (a : Nat) : Option (List Int × Nat) := match readNum ns a with
  | none => none
  | some (v, e) => if v + 2 > (ns.length : Int) - e then none else
      if (ns.drop (e + v.toNat)).take 2 = sumPair ((ns.drop e).take v.toNat) then some ((ns.drop e).take v.toNat, e + v.toNat + 2) else none
/-- octets -/
def Oct (ns : List Int) : Prop := ∀ n ∈ ns, 0 ≤ n ∧ n < 256
theorem part_succ (ns : List Int) (i : Nat) : part ns (i + 1) = part ns i + ((i : Int) + 1) * ns.getD i 0 := by
  unfold part
  rw [List.range_succ, List.map_append, List.sum_append]
  simp
/-- the pairs of neighbours put together -/
def pairUp (b : Int) : List Int → List Int
  | x :: y :: r => (x + b * y) :: pairUp b r
  | [x] => [x]
  | [] => []
theorem valB_pairUp (b : Int) : ∀ ds : List Int, valB (b * b) (pairUp b ds) = valB b ds
  | [] => rfl
  | [x] => by simp [pairUp, valB]
  | x :: y :: r => by
    show (x + b * y) + b * b * valB (b * b) (pairUp b r) = x + b * (y + b * valB b r)
    rw [valB_pairUp b r, Int.mul_add, Int.mul_assoc]
    omega
theorem pairUp_len (b : Int) : ∀ ds : List Int, (pairUp b ds).length = (ds.length + 1) / 2
  | [] => rfl
  | [x] => by simp [pairUp]
  | x :: y :: r => by
    show (pairUp b r).length + 1 = (r.length + 1 + 1 + 1) / 2
    rw [pairUp_len b r]; omega
theorem pairUp_bound {b : Int} (hb : 0 < b) : ∀ ds : List Int, (∀ d ∈ ds, 0 ≤ d ∧ d < b) → ∀ d ∈ pairUp b ds, 0 ≤ d ∧ d < b * b
  | [], _, d, h => by cases h
  | [x], hd, d, h => by
    obtain rfl : d = x := by simpa [pairUp] using h
    have := hd d (by simp)
    refine ⟨this.1, Int.lt_of_lt_of_le this.2 ?_⟩
    have : b * 1 ≤ b * b := Int.mul_le_mul_of_nonneg_left (by omega) (by omega)
    omega
  | x :: y :: r, hd, d, h => by
    rcases List.mem_cons.mp (show d ∈ (x + b * y) :: pairUp b r from h) with e | h
    · subst e
      have hx := hd x (by simp)
      have hy := hd y (by simp)
      refine ⟨Int.add_nonneg hx.1 (Int.mul_nonneg (by omega) hy.1), ?_⟩
      have h1 : b * y ≤ b * (b - 1) := Int.mul_le_mul_of_nonneg_left (by omega) (by omega)
      have h2 : b * (b - 1) = b * b - b := by rw [Int.mul_sub, Int.mul_one]
      omega
    · exact pairUp_bound hb r (fun z hz => hd z (by simp [hz])) d h
theorem pairUp_get (b : Int) : ∀ (ds : List Int) (i : Nat), 2 * i + 1 < ds.length → (pairUp b ds)[i]? = some (ds.getD (2 * i) 0 + b * ds.getD (2 * i + 1) 0)
  | x :: y :: r, 0, h => by simp [pairUp]
  | x :: y :: r, i + 1, h => by
    show (pairUp b r)[i]? = _
    rw [pairUp_get b r i (by simp at h; omega)]
    rw [show 2 * (i + 1) = 2 * i + 1 + 1 by omega, show 2 * i + 1 + 1 + 1 = (2 * i + 1) + 1 + 1 by omega]
    simp
  | [x], i, h => by simp at h
  | [], i, h => by simp at h
theorem pairUp_even (b : Int) : ∀ (ds : List Int), ds.length % 2 = 0 → pairUp b ds = (List.range (ds.length / 2)).map fun i => ds.getD (2 * i) 0 + b * ds.getD (2 * i + 1) 0 := fun ds h => by
  refine List.ext_getElem? fun i => ?_
  by_cases hi : i < ds.length / 2
  · rw [pairUp_get b ds i (by omega), List.getElem?_map, List.getElem?_range hi]; rfl
  · rw [List.getElem?_eq_none (by rw [pairUp_len]; omega), List.getElem?_eq_none (by rw [List.length_map, List.length_range]; omega)]
theorem pairUp_last (b : Int) : ∀ (ds : List Int) (x : Int), ds.length % 2 = 0 → pairUp b (ds ++ [x]) = pairUp b ds ++ [x]
  | [], x, _ => rfl
  | [y], x, h => by simp at h
  | y :: z :: r, x, h => by
    show (y + b * z) :: pairUp b (r ++ [x]) = ((y + b * z) :: pairUp b r) ++ [x]
    rw [pairUp_last b r x (by simp at h; omega)]; rfl
theorem pairUp_odd (b : Int) (ds : List Int) (h : ds.length % 2 = 1) : pairUp b ds = ((List.range (ds.length / 2)).map fun i => ds.getD (2 * i) 0 + b * ds.getD (2 * i + 1) 0) ++ [ds.getD (ds.length - 1) 0] := by
  have hne : ds ≠ [] := fun z => by subst z; simp at h
  have e : ds = ds.dropLast ++ [ds.getLast hne] := (List.dropLast_concat_getLast hne).symm
  have hl : ds.dropLast.length = ds.length - 1 := List.length_dropLast
  rw [e, pairUp_last b _ _ (by rw [hl]; omega), pairUp_even b _ (by rw [hl]; omega), ← e]
  congr 1
  · refine List.ext_getElem? fun i => ?_
    rw [List.getElem?_map, List.getElem?_map, hl]
    by_cases hi : i < ds.length / 2
    · rw [List.getElem?_range (by omega), List.getElem?_range hi]
      show some _ = some _
      have g : ∀ j, j < ds.length - 1 → ds.dropLast.getD j 0 = ds.getD j 0 := fun j hj => by
        rw [List.getD_eq_getElem?_getD, List.getD_eq_getElem?_getD, List.getElem?_dropLast, if_pos hj]
      have g1 := g (2 * i) (by omega)
      have g2 := g (2 * i + 1) (by omega)
      show some (ds.dropLast.getD (2 * i) 0 + b * ds.dropLast.getD (2 * i + 1) 0) = some (ds.getD (2 * i) 0 + b * ds.getD (2 * i + 1) 0)
      rw [g1, g2]
    · rw [List.getElem?_eq_none (by rw [List.length_range]; omega), List.getElem?_eq_none (by rw [List.length_range]; omega)]; rfl
  · rw [List.getD_eq_getElem?_getD, List.getLast_eq_getElem, List.getElem?_eq_getElem (by have := List.length_pos_iff.mpr hne; omega)]; rfl
end K84

set_option Elab.async false
set_option linter.all false
set_option maxRecDepth 100000
set_option maxHeartbeats 1000000
namespace K84
open PySem PySem.Spec PyProof.Rows L2 Dv
section
variable {P : Program} {w : World} {K : PySem.W.Frag} {mg : Str → Option Value} {base : Heap} {f : Addr} {fd : FuncData}
/-! ### number_octets -/
def a_number_octets : Do := fun _ ds k => ∃ n : Nat, ds = [.int n] ∧ n < 900000 ∧ k (tpI (numOct n))
theorem ok_number_octets (T : Top K mg) (P : Program) (w : World) (base : Heap) (fd : FuncData) (F : FnP K "number_octets" st_number_octets f fd) : FnOk P w K mg base CX0 1 f fd ["number"] (spD K a_number_octets) := by
  refine fn_D (lv := 0) F sc_number_octets (fun r ds k h => by obtain ⟨n, rfl, _⟩ := h; rfl) fun cdv A' outer s H E hr r ds k h => ?_
  obtain ⟨n, rfl, hn, hk⟩ := h
  show Bk _ r _ [.val _, .no, .no] _
  refine b_cons (ds_new 1 (n_lst da_nil) ?_)
  show Bk _ r _ [.val _, .own _, .no] _
  refine b_cons (ds_set 2 (d_var 0) ?_)
  show Bk _ r _ [.val _, .own _, .val _] _
  refine b_cons (s_while (fun m Γ => ∃ (f : List Int) (q : Nat), m = q ∧ numOct n = f ++ numOct q ∧ f.length + q ≤ 3000000 ∧ Γ = [.val (.int n), .own (f.map D.int), .val (.int q)]) (m0 := n) ⟨[], n, rfl, rfl, by simp; omega, rfl⟩ ?_)
  rintro m _ ⟨f, q, rfl, e, hb, rfl⟩
  refine ⟨_, dt_ge (d_var 2) (d_globI T.c_BASE), fun hq => ?_, fun hq => ?_⟩
  · have hq : (128 : Int) ≤ m := of_decide_eq_true hq.symm
    have hm : 128 ≤ m := by omega
    have en : numOct m = (128 + (m : Int) % 128) :: numOct (m / 128) := by
      rw [numOct, dif_neg (by omega)]
    refine b_cons (ds_append 1 rfl (d_add (d_globI T.c_BASE) (d_mod (d_var 2) (d_globI T.c_BASE) (by decide))) ?_ (by rw [List.length_map]; omega))
    show Bk _ r _ [.val _, .own _, .val _] _
    refine b_one (ds_set 2 (d_fdiv (d_var 2) (d_globI T.c_BASE) (by unfold CDiv; omega)) ?_)
    refine Up.by (Γ' := [.val (.int n), .own ((f ++ [128 + (m : Int) % 128]).map D.int), .val (.int ((m / 128 : Nat) : Int))]) ?_ ⟨m / 128, by omega, f ++ [128 + (m : Int) % 128], m / 128, rfl, by rw [e, en]; simp, by simp; omega, rfl⟩
    exact .eq (.own (by rw [List.map_append]; rfl) (.val (by congr 1) .nil))
  · have hq : ¬ (128 : Int) ≤ m := of_decide_eq_false hq.symm
    have en : numOct m = [(m : Int)] := by rw [numOct, dif_pos (by omega)]
    refine b_cons (ds_append 1 rfl (d_var 2) ?_ (by rw [List.length_map]; omega))
    show Bk _ r _ [.val _, .own _, .val _] _
    refine b_freeze (i := 1) rfl ?_
    show Bk _ r _ [.val _, .val _, .val _] _
    refine b_one (ds_ret (d_tupleL T.m_tuple (d_var 1)) ?_)
    rw [e, en] at hk
    have : f.map D.int ++ [D.int m] = (f ++ [(m : Int)]).map D.int := by rw [List.map_append]; rfl
    rw [this]
    exact hk
/-! ### number_of -/
def a_number_of : Do := fun _ ds k => ∃ ns : List Int, ds = [lsI ns] ∧ ns ≠ [] ∧ ns.length ≤ 1000000 ∧ (∀ n ∈ ns, 0 ≤ n ∧ n < 128) ∧ k (.int (valLE ns))
theorem d_mulOk {κ : Kx} {r : Reg} {Γ : Gm} {a b : Expr} {pos : Pos} {i j : Int} (ha : De κ r a Γ (.int i)) (hb : De κ r b Γ (.int j)) (h : IntMulOk i j) : De κ r (.BinOp a .Mult b pos) Γ (.int (i * j)) := e_bin (fun _ _ => opI (C := IntMulOk) (g := fun i j => i * j) fun _ _ _ _ _ _ _ hc q => mul_int q hc) ha hb (Op2.det (op2_ic h fun _ => rfl))
theorem mulOk {i j : Int} {a b : Nat} (ha : i.natAbs < 2 ^ a) (hb : j.natAbs < 2 ^ b) (h0 : 0 < a) (h1 : 0 < b) (h : a + b ≤ 100000000) : IntMulOk i j := by
  have x := PySem.Flt.log2_lt_of h0 ha
  have y := PySem.Flt.log2_lt_of h1 hb
  have b' : ∀ x : Int, Builtin.Int.intBits x ≤ x.natAbs.log2 + 1 := fun x => by
    unfold Builtin.Int.intBits
    split <;> omega
  have h1 := b' i
  have h2 := b' j
  have e : bitsLine = 134217728 := by decide
  unfold IntMulOk
  intro z
  rw [Bool.and_eq_true] at z
  have z2 := z.2
  unfold Builtin.Int.intTooBig at z2
  have z3 := of_decide_eq_true z2
  rw [e] at z3
  omega
theorem small_of {d : Int} {e : Nat} (h0 : 0 ≤ d) (h : d < ((2 ^ e : Nat) : Int)) : d.natAbs < 2 ^ e := by omega
theorem ok_number_of (T : Top K mg) (P : Program) (w : World) (base : Heap) (fd : FuncData) (F : FnP K "number_of" st_number_of f fd) : FnOk P w K mg base CX0 1 f fd ["figures"] (spD K a_number_of) := by
  refine fn_D (lv := 0) F sc_number_of (fun r ds k h => by obtain ⟨n, rfl, _⟩ := h; rfl) fun cdv A' outer s H E hr r ds k h => ?_
  obtain ⟨ns, rfl, hne, hl, hb, hk⟩ := h
  show Bk _ r _ [.val _, .no, .no, .no, .no] _
  -- row, base = (list(figures), BASE)
  refine b_cons (ds_tup2 1 2 (dv_val (Dn.de (n_listL T.m_list (d_var 0))) (dv_val (d_globI T.c_BASE) dv_nil)) ?_)
  show Bk _ r _ [.val _, .val _, .val _, .no, .no] _
  refine b_cons (s_while (fun m Γ => ∃ (rw : List Int) (ee : Nat), m = rw.length ∧ rw ≠ [] ∧ valB ((2 ^ ee : Nat) : Int) rw = valLE ns ∧ (∀ d ∈ rw, 0 ≤ d ∧ d < ((2 ^ ee : Nat) : Int)) ∧ 0 < ee ∧ ee * (rw.length - 1) ≤ 8000000 ∧ rw.length ≤ 1000000 ∧ Γ = [.val (lsI ns), .val (lsI rw), .val (.int ((2 ^ ee : Nat) : Int)), .no, .no]) (m0 := ns.length) ⟨ns, 7, rfl, hne, rfl, hb, by decide, by omega, hl, rfl⟩ ?_)
  rintro m _ ⟨rw, ee, rfl, hrn, hv, hbd, he, hme, hrl, rfl⟩
  refine ⟨_, dt_gt (d_lenL T.m_len (d_var 1)) d_int, fun hq => ?_, fun hq => ?_⟩
  · have hq : (1 : Int) < ((rw.map D.int).length : Int) := of_decide_eq_true hq.symm
    rw [List.length_map] at hq
    have hl2 : 2 ≤ rw.length := by omega
    have hee : ee ≤ 8000000 := by
      have : ee * 1 ≤ ee * (rw.length - 1) := Nat.mul_le_mul_left _ (by omega)
      omega
    have hB : ((2 ^ ee : Nat) : Int) * ((2 ^ ee : Nat) : Int) = ((2 ^ (ee + ee) : Nat) : Int) := by rw [← Int.natCast_mul, ← Nat.pow_add]
    have hpos : (0 : Int) < ((2 ^ ee : Nat) : Int) := by have := Nat.two_pow_pos ee; omega
    have hBn : (((2 ^ ee : Nat) : Int)).natAbs < 2 ^ (ee + 1) := by
      rw [Int.natAbs_natCast, Nat.pow_succ]
      have := Nat.two_pow_pos ee
      omega
    have gd : ∀ i, i < rw.length → rw[i]? = some (rw.getD i 0) := fun i hi => by
      rw [List.getD_eq_getElem?_getD, List.getElem?_eq_getElem hi]; rfl
    -- pairs = [row[at] + base * row[at + 1] for at in range(0, len(row) - 1, 2)]
    refine b_cons (ds_lc (j := 4) 3 (dlc (xs := rngD 0 2 (rw.length / 2)) (fun i => D.int (rw.getD (2 * i) 0 + ((2 ^ ee : Nat) : Int) * rw.getD (2 * i + 1) 0))
      (i_rng3 (by rfl) T.m_range (da_cons d_int (da_cons (d_sub (d_lenL T.m_len (d_var 1)) d_int) (da_cons d_int da_nil))) (by
        rintro _ rfl
        refine ⟨_, _, _, rw.length / 2, rfl, ?_, rfl⟩
        rw [List.length_map]
        exact rgC2 (by omega))) (by rw [rngD_len]; omega) ?elt) ?_)
    case elt =>
      intro i d hd
      obtain ⟨hi, rfl⟩ := rng_get hd
      have h1 := gd (2 * i) (by omega)
      have h2 := gd (2 * i + 1) (by omega)
      refine (d_add (d_ixL (d_var 1) (d_var 4) (at_intsI (n := rw.getD (2 * i) 0) (by omega) (by rw [show (0 + (i : Int) * 2).toNat = 2 * i by omega]; exact h1)))
        (d_mulOk (d_var 2) (d_ixL (d_var 1) (d_add (d_var 4) d_int) (at_intsI (n := rw.getD (2 * i + 1) 0) (by omega) (by rw [show (0 + (i : Int) * 2 + 1).toNat = 2 * i + 1 by omega]; exact h2))) ?_))
      have hd2 := hbd _ (List.mem_of_getElem? h2)
      exact mulOk hBn (small_of hd2.1 hd2.2) (by omega) he (by omega)
    rw [rngD_len]
    show Bk _ r _ [.val _, .val _, .val _, .own _, .no] _
    -- behind it: pairs is the row of pairs; row = pairs; base = base * base
    have fin : ∀ rw2 : List Int, rw2 = pairUp ((2 ^ ee : Nat) : Int) rw → Up (fun Γ => ∃ m', m' < rw.length ∧ ∃ (rw2 : List Int) (ee : Nat), m' = rw2.length ∧ rw2 ≠ [] ∧ valB ((2 ^ ee : Nat) : Int) rw2 = valLE ns ∧ (∀ d ∈ rw2, 0 ≤ d ∧ d < ((2 ^ ee : Nat) : Int)) ∧ 0 < ee ∧ ee * (rw2.length - 1) ≤ 8000000 ∧ rw2.length ≤ 1000000 ∧ Γ = [.val (lsI ns), .val (lsI rw2), .val (.int ((2 ^ ee : Nat) : Int)), .no, .no])
        [.val (lsI ns), .val (lsI rw2), .val (.int (((2 ^ ee : Nat) : Int) * ((2 ^ ee : Nat) : Int))), .val (lsI rw2), .no] := fun rw2 e2 => by
      have hl3 : rw2.length = (rw.length + 1) / 2 := by rw [e2, pairUp_len]
      refine Up.by (Γ' := [.val (lsI ns), .val (lsI rw2), .val (.int ((2 ^ (ee + ee) : Nat) : Int)), .no, .no]) (.eq (.eq (.val (by rw [hB]) (.no (.no .nil))))) ⟨rw2.length, by omega, rw2, ee + ee, rfl, ?_, ?_, ?_, by omega, ?_, by omega, rfl⟩
      · intro z; rw [z] at hl3; simp at hl3; omega
      · rw [← hB, e2, valB_pairUp, hv]
      · intro d hd
        rw [e2] at hd
        have := pairUp_bound hpos rw hbd d hd
        rwa [hB] at this
      · have h1 : (ee + ee) * (rw2.length - 1) ≤ ee * (rw.length - 1) := by
          rw [← Nat.two_mul, Nat.mul_comm 2 ee, Nat.mul_assoc]
          exact Nat.mul_le_mul_left _ (by omega)
        omega
    have lst : (List.range (rw.length / 2)).map (fun i => D.int (rw.getD (2 * i) 0 + ((2 ^ ee : Nat) : Int) * rw.getD (2 * i + 1) 0)) = ((List.range (rw.length / 2)).map fun i => rw.getD (2 * i) 0 + ((2 ^ ee : Nat) : Int) * rw.getD (2 * i + 1) 0).map D.int := by rw [List.map_map]; rfl
    rw [lst]
    -- if len(row) % 2 == 1: pairs.append(row[len(row) - 1])
    refine b_cut (fun Γ => Γ = [.val (lsI ns), .val (lsI rw), .val (.int ((2 ^ ee : Nat) : Int)), .own ((pairUp ((2 ^ ee : Nat) : Int) rw).map D.int), .no]) (ds_if (dt_eq (d_mod (d_lenL T.m_len (d_var 1)) d_int (by decide)) d_int) (fun hp => ?_) (fun hp => ?_)) ?_
    · have hp : ((rw.map D.int).length : Int) % 2 = 1 := of_decide_eq_true hp
      rw [List.length_map] at hp
      have hg := gd (rw.length - 1) (by omega)
      refine b_one (ds_append 3 rfl (d_ixL (d_var 1) (d_sub (d_lenL T.m_len (d_var 1)) d_int) (at_intsI (n := rw.getD (rw.length - 1) 0) (by rw [List.length_map]; omega) (by rw [List.length_map, show ((rw.length : Int) - 1).toNat = rw.length - 1 by omega]; exact hg))) (Up.by (Wk.refl _) ?_) (by simp; omega))
      show [_, _, _, Sl.own _, _] = _
      rw [pairUp_odd _ rw (by omega), List.map_append]; rfl
    · have hp : ¬ ((rw.map D.int).length : Int) % 2 = 1 := of_decide_eq_false hp
      rw [List.length_map] at hp
      refine b_nil (Up.by (Wk.refl _) ?_)
      rw [← pairUp_even _ rw (by omega)]
    rintro _ rfl
    refine b_freeze (i := 3) rfl ?_
    show Bk _ r _ [.val _, .val _, .val _, .val _, .no] _
    refine b_cons (ds_set 1 (d_var 3) ?_)
    show Bk _ r _ [.val _, .val _, .val _, .val _, .no] _
    exact b_one (ds_set 2 (d_mulOk (d_var 2) (d_var 2) (mulOk hBn hBn (by omega) (by omega) (by omega))) (fin _ rfl))
  · have hq : ¬ (1 : Int) < ((rw.map D.int).length : Int) := of_decide_eq_false hq.symm
    rw [List.length_map] at hq
    match rw, hrn, hv, hq with
    | [x], _, hv, _ =>
      refine b_one (ds_ret (d_ixL (d_var 1) d_int (at_ints (j := 0) (n := x) rfl)) ?_)
      have : valLE ns = x := by rw [← hv]; simp [valB]
      rw [this] at hk
      exact hk
    | x :: y :: r', _, _, hq => exact absurd (by simp; omega) hq
end
end K84

set_option Elab.async false
set_option linter.all false
set_option maxRecDepth 100000
set_option maxHeartbeats 1000000
namespace K84
open PySem PySem.Spec PyProof.Rows L2 Dv
/-! ### rows of ints as data -/
theorem getD_some {ns : List Int} {i : Nat} (h : i < ns.length) : ns[i]? = some (ns.getD i 0) := by
  rw [List.getD_eq_getElem?_getD, List.getElem?_eq_getElem h]; rfl
theorem at_I {ns : List Int} {i : Int} {j : Nat} (e : i = (j : Int)) (h : j < ns.length) : L2.atI (ns.map D.int) i = some (.int (ns.getD j 0)) := by
  subst e; exact at_ints (getD_some h)
theorem drop_min {α : Type} (l : List α) (a : Nat) : l.drop (min a l.length) = l.drop a := by
  by_cases h : a ≤ l.length
  · rw [Nat.min_eq_left h]
  · rw [Nat.min_eq_right (by omega), List.drop_length, List.drop_of_length_le (by omega)]
theorem take_min {α : Type} (l : List α) (a : Nat) : l.take (min a l.length) = l.take a := by
  by_cases h : a ≤ l.length
  · rw [Nat.min_eq_left h]
  · rw [Nat.min_eq_right (by omega), List.take_length, List.take_of_length_le (by omega)]
theorem cutD_nat {ds : List D} (a b : Nat) : cutDs ds (some (a : Int)) (some (b : Int)) = (ds.drop a).take (b - a) := by
  unfold cutDs
  rw [HT.sIx_nat, HT.sIx_nat, drop_min]
  by_cases h : a ≤ ds.length
  · rw [Nat.min_eq_left h]
    by_cases h2 : b ≤ ds.length
    · rw [Nat.min_eq_left h2]
    · rw [Nat.min_eq_right (by omega), List.take_of_length_le (by rw [List.length_drop]; omega), List.take_of_length_le (by rw [List.length_drop]; omega)]
  · rw [List.drop_of_length_le (by omega)]; simp
theorem cutD_to {ds : List D} (b : Nat) : cutDs ds none (some (b : Int)) = ds.take b := by
  unfold cutDs
  rw [HT.sIx_nat, HT.sIx_none, List.drop_zero, Nat.sub_zero, take_min]
theorem cutD_from {ds : List D} (a : Nat) : cutDs ds (some (a : Int)) none = ds.drop a := by
  unfold cutDs
  rw [HT.sIx_nat, HT.sIx_none, drop_min, List.take_of_length_le]
  rw [List.length_drop]
  by_cases h : a ≤ ds.length
  · rw [Nat.min_eq_left h]; omega
  · rw [Nat.min_eq_right (by omega)]; omega
theorem cutI {ns : List Int} (a b : Nat) : cutDs (ns.map D.int) (some (a : Int)) (some (b : Int)) = ((ns.drop a).take (b - a)).map D.int := by
  rw [cutD_nat, List.map_take, List.map_drop]
/-! ### mathematics of behind -/
theorem behind_some {ns : List Int} {a i : Nat} (h1 : ∀ j, j < i → ¬ ns.getD (a + j) 0 < 128) (h2 : a + i < ns.length) (h3 : ns.getD (a + i) 0 < 128) : behind ns a = some (a + i + 1) := by
  unfold behind
  have : (ns.drop a).findIdx? (fun n => decide (n < 128)) = some i := by
    rw [List.findIdx?_eq_some_iff_getElem]
    refine ⟨by rw [List.length_drop]; omega, ?_, fun j hj => ?_⟩
    · rw [List.getElem_drop]
      rw [List.getD_eq_getElem?_getD, List.getElem?_eq_getElem h2] at h3
      simpa using h3
    · have := h1 j hj
      rw [List.getElem_drop]
      rw [List.getD_eq_getElem?_getD, List.getElem?_eq_getElem (by omega)] at this
      simpa using this
  rw [this]; rfl
theorem behind_none {ns : List Int} {a : Nat} (h1 : ∀ j, a + j < ns.length → ¬ ns.getD (a + j) 0 < 128) : behind ns a = none := by
  unfold behind
  have : (ns.drop a).findIdx? (fun n => decide (n < 128)) = none := by
    rw [List.findIdx?_eq_none_iff]
    intro x hx
    obtain ⟨j, hj, e⟩ := List.mem_iff_getElem.mp hx
    rw [List.length_drop] at hj
    have := h1 j (by omega)
    rw [List.getElem_drop] at e
    rw [List.getD_eq_getElem?_getD, List.getElem?_eq_getElem (by omega), e] at this
    simpa using this
  rw [this]; rfl
/-- what holds of the place behind a number -/
theorem behind_spec {ns : List Int} {a e : Nat} (h : behind ns a = some e) : a < e ∧ e ≤ ns.length ∧ ns.getD (e - 1) 0 < 128 ∧ ∀ j, a ≤ j → j < e - 1 → ¬ ns.getD j 0 < 128 := by
  unfold behind at h
  cases q : (ns.drop a).findIdx? (fun n => decide (n < 128)) with
  | none => rw [q] at h; cases h
  | some i =>
    rw [q] at h
    obtain rfl : a + i + 1 = e := Option.some.inj h
    obtain ⟨hi, h1, h2⟩ := List.findIdx?_eq_some_iff_getElem.mp q
    rw [List.length_drop] at hi
    rw [List.getElem_drop] at h1
    refine ⟨by omega, by omega, ?_, fun j hj hj2 => ?_⟩
    · rw [show a + i + 1 - 1 = a + i by omega, List.getD_eq_getElem?_getD, List.getElem?_eq_getElem (by omega)]
      simpa using h1
    · have := h2 (j - a) (by omega)
      rw [List.getElem_drop] at this
      rw [List.getD_eq_getElem?_getD, List.getElem?_eq_getElem (by omega)]
      simpa [show a + (j - a) = j by omega] using this
def optI : Option Nat → D
  | none => .non
  | some e => .int e
section
variable {P : Program} {w : World} {K : PySem.W.Frag} {mg : Str → Option Value} {base : Heap} {f : Addr} {fd : FuncData}
def a_behind_number : Do := fun _ ds k => ∃ (ns : List Int) (a : Nat), ds = [tpI ns, .int a] ∧ ns.length ≤ 1000000 ∧ a ≤ 1000000 ∧ k (optI (behind ns a))
theorem ok_behind_number (T : Top K mg) (P : Program) (w : World) (base : Heap) (fd : FuncData) (F : FnP K "behind_number" st_behind_number f fd) : FnOk P w K mg base CX0 1 f fd ["octets", "at"] (spD K a_behind_number) := by
  refine fn_D (lv := 0) F sc_behind_number (fun r ds k h => by obtain ⟨n, a, rfl, _⟩ := h; rfl) fun cdv A' outer s H E hr r ds k h => ?_
  obtain ⟨ns, a, rfl, hl, ha, hk⟩ := h
  show Bk _ r _ [.val _, .val _, .no] _
  refine b_cons (ds_if (dt_lt (d_var 1) d_int) (fun z => absurd (of_decide_eq_true z) (by omega)) (fun _ => b_nil ?_))
  refine b_cons (s_for (g := gName 2) (ki := fun z => z = rngD a 1 (ns.length - a)) (fun _ i Γ => (∀ j, j < i → ¬ ns.getD (a + j) 0 < 128) ∧ Γ = [.val (tpI ns), .val (.int a), .no])
    (i_rng2 (by rfl) T.m_range (da_cons (d_var 1) (da_cons (d_lenT T.m_len (d_var 0)) da_nil)) (by
      rintro _ rfl
      rw [List.length_map]
      exact ⟨_, _, rfl, ⟨by omega, by omega, by omega, by omega⟩, by congr 1; omega⟩))
    (fun X hX => pg_name' (i := 2) sto hX) (fun _ _ => ⟨fun j hj => absurd hj (by omega), rfl⟩) ?turn ?done)
  case turn =>
    rintro _ i d _ rfl hd ⟨h1, rfl⟩
    obtain ⟨hi, rfl⟩ := rng_get hd
    refine ⟨_, tg_name 2 _, b_one (ds_if (dt_lt (d_ixT (d_var 0) (d_var 2) (at_I (j := a + i) (by omega) (by omega))) (d_globI T.c_BASE)) (fun z => ?_) (fun z => b_nil ?_))⟩
    · have z := of_decide_eq_true z
      refine b_one (ds_ret (d_add (d_var 2) d_int) ?_)
      rw [behind_some h1 (by omega) z] at hk
      have : ((a : Int) + (i : Int) * 1 + 1) = ((a + i + 1 : Nat) : Int) := by omega
      rw [this]
      exact hk
    · have z := of_decide_eq_false z
      refine Up.by (Γ' := [.val (tpI ns), .val (.int a), .no]) (.eq (.eq (.no .nil))) ⟨fun j hj => ?_, rfl⟩
      by_cases e : j = i
      · subst e; exact z
      · exact h1 j (by omega)
  case done =>
    rintro _ _ rfl ⟨h1, rfl⟩
    rw [rngD_len] at h1
    refine b_one (ds_ret d_non ?_)
    rw [behind_none (fun j hj => h1 j (by omega))] at hk
    exact hk
/-! ### read_number -/
def dRead : Option (Int × Nat) → D
  | none => .non
  | some (v, e) => .tup [.int v, .int e]
def a_read_number : Do := fun _ ds k => ∃ (ns : List Int) (a : Nat), ds = [tpI ns, .int a] ∧ Oct ns ∧ ns.length ≤ 1000000 ∧ a ≤ 1000000 ∧ k (dRead (readNum ns a))
theorem oct_get {ns : List Int} (h : Oct ns) {i : Nat} (hi : i < ns.length) : 0 ≤ ns.getD i 0 ∧ ns.getD i 0 < 256 := h _ (List.mem_of_getElem? (getD_some hi))
theorem figs_ok {ns : List Int} (h : Oct ns) {a e : Nat} (hb : behind ns a = some e) : figs ns a e ≠ [] ∧ (figs ns a e).length ≤ ns.length ∧ ∀ n ∈ figs ns a e, 0 ≤ n ∧ n < 128 := by
  obtain ⟨h1, h2, h3, h4⟩ := behind_spec hb
  refine ⟨by unfold figs; simp, ?_, fun n hn => ?_⟩
  · unfold figs
    rw [List.length_append, List.length_map, List.length_take, List.length_drop, List.length_singleton]
    omega
  · unfold figs at hn
    rcases List.mem_append.mp hn with hn | hn
    · obtain ⟨m, hm, rfl⟩ := List.mem_map.mp hn
      obtain ⟨i, hi, e2⟩ := List.mem_iff_getElem.mp hm
      rw [List.length_take, List.length_drop] at hi
      rw [List.getElem_take, List.getElem_drop] at e2
      have g := oct_get h (i := a + i) (by omega)
      have g2 := h4 (a + i) (by omega) (by omega)
      rw [List.getD_eq_getElem?_getD, List.getElem?_eq_getElem (by omega), Option.getD_some, e2] at g g2
      omega
    · obtain rfl : n = ns.getD (e - 1) 0 := by simpa using hn
      have g := oct_get h (i := e - 1) (by omega)
      omega
theorem ok_read_number (T : Top K mg) (P : Program) (w : World) (base : Heap) (fd : FuncData) (F : FnP K "read_number" st_read_number f fd) : FnOk P w K mg base CX0 2 f fd ["octets", "at"] (spD K a_read_number) := by
  refine fn_D (lv := 1) F sc_read_number (fun r ds k h => by obtain ⟨n, a, rfl, _⟩ := h; rfl) fun cdv A' outer s H E hr r ds k h => ?_
  obtain ⟨ns, a, rfl, ho, hl, ha, hk⟩ := h
  show Bk _ r _ [.val _, .val _, .no, .no, .no] _
  -- end = behind_number(octets, at)
  refine b_cons (ds_set (d := optI (behind ns a)) 2 (callD T.d_behind_number (fun P w base fd F => ok_behind_number T P w base fd F) bd_behind_number (Nat.le_of_ble_eq_true rfl) T.g_behind_number (by rfl) (da_cons (d_var 0) (da_cons (d_var 1) da_nil)) (by rintro _ rfl C; exact ⟨ns, a, rfl, hl, ha, rfl⟩) (by decide) (by intro _ _; rfl) (by intro _ _; rfl)) ?_)
  show Bk _ r _ [.val _, .val _, .val _, .no, .no] _
  cases hb : behind ns a with
  | none =>
    have hr : readNum ns a = none := by unfold readNum; rw [hb]
    rw [hr] at hk
    refine b_cons (ds_if (b := true) (Pw.pt (dw_or (b1 := true) (b2 := true) (dt_isN (d := .non) (d_var 2) d_non rfl) (fun z => nomatch z))) (fun _ => b_one (ds_ret d_non hk)) (fun z => nomatch z))
  | some e =>
    obtain ⟨h1, h2, h3, h4⟩ := behind_spec hb
    have at1 : L2.atI (ns.map D.int) ((e : Int) - 1) = some (.int (ns.getD (e - 1) 0)) := at_I (j := e - 1) (by omega) (by omega)
    refine b_cons (ds_if (b := decide (1 < (e : Int) - a) && decide (ns.getD (e - 1) 0 = 0)) (Pw.pt (dw_or (b1 := false) (dt_isN (d := .int e) (d_var 2) d_non rfl) (fun _ => dw_oneO (Pw.pt (dw_and (dt_gt (d_sub (d_var 2) (d_var 1)) d_int) (fun _ => dw_one (dt_eq (d_ixT (d_var 0) (d_sub (d_var 2) d_int) at1) d_int)))))))
      (fun z => ?_) (fun z => b_nil ?_))
    · rw [Bool.and_eq_true] at z
      have z1 := of_decide_eq_true z.1
      have z2 := of_decide_eq_true z.2
      have hr : readNum ns a = none := by
        unfold readNum; rw [hb]
        exact if_pos ⟨by omega, z2⟩
      rw [hr] at hk
      exact b_one (ds_ret d_non hk)
    · have hr : readNum ns a = some (valLE (figs ns a e), e) := by
        unfold readNum; rw [hb]
        refine if_neg fun y => ?_
        have : (decide (1 < (e : Int) - a) && decide (ns.getD (e - 1) 0 = 0)) = true := by
          rw [Bool.and_eq_true]; exact ⟨decide_eq_true (by omega), decide_eq_true y.2⟩
        rw [this] at z; cases z
      rw [hr] at hk
      -- figures = [octet - BASE for octet in octets[at:end - 1]] + [octets[end - 1]]
      have ecut : cutDs (ns.map D.int) (some (a : Int)) (some ((e : Int) - 1)) = ((ns.drop a).take (e - 1 - a)).map D.int := by
        rw [show ((e : Int) - 1) = ((e - 1 : Nat) : Int) by omega, cutI]
      have fl : (List.range (cutDs (ns.map D.int) (some (a : Int)) (some ((e : Int) - 1))).length).map (fun i => D.int (((ns.drop a).take (e - 1 - a)).getD i 0 - 128)) ++ [D.int (ns.getD (e - 1) 0)] = (figs ns a e).map D.int := by
        unfold figs
        rw [List.map_append, ecut]
        congr 1
        refine List.ext_getElem? fun i => ?_
        rw [List.length_map]
        by_cases hi : i < ((ns.drop a).take (e - 1 - a)).length
        · rw [List.getElem?_map, List.getElem?_range hi, List.getElem?_map, List.getElem?_map, getD_some hi]; rfl
        · rw [List.getElem?_eq_none (by rw [List.length_map, List.length_range]; omega), List.getElem?_eq_none (by rw [List.length_map, List.length_map]; omega)]
      obtain ⟨f1, f2, f3⟩ := figs_ok ho hb
      refine b_cons (ds_set (d := .lst ((List.range (cutDs (ns.map D.int) (some (a : Int)) (some ((e : Int) - 1))).length).map (fun i => D.int (((ns.drop a).take (e - 1 - a)).getD i 0 - 128)) ++ [D.int (ns.getD (e - 1) 0)])) 3 (Dn.de (n_cat (Dn.de (dn_lc (j := 4) (dlc (fun i => D.int (((ns.drop a).take (e - 1 - a)).getD i 0 - 128)) (di_tup (d_sliceT (d_var 0) (do_some (d_var 1)) (do_some (d_sub (d_var 2) d_int)))) ?sz ?elt))) (Dn.de (n_lst (da_cons (d_ixT (d_var 0) (d_sub (d_var 2) d_int) at1) da_nil))) ?len)) ?_)
      case sz => rw [ecut, List.length_map, List.length_take, List.length_drop]; omega
      case elt =>
        intro i d hd
        rw [ecut, List.getElem?_map] at hd
        have hi : i < ((ns.drop a).take (e - 1 - a)).length := by
          by_cases hi : i < ((ns.drop a).take (e - 1 - a)).length
          · exact hi
          · rw [List.getElem?_eq_none (by omega)] at hd; cases hd
        rw [getD_some hi] at hd
        cases hd
        exact d_sub (d_var 4) (d_globI T.c_BASE)
      case len =>
        rw [List.length_map, List.length_range, ecut, List.length_map, List.length_take, List.length_drop]
        simp; omega
      rw [fl]
      show Bk _ r _ [.val _, .val _, .val _, .val _, .no] _
      refine b_one (ds_ret (d_tup (da_cons (d := .int (valLE (figs ns a e))) (callD T.d_number_of (fun P w base fd F => ok_number_of T P w base fd F) bd_number_of (Nat.le_of_ble_eq_true rfl) T.g_number_of (by rfl) (da_cons (d_var 3) da_nil) (by rintro _ rfl C; exact ⟨_, rfl, f1, by omega, f3, rfl⟩) (by decide) (by intro _ _; rfl) (by intro _ _; rfl)) (da_cons (d_var 2) da_nil))) ?_)
      exact hk
end
end K84

set_option Elab.async false
set_option linter.all false
set_option maxRecDepth 100000
set_option maxHeartbeats 1000000
namespace K84
open PySem PySem.Spec PyProof.Rows L2 Dv
section
variable {P : Program} {w : World} {K : PySem.W.Frag} {mg : Str → Option Value} {base : Heap} {f : Addr} {fd : FuncData}
variable {κ : Kx} {r : Reg} {Γ : Gm} {a b : Expr} {pos p : Pos}
theorem c_number_octets {n : Nat} (T : Top κ.K κ.mg) (ha : De κ r a Γ (.int n)) (hn : n < 900000) (hl : 1 ≤ κ.lv := by exact Nat.le_of_ble_eq_true rfl) (hg : κ.sc.names.lookup ("number_octets" : Str) = some .globalImplicit := by rfl) (pl : Pl a := by intro _ _; rfl) : De κ r (.Call (.Name "number_octets" p) [a] [] pos) Γ (tpI (numOct n)) :=
  callD T.d_number_octets (fun P w base fd F => ok_number_octets T P w base fd F) bd_number_octets hl T.g_number_octets hg (da_cons ha da_nil (fun X _ => pl X.env [])) (by rintro _ rfl C; exact ⟨n, rfl, hn, rfl⟩) (by decide) (fun X _ => pl X.env []) (fun _ _ => rfl)
theorem c_read_number {ns : List Int} {i : Nat} (T : Top κ.K κ.mg) (ha : De κ r a Γ (tpI ns)) (hb : De κ r b Γ (.int i)) (ho : Oct ns) (h1 : ns.length ≤ 1000000) (h2 : i ≤ 1000000) (hl : 2 ≤ κ.lv := by exact Nat.le_of_ble_eq_true rfl) (hg : κ.sc.names.lookup ("read_number" : Str) = some .globalImplicit := by rfl) (pl : Pl a := by intro _ _; rfl) (pl2 : Pl b := by intro _ _; rfl) : De κ r (.Call (.Name "read_number" p) [a, b] [] pos) Γ (dRead (readNum ns i)) :=
  callD T.d_read_number (fun P w base fd F => ok_read_number T P w base fd F) bd_read_number hl T.g_read_number hg (da_cons ha (da_cons hb da_nil (fun X _ => pl2 X.env [])) (fun X _ => pl X.env [b])) (by rintro _ rfl C; exact ⟨ns, i, rfl, ho, h1, h2, rfl⟩) (by decide) (fun X _ => pl X.env [b]) (fun X _ => by rw [pl2 X.env []]; rfl)
/-! ### sum_of_octets, sum_pair -/
def a_sum_of_octets : Do := fun _ ds k => ∃ ns : List Int, ds = [tpI ns] ∧ ns.length ≤ 1000000 ∧ k (.int (octSum ns))
theorem ok_sum_of_octets (T : Top K mg) (P : Program) (w : World) (base : Heap) (fd : FuncData) (F : FnP K "sum_of_octets" st_sum_of_octets f fd) : FnOk P w K mg base CX0 1 f fd ["octets"] (spD K a_sum_of_octets) := by
  refine fn_D (lv := 0) F sc_sum_of_octets (fun r ds k h => by obtain ⟨ns, rfl, _⟩ := h; rfl) fun cdv A' outer s H E hr r ds k h => ?_
  obtain ⟨ns, rfl, hl, hk⟩ := h
  show Bk _ r _ [.val _, .no, .no] _
  refine b_cons (ds_set 1 d_int ?_)
  show Bk _ r _ [.val _, .val _, .no] _
  refine b_cons (s_for (g := gName 2) (fun _ i Γ => Γ = [.val (tpI ns), .val (.int (part ns i)), .no])
    (di_rng (n := ns.length) T.m_range (d_lenT T.m_len (d_var 0)) (by rw [List.length_map]; omega) (by omega) (by omega)) (fun X hX => pg_name' (i := 2) sto hX) (fun _ _ => rfl) ?turn ?done)
  case turn =>
    rintro _ i d _ rfl hd rfl
    obtain ⟨hi, rfl⟩ := rng0_get hd
    refine ⟨_, tg_name 2 _, b_one (ds_aug 1 rfl (d_mul (d_add (d_var 2) d_int) (d_ixT (d_var 0) (d_var 2) (at_I rfl hi)) (.inl (by omega))) (Up.by (Γ' := [.val (tpI ns), .val (.int (part ns (i + 1))), .no]) (.eq (.val ?_ (.no .nil))) rfl))⟩
    rw [part_succ]
  case done =>
    rintro _ _ rfl rfl
    rw [rngD_len]
    show Bk _ r _ [.val _, .val _, .no] _
    exact b_one (ds_ret (d_mod (d_var 1) (d_globI T.c_PRIME) (by decide)) hk)
theorem c_sum_of_octets {ns : List Int} (T : Top κ.K κ.mg) (ha : De κ r a Γ (tpI ns)) (hn : ns.length ≤ 1000000) (hl : 1 ≤ κ.lv := by exact Nat.le_of_ble_eq_true rfl) (hg : κ.sc.names.lookup ("sum_of_octets" : Str) = some .globalImplicit := by rfl) (pl : Pl a := by intro _ _; rfl) : De κ r (.Call (.Name "sum_of_octets" p) [a] [] pos) Γ (.int (octSum ns)) :=
  callD T.d_sum_of_octets (fun P w base fd F => ok_sum_of_octets T P w base fd F) bd_sum_of_octets hl T.g_sum_of_octets hg (da_cons ha da_nil (fun X _ => pl X.env [])) (by rintro _ rfl C; exact ⟨ns, rfl, hn, rfl⟩) (by decide) (fun X _ => pl X.env []) (fun _ _ => rfl)
theorem octSum_range (ns : List Int) : 0 ≤ octSum ns ∧ octSum ns < 65521 := by
  unfold octSum
  exact ⟨Int.emod_nonneg _ (by decide), Int.emod_lt_of_pos _ (by decide)⟩
def a_sum_pair : Do := fun _ ds k => ∃ ns : List Int, ds = [tpI ns] ∧ ns.length ≤ 1000000 ∧ k (tpI (sumPair ns))
theorem ok_sum_pair (T : Top K mg) (P : Program) (w : World) (base : Heap) (fd : FuncData) (F : FnP K "sum_pair" st_sum_pair f fd) : FnOk P w K mg base CX0 2 f fd ["body"] (spD K a_sum_pair) := by
  refine fn_D (lv := 1) F sc_sum_pair (fun r ds k h => by obtain ⟨ns, rfl, _⟩ := h; rfl) fun cdv A' outer s H E hr r ds k h => ?_
  obtain ⟨ns, rfl, hl, hk⟩ := h
  show Bk _ r _ [.val _, .no] _
  refine b_cons (ds_set 1 (c_sum_of_octets T (d_var 0) hl) ?_)
  show Bk _ r _ [.val _, .val _] _
  have := octSum_range ns
  exact b_one (ds_ret (d_tup (da_cons (d_mod (d_var 1) (d_globI T.c_OCTET) (by decide)) (da_cons (d_fdiv (d_var 1) (d_globI T.c_OCTET) (by unfold CDiv; omega)) da_nil))) hk)
theorem c_sum_pair {ns : List Int} (T : Top κ.K κ.mg) (ha : De κ r a Γ (tpI ns)) (hn : ns.length ≤ 1000000) (hl : 2 ≤ κ.lv := by exact Nat.le_of_ble_eq_true rfl) (hg : κ.sc.names.lookup ("sum_pair" : Str) = some .globalImplicit := by rfl) (pl : Pl a := by intro _ _; rfl) : De κ r (.Call (.Name "sum_pair" p) [a] [] pos) Γ (tpI (sumPair ns)) :=
  callD T.d_sum_pair (fun P w base fd F => ok_sum_pair T P w base fd F) bd_sum_pair hl T.g_sum_pair hg (da_cons ha da_nil (fun X _ => pl X.env [])) (by rintro _ rfl C; exact ⟨ns, rfl, hn, rfl⟩) (by decide) (fun X _ => pl X.env []) (fun _ _ => rfl)
/-! ### frame -/
def frameOf (ns : List Int) : List Int := numOct ns.length ++ ns ++ sumPair ns
def a_frame : Do := fun _ ds k => ∃ ns : List Int, ds = [tpI ns] ∧ ns.length < 900000 ∧ k (tpI (frameOf ns))
theorem numOct_len : ∀ n : Nat, (numOct n).length ≤ n + 1 := fun n => by
  induction n using Nat.strongRecOn with
  | ind n ih =>
    rw [numOct]
    split
    · simp
    · rw [List.length_cons]
      have := ih (n / 128) (by omega)
      omega
theorem ok_frame (T : Top K mg) (P : Program) (w : World) (base : Heap) (fd : FuncData) (F : FnP K "frame" st_frame f fd) : FnOk P w K mg base CX0 3 f fd ["body"] (spD K a_frame) := by
  refine fn_D (lv := 2) F sc_frame (fun r ds k h => by obtain ⟨ns, rfl, _⟩ := h; rfl) fun cdv A' outer s H E hr r ds k h => ?_
  obtain ⟨ns, rfl, hl, hk⟩ := h
  show Bk _ r _ [.val _] _
  have h1 := numOct_len ns.length
  have e : frameOf ns = frameOf ns := rfl
  refine b_one (ds_ret (d := .tup (((numOct ns.length).map D.int ++ ns.map D.int) ++ (sumPair ns).map D.int)) (d_catT (d_catT (c_number_octets (n := ns.length) T (De.to (d_lenT T.m_len (d_var 0)) (by rw [List.length_map])) hl) (d_tupleT T.m_tuple (d_var 0)) (by simp; omega)) (c_sum_pair T (d_var 0) (by omega)) (by simp [sumPair]; omega)) ?_)
  have e2 : ((numOct ns.length).map D.int ++ ns.map D.int) ++ (sumPair ns).map D.int = (frameOf ns).map D.int := by
    unfold frameOf; rw [List.map_append, List.map_append]
  rw [e2]
  exact hk
theorem c_frame {ns : List Int} (T : Top κ.K κ.mg) (ha : De κ r a Γ (tpI ns)) (hn : ns.length < 900000) (hl : 3 ≤ κ.lv := by exact Nat.le_of_ble_eq_true rfl) (hg : κ.sc.names.lookup ("frame" : Str) = some .globalImplicit := by rfl) (pl : Pl a := by intro _ _; rfl) : De κ r (.Call (.Name "frame" p) [a] [] pos) Γ (tpI (frameOf ns)) :=
  callD T.d_frame (fun P w base fd F => ok_frame T P w base fd F) bd_frame hl T.g_frame hg (da_cons ha da_nil (fun X _ => pl X.env [])) (by rintro _ rfl C; exact ⟨ns, rfl, hn, rfl⟩) (by decide) (fun X _ => pl X.env []) (fun _ _ => rfl)
theorem c_frameK {ns : List Int} {kp : Pos} (T : Top κ.K κ.mg) (ha : De κ r a Γ (tpI ns)) (hn : ns.length < 900000) (hl : 3 ≤ κ.lv := by exact Nat.le_of_ble_eq_true rfl) (hg : κ.sc.names.lookup ("frame" : Str) = some .globalImplicit := by rfl) : De κ r (.Call (.Name "frame" p) [] [⟨some "body", a, kp⟩] pos) Γ (tpI (frameOf ns)) :=
  callK1 T.d_frame (fun P w base fd F => ok_frame T P w base fd F) (fun fd F => kb1 (bd_frame fd F) (bindsK1 F fun _ _ _ _ _ _ _ => rfl)) hl T.g_frame hg ha (by rintro _ rfl C; exact ⟨ns, rfl, hn, rfl⟩) (by decide)
/-! ### frame_at, frames -/
def dFrame : Option (List Int × Nat) → D
  | none => .non
  | some (b, e) => .tup [tpI b, .int e]
def a_frame_at : Do := fun _ ds k => ∃ (ns : List Int) (a : Nat), ds = [tpI ns, .int a] ∧ Oct ns ∧ ns.length ≤ 1000000 ∧ a ≤ 1000000 ∧ k (dFrame (frameAt ns a))
theorem valB_nonneg {b : Int} (hb : 0 ≤ b) : ∀ ds : List Int, (∀ d ∈ ds, 0 ≤ d) → 0 ≤ valB b ds
  | [], _ => by simp [valB]
  | d :: ds, h => by
    show 0 ≤ d + b * valB b ds
    have h1 := h d (by simp)
    have h2 := valB_nonneg hb ds (fun x hx => h x (by simp [hx]))
    exact Int.add_nonneg h1 (Int.mul_nonneg hb h2)
theorem readNum_spec {ns : List Int} (ho : Oct ns) {a e : Nat} {v : Int} (h : readNum ns a = some (v, e)) : behind ns a = some e ∧ v = valLE (figs ns a e) ∧ 0 ≤ v ∧ a < e ∧ e ≤ ns.length := by
  unfold readNum at h
  cases hb : behind ns a with
  | none => rw [hb] at h; cases h
  | some e' =>
    rw [hb] at h
    simp only at h
    split at h
    · cases h
    · cases h
      obtain ⟨f1, f2, f3⟩ := figs_ok ho hb
      obtain ⟨h1, h2, _⟩ := behind_spec hb
      exact ⟨rfl, rfl, valB_nonneg (by decide) _ (fun d hd => (f3 d hd).1), h1, h2⟩
theorem ok_frame_at (T : Top K mg) (P : Program) (w : World) (base : Heap) (fd : FuncData) (F : FnP K "frame_at" st_frame_at f fd) : FnOk P w K mg base CX0 3 f fd ["octets", "at"] (spD K a_frame_at) := by
  refine fn_D (lv := 2) F sc_frame_at (fun r ds k h => by obtain ⟨ns, a, rfl, _⟩ := h; rfl) fun cdv A' outer s H E hr r ds k h => ?_
  obtain ⟨ns, a, rfl, ho, hl, ha, hk⟩ := h
  show Bk _ r _ [.val _, .val _, .no, .no, .no] _
  refine b_cons (ds_set 2 (c_read_number T (d_var 0) (d_var 1) ho hl ha) ?_)
  show Bk _ r _ [.val _, .val _, .val _, .no, .no] _
  cases hr : readNum ns a with
  | none =>
    have hf : frameAt ns a = none := by unfold frameAt; rw [hr]
    rw [hf] at hk
    exact b_cons (ds_if (b := true) (Pw.pt (dw_or (b1 := true) (b2 := true) (dt_isN (d := .non) (d_var 2) d_non rfl) (fun z => nomatch z))) (fun _ => b_one (ds_ret d_non hk)) (fun z => nomatch z))
  | some ve =>
    obtain ⟨v, e⟩ := ve
    obtain ⟨hb, hv, hv0, h1, h2⟩ := readNum_spec ho hr
    have t0 : ∀ {κ : Kx} {r : Reg} {Γ : Gm} {c : Expr} {pos kp : Pos} {j}, De κ r c Γ (.tup [.int v, .int e]) → De κ r (.Subscript c (.Constant (.int 0) j kp) pos) Γ (.int v) := fun h => d_ixT h d_int (at_nat (j := 0) rfl)
    have t1 : ∀ {κ : Kx} {r : Reg} {Γ : Gm} {c : Expr} {pos kp : Pos} {j}, De κ r c Γ (.tup [.int v, .int e]) → De κ r (.Subscript c (.Constant (.int 1) j kp) pos) Γ (.int e) := fun h => d_ixT h d_int (at_nat (j := 1) rfl)
    refine b_cons (ds_if (b := false || decide ((ns.length : Int) - e < v + 2)) (Pw.pt (dw_or (b1 := false) (dt_isN (d := .tup [.int v, .int e]) (d_var 2) d_non rfl) (fun _ => dw_oneO (Dt.to (dt_gt (d_add (t0 (d_var 2)) (d_globI T.c_SUM_OCTETS)) (d_sub (d_lenT T.m_len (d_var 0)) (t1 (d_var 2)))) (by rw [List.length_map]))))) (fun z => ?_) (fun z => b_nil ?_))
    · rw [Bool.false_or] at z
      have z := of_decide_eq_true z
      have hf : frameAt ns a = none := by unfold frameAt; rw [hr]; exact if_pos z
      rw [hf] at hk
      exact b_one (ds_ret d_non hk)
    · rw [Bool.false_or] at z
      have z := of_decide_eq_false z
      -- end = told[0] + told[1]
      obtain ⟨m, rfl⟩ : ∃ m : Nat, v = m := ⟨v.toNat, by omega⟩
      refine b_cons (ds_set (d := .int ((e + m : Nat) : Int)) 3 (De.to (d_add (t0 (d_var 2)) (t1 (d_var 2))) (by congr 1; omega)) ?_)
      show Bk _ r _ [.val _, .val _, .val _, .val _, .no] _
      -- body = octets[told[1]:end]
      refine b_cons (ds_set (d := tpI ((ns.drop e).take m)) 4 (De.to (d_sliceT (d_var 0) (do_some (t1 (d_var 2))) (do_some (d_var 3))) (by rw [cutI, show e + m - e = m by omega])) ?_)
      show Bk _ r _ [.val _, .val _, .val _, .val _, .val _] _
      have hm : ((ns.drop e).take m).length = m := by rw [List.length_take, List.length_drop]; omega
      -- octets[end:end + SUM_OCTETS] != sum_pair(body)
      refine b_cons (ds_if (b := !decide ((ns.drop (e + m)).take 2 = sumPair ((ns.drop e).take m))) (dt_neTT (De.to (d_sliceT (d_var 0) (do_some (d_var 3)) (do_some (d_add (d_var 3) (d_globI T.c_SUM_OCTETS)))) (by
          rw [show ((e + m : Nat) : Int) + 2 = ((e + m + 2 : Nat) : Int) by omega, cutI, show e + m + 2 - (e + m) = 2 by omega])) (c_sum_pair T (d_var 4) (by omega))) (fun z2 => ?_) (fun z2 => b_nil ?_))
      · have hf : frameAt ns a = none := by
          unfold frameAt; rw [hr]
          simp only [Int.toNat_natCast]
          rw [if_neg (by omega), if_neg (by simpa using z2)]
        rw [hf] at hk
        exact b_one (ds_ret d_non hk)
      · have hf : frameAt ns a = some ((ns.drop e).take m, e + m + 2) := by
          unfold frameAt; rw [hr]
          simp only [Int.toNat_natCast]
          rw [if_neg (by omega), if_pos (by simpa using z2)]
        rw [hf] at hk
        refine b_one (ds_ret (d_tup (da_cons (d_var 4) (da_cons (De.to (d_add (d_var 3) (d_globI T.c_SUM_OCTETS)) (d' := .int ((e + m + 2 : Nat) : Int)) (by congr 1)) da_nil))) hk)
theorem c_frame_at {ns : List Int} {i : Nat} (T : Top κ.K κ.mg) (ha : De κ r a Γ (tpI ns)) (hb : De κ r b Γ (.int i)) (ho : Oct ns) (h1 : ns.length ≤ 1000000) (h2 : i ≤ 1000000) (hl : 3 ≤ κ.lv := by exact Nat.le_of_ble_eq_true rfl) (hg : κ.sc.names.lookup ("frame_at" : Str) = some .globalImplicit := by rfl) (pl : Pl a := by intro _ _; rfl) (pl2 : Pl b := by intro _ _; rfl) : De κ r (.Call (.Name "frame_at" p) [a, b] [] pos) Γ (dFrame (frameAt ns i)) :=
  callD T.d_frame_at (fun P w base fd F => ok_frame_at T P w base fd F) bd_frame_at hl T.g_frame_at hg (da_cons ha (da_cons hb da_nil (fun X _ => pl2 X.env [])) (fun X _ => pl X.env [b])) (by rintro _ rfl C; exact ⟨ns, i, rfl, ho, h1, h2, rfl⟩) (by decide) (fun X _ => pl X.env [b]) (fun X _ => by rw [pl2 X.env []]; rfl)
/-- the bodies of the frames from a place on, and the place behind the last -/
inductive Chain (ns : List Int) : Nat → List (List Int) → Nat → Prop where
  | nil {a : Nat} : frameAt ns a = none → Chain ns a [] a
  | cons {a a' e : Nat} {b : List Int} {bs : List (List Int)} : frameAt ns a = some (b, a') → Chain ns a' bs e → Chain ns a (b :: bs) e
theorem frameAt_le {ns : List Int} (ho : Oct ns) {a a' : Nat} {b : List Int} (h : frameAt ns a = some (b, a')) : a + 2 < a' ∧ a' ≤ ns.length := by
  unfold frameAt at h
  cases hr : readNum ns a with
  | none => rw [hr] at h; cases h
  | some ve =>
    obtain ⟨v, e⟩ := ve
    rw [hr] at h
    obtain ⟨hb, hv, hv0, h1, h2⟩ := readNum_spec ho hr
    simp only at h
    split at h
    · cases h
    · split at h
      · cases h
        omega
      · cases h
theorem Chain.le {ns : List Int} (ho : Oct ns) {a e : Nat} {bs : List (List Int)} (c : Chain ns a bs e) : a + bs.length ≤ e ∧ (a ≤ ns.length → e ≤ ns.length) := by
  induction c with
  | nil => simp
  | cons h _ ih =>
    have := frameAt_le ho h
    rw [List.length_cons]
    omega
def a_frames : Do := fun _ ds k => ∃ (ns : List Int) (bs : List (List Int)) (e : Nat), ds = [tpI ns] ∧ Oct ns ∧ ns.length ≤ 1000000 ∧ Chain ns 0 bs e ∧ k (.tup [.tup (bs.map tpI), .int e])
theorem ok_frames (T : Top K mg) (P : Program) (w : World) (base : Heap) (fd : FuncData) (F : FnP K "frames" st_frames f fd) : FnOk P w K mg base CX0 4 f fd ["octets"] (spD K a_frames) := by
  refine fn_D (lv := 3) F sc_frames (fun r ds k h => by obtain ⟨ns, bs, e, rfl, _⟩ := h; rfl) fun cdv A' outer s H E hr r ds k h => ?_
  obtain ⟨ns, bs, e, rfl, ho, hl, hc, hk⟩ := h
  show Bk _ r _ [.val _, .no, .no, .no] _
  have hbl := (hc.le ho).1
  have hel := (hc.le ho).2 (Nat.zero_le _)
  refine b_cons (ds_par 1 2 (dv_new (n_lst da_nil) (dv_val d_int dv_nil)) ?_)
  show Bk _ r _ [.val _, .own _, .val _, .no] _
  refine b_cons (ds_set 3 (c_frame_at (i := 0) T (d_var 0) d_int ho hl (by omega)) ?_)
  show Bk _ r _ [.val _, .own _, .val _, .val _] _
  refine b_cons (s_while (fun m Γ => ∃ (dn rs : List (List Int)) (a : Nat), m = rs.length ∧ bs = dn ++ rs ∧ a ≤ ns.length ∧ Chain ns a rs e ∧ Γ = [.val (tpI ns), .own (dn.map tpI), .val (.int a), .val (dFrame (frameAt ns a))]) (m0 := bs.length) ⟨[], bs, 0, rfl, rfl, Nat.zero_le _, hc, rfl⟩ ?_)
  rintro m _ ⟨dn, rs, a, rfl, eb, hal, hc', rfl⟩
  cases hc' with
  | nil hn =>
    rw [hn]
    refine ⟨_, dt_notN (d := .non) (d_var 3) d_non rfl, fun z => absurd z (by simp [D.isNone]), fun _ => ?_⟩
    refine b_freeze (i := 1) rfl ?_
    show Bk _ r _ [.val _, .val _, .val _, .val _] _
    rw [List.append_nil] at eb
    subst eb
    exact b_one (ds_ret (d_tup (da_cons (d_tupleL T.m_tuple (d_var 1)) (da_cons (d_var 2) da_nil))) hk)
  | @cons _ a' _ b rs' hf hc2 =>
    rw [hf]
    have hle := frameAt_le ho hf
    refine ⟨_, dt_notN (d := .tup [tpI b, .int a']) (d_var 3) d_non rfl, fun _ => ?_, fun z => absurd z (by simp [D.isNone])⟩
    refine b_cons (ds_append 1 rfl (d_ixT (ds := [tpI b, .int a']) (d_var 3) d_int (at_nat (j := 0) rfl)) ?_ (by rw [List.length_map]; have := congrArg List.length eb; rw [List.length_append] at this; omega))
    show Bk _ r _ [.val _, .own _, .val _, .val _] _
    refine b_cons (ds_set 2 (d_ixT (ds := [tpI b, .int a']) (d_var 3) d_int (at_nat (j := 1) rfl)) ?_)
    show Bk _ r _ [.val _, .own _, .val _, .val _] _
    refine b_one (ds_set 3 (c_frame_at (i := a') T (d_var 0) (d_var 2) ho hl (by omega)) ?_)
    refine Up.by (Γ' := [.val (tpI ns), .own ((dn ++ [b]).map tpI), .val (.int a'), .val (dFrame (frameAt ns a'))]) (.eq (.own (by rw [List.map_append]; rfl) (.eq (.eq .nil)))) ⟨rs'.length, by simp, dn ++ [b], rs', a', rfl, by rw [eb]; simp, hle.2, hc2, rfl⟩
theorem c_frames {ns : List Int} {bs : List (List Int)} {e : Nat} (T : Top κ.K κ.mg) (ha : De κ r a Γ (tpI ns)) (ho : Oct ns) (h1 : ns.length ≤ 1000000) (hc : Chain ns 0 bs e) (hl : 4 ≤ κ.lv := by exact Nat.le_of_ble_eq_true rfl) (hg : κ.sc.names.lookup ("frames" : Str) = some .globalImplicit := by rfl) (pl : Pl a := by intro _ _; rfl) : De κ r (.Call (.Name "frames" p) [a] [] pos) Γ (.tup [.tup (bs.map tpI), .int e]) :=
  callD T.d_frames (fun P w base fd F => ok_frames T P w base fd F) bd_frames hl T.g_frames hg (da_cons ha da_nil (fun X _ => pl X.env [])) (by rintro _ rfl C; exact ⟨ns, bs, e, rfl, ho, h1, hc, rfl⟩) (by decide) (fun X _ => pl X.env []) (fun _ _ => rfl)
theorem c_framesK {ns : List Int} {bs : List (List Int)} {e : Nat} {kp : Pos} (T : Top κ.K κ.mg) (ha : De κ r a Γ (tpI ns)) (ho : Oct ns) (h1 : ns.length ≤ 1000000) (hc : Chain ns 0 bs e) (hl : 4 ≤ κ.lv := by exact Nat.le_of_ble_eq_true rfl) (hg : κ.sc.names.lookup ("frames" : Str) = some .globalImplicit := by rfl) : De κ r (.Call (.Name "frames" p) [] [⟨some "octets", a, kp⟩] pos) Γ (.tup [.tup (bs.map tpI), .int e]) :=
  callK1 T.d_frames (fun P w base fd F => ok_frames T P w base fd F) (fun fd F => kb1 (bd_frames fd F) (bindsK1 F fun _ _ _ _ _ _ _ => rfl)) hl T.g_frames hg ha (by rintro _ rfl C; exact ⟨ns, bs, e, rfl, ho, h1, hc, rfl⟩) (by decide)
end
end K84

set_option Elab.async false
set_option linter.all false
set_option maxRecDepth 100000
set_option maxHeartbeats 1000000
namespace K84
open PySem PySem.Spec PyProof.Rows L2 Dv
section
variable {P : Program} {w : World} {K : PySem.W.Frag} {mg : Str → Option Value} {base : Heap} {f : Addr} {fd : FuncData}
variable {κ : Kx} {r : Reg} {Γ : Gm} {a b c : Expr} {pos p : Pos}
/-! ### _law_same: against an int -/
def sameI : D → Int → Bool
  | .int i, j => decide (i = j)
  | _, _ => false
def a_same : Do := fun _ ds k => ∃ (i j : Int), ds = [.int i, .int j] ∧ k (.bl (decide (i = j)))
theorem ok_same (T : Top K mg) (P : Program) (w : World) (base : Heap) (fd : FuncData) (F : FnP K "_law_same" st_law_same f fd) : FnOk P w K mg base CX0 1 f fd ["told", "due"] (spD K a_same) := by
  refine fn_D (lv := 0) F sc_law_same (fun r ds k h => by obtain ⟨i, j, rfl, _⟩ := h; rfl) fun cdv A' outer s H E hr r ds k h => ?_
  obtain ⟨i, j, rfl, hk⟩ := h
  show Bk _ r _ [.val _, .val _, .no] _
  refine b_cons (ds_if (b := false) (dt_val (d_isi T.m_isinstance (d_var 1) (d_ty (T := "tuple") T.m_tuple (by decide +kernel)) rfl (by kernel_rfl))) (fun z => nomatch z) (fun _ => b_nil ?_))
  refine b_cons (ds_if (b := false) (dt_isN (d := .int j) (d_var 1) d_non rfl) (fun z => nomatch z) (fun _ => b_nil ?_))
  refine b_cons (ds_if (b := false) (dt_val (d_isi T.m_isinstance (d_var 1) (d_ty (T := "bool") T.m_bool (by decide +kernel)) rfl (by kernel_rfl))) (fun z => nomatch z) (fun _ => b_nil ?_))
  refine b_cons (ds_if (b := true) (dt_val (d_isi T.m_isinstance (d_var 1) (d_ty (T := "int") T.m_int (by decide +kernel)) rfl (by kernel_rfl))) (fun _ => ?_) (fun z => nomatch z))
  refine b_one (ds_ret (d := .bl (true && (true && decide (i = j)))) (d_and (d_isi T.m_isinstance (d_var 0) (d_ty (T := "int") T.m_int (by decide +kernel)) rfl (by kernel_rfl)) (fun _ => d_and (b1 := true) (d_not (b := false) (d_isi T.m_isinstance (d_var 0) (d_ty (T := "bool") T.m_bool (by decide +kernel)) rfl (by kernel_rfl))) (fun _ => d_one (d_eq (d_var 0) (d_var 1))))) ?_)
  exact hk
theorem c_same {i j : Int} (T : Top κ.K κ.mg) (ha : De κ r a Γ (.int i)) (hb : De κ r b Γ (.int j)) (hl : 1 ≤ κ.lv := by exact Nat.le_of_ble_eq_true rfl) (hg : κ.sc.names.lookup ("_law_same" : Str) = some .globalImplicit := by rfl) (pl : Pl a := by intro _ _; rfl) (pl2 : Pl b := by intro _ _; rfl) : De κ r (.Call (.Name "_law_same" p) [a, b] [] pos) Γ (.bl (decide (i = j))) :=
  callD T.d_law_same (fun P w base fd F => ok_same T P w base fd F) bd_law_same hl T.g_law_same hg (da_cons ha (da_cons hb da_nil (fun X _ => pl2 X.env [])) (fun X _ => pl X.env [b])) (by rintro _ rfl C; exact ⟨i, j, rfl, rfl⟩) (by decide) (fun X _ => pl X.env [b]) (fun X _ => by rw [pl2 X.env []]; rfl)
/-! ### _law_counted, _law_long -/
def countedOf (n : Nat) : List Int := if n < 128 then [(n : Int)] else [(n : Int) % 128 + 128, n / 128]
def a_counted : Do := fun _ ds k => ∃ (n : Nat), ds = [.int n] ∧ k (lsI (countedOf n))
theorem ok_counted (T : Top K mg) (P : Program) (w : World) (base : Heap) (fd : FuncData) (F : FnP K "_law_counted" st_law_counted f fd) : FnOk P w K mg base CX0 1 f fd ["many"] (spD K a_counted) := by
  refine fn_D (lv := 0) F sc_law_counted (fun r ds k h => by obtain ⟨i, rfl, _⟩ := h; rfl) fun cdv A' outer s H E hr r ds k h => ?_
  obtain ⟨n, rfl, hk⟩ := h
  show Bk _ r _ [.val _] _
  refine b_one (ds_ret (d := lsI (countedOf n)) (d_ixL (Dn.de (n_lst (da_cons (Dn.de (n_lst (da_cons (d_var 0) da_nil))) (da_cons (Dn.de (n_lst (da_cons (d_add (d_mod (d_intI T.m_int (d_var 0)) d_int (by decide)) d_int) (da_cons (d_fdiv (d_var 0) d_int (by unfold CDiv; omega)) da_nil)))) da_nil)))) (d_intB T.m_int (d_ge (d_var 0) d_int)) ?_) hk)
  unfold countedOf
  by_cases h : n < 128
  · rw [if_pos h, if_neg (by simp; omega)]
    exact at_nat (j := 0) rfl
  · rw [if_neg h, if_pos (by simp; omega)]
    exact at_nat (j := 1) rfl
theorem c_counted {n : Nat} (T : Top κ.K κ.mg) (ha : De κ r a Γ (.int n)) (hl : 1 ≤ κ.lv := by exact Nat.le_of_ble_eq_true rfl) (hg : κ.sc.names.lookup ("_law_counted" : Str) = some .globalImplicit := by rfl) (pl : Pl a := by intro _ _; rfl) : De κ r (.Call (.Name "_law_counted" p) [a] [] pos) Γ (lsI (countedOf n)) :=
  callD T.d_law_counted (fun P w base fd F => ok_counted T P w base fd F) bd_law_counted hl T.g_law_counted hg (da_cons ha da_nil (fun X _ => pl X.env [])) (by rintro _ rfl C; exact ⟨n, rfl, rfl⟩) (by decide) (fun X _ => pl X.env []) (fun _ _ => rfl)
def longOf (n : Nat) : List Int := if n < 16384 then countedOf n else [(n : Int) % 128 + 128, (n / 128 : Int) % 128 + 128, n / 16384]
def a_long : Do := fun _ ds k => ∃ (n : Nat), ds = [.int n] ∧ k (lsI (longOf n))
theorem ok_long (T : Top K mg) (P : Program) (w : World) (base : Heap) (fd : FuncData) (F : FnP K "_law_long" st_law_long f fd) : FnOk P w K mg base CX0 2 f fd ["many"] (spD K a_long) := by
  refine fn_D (lv := 1) F sc_law_long (fun r ds k h => by obtain ⟨i, rfl, _⟩ := h; rfl) fun cdv A' outer s H E hr r ds k h => ?_
  obtain ⟨n, rfl, hk⟩ := h
  show Bk _ r _ [.val _] _
  refine b_cons (ds_if (dt_lt (d_var 0) d_int) (fun z => ?_) (fun z => b_nil ?_))
  · have z := of_decide_eq_true z
    have e : longOf n = countedOf n := if_pos (by omega)
    rw [e] at hk
    exact b_one (ds_ret (c_counted T (d_var 0)) hk)
  · have z := of_decide_eq_false z
    have e : longOf n = [(n : Int) % 128 + 128, (n / 128 : Int) % 128 + 128, n / 16384] := if_neg (by omega)
    rw [e] at hk
    exact b_one (ds_ret (Dn.de (n_lst (da_cons (d_add (d_mod (d_intI T.m_int (d_var 0)) d_int (by decide)) d_int) (da_cons (d_add (d_mod (d_intI T.m_int (d_fdiv (d_var 0) d_int (by unfold CDiv; omega))) d_int (by decide)) d_int) (da_cons (d_fdiv (d_var 0) d_int (by unfold CDiv; omega)) da_nil))))) hk)
theorem c_long {n : Nat} (T : Top κ.K κ.mg) (ha : De κ r a Γ (.int n)) (hl : 2 ≤ κ.lv := by exact Nat.le_of_ble_eq_true rfl) (hg : κ.sc.names.lookup ("_law_long" : Str) = some .globalImplicit := by rfl) (pl : Pl a := by intro _ _; rfl) : De κ r (.Call (.Name "_law_long" p) [a] [] pos) Γ (lsI (longOf n)) :=
  callD T.d_law_long (fun P w base fd F => ok_long T P w base fd F) bd_law_long hl T.g_law_long hg (da_cons ha da_nil (fun X _ => pl X.env [])) (by rintro _ rfl C; exact ⟨n, rfl, rfl⟩) (by decide) (fun X _ => pl X.env []) (fun _ _ => rfl)
theorem longOf_len (n : Nat) : 1 ≤ (longOf n).length ∧ (longOf n).length ≤ 3 := by
  unfold longOf countedOf
  split
  · split <;> simp
  · simp
/-! ### _law_summed -/
def a_summed : Do := fun _ ds k => ∃ ns : List Int, ds = [lsI ns] ∧ ns.length ≤ 1000000 ∧ k (lsI (sumPair ns))
theorem ok_summed (T : Top K mg) (P : Program) (w : World) (base : Heap) (fd : FuncData) (F : FnP K "_law_summed" st_law_summed f fd) : FnOk P w K mg base CX0 1 f fd ["body"] (spD K a_summed) := by
  refine fn_D (lv := 0) F sc_law_summed (fun r ds k h => by obtain ⟨i, rfl, _⟩ := h; rfl) fun cdv A' outer s H E hr r ds k h => ?_
  obtain ⟨ns, rfl, hl, hk⟩ := h
  show Bk _ r _ [.val _, .no, .no] _
  refine b_cons (ds_set (d := .int (octSum ns)) 1 (De.to (d_mod (d_intI T.m_int (d_sum (ns := (List.range ns.length).map fun i : Nat => ((i : Int) + 1) * ns.getD i 0) T.m_sum (De.to (Dn.de (dn_lc (j := 2) (dlc (fun i => D.int (((i : Int) + 1) * ns.getD i 0)) (di_rng (n := ns.length) T.m_range (d_lenL T.m_len (d_var 0)) (by rw [List.length_map]; omega) (by omega) (by omega)) (by rw [rngD_len]; omega) ?elt))) ?eq))) d_int (by decide)) rfl) ?_)
  case elt =>
    intro i d hd
    obtain ⟨hi, rfl⟩ := rng0_get hd
    exact d_mul (d_add (d_var 2) d_int) (d_ixL (d_var 0) (d_var 2) (at_I rfl hi)) (.inl (by omega))
  case eq => rw [rngD_len]; show D.lst _ = D.lst _; rw [List.map_map]; rfl
  show Bk _ r _ [.val _, .val _, .no] _
  have := octSum_range ns
  exact b_one (ds_ret (Dn.de (n_lst (da_cons (d_mod (d_intI T.m_int (d_var 1)) d_int (by decide)) (da_cons (d_fdiv (d_var 1) d_int (by unfold CDiv; omega)) da_nil)))) hk)
theorem c_summed {ns : List Int} (T : Top κ.K κ.mg) (ha : De κ r a Γ (lsI ns)) (hn : ns.length ≤ 1000000) (hl : 1 ≤ κ.lv := by exact Nat.le_of_ble_eq_true rfl) (hg : κ.sc.names.lookup ("_law_summed" : Str) = some .globalImplicit := by rfl) (pl : Pl a := by intro _ _; rfl) : De κ r (.Call (.Name "_law_summed" p) [a] [] pos) Γ (lsI (sumPair ns)) :=
  callD T.d_law_summed (fun P w base fd F => ok_summed T P w base fd F) bd_law_summed hl T.g_law_summed hg (da_cons ha da_nil (fun X _ => pl X.env [])) (by rintro _ rfl C; exact ⟨ns, rfl, hn, rfl⟩) (by decide) (fun X _ => pl X.env []) (fun _ _ => rfl)
/-! ### _law_flat -/
def a_flat : Do := fun _ ds k => ∃ nss : List (List Int), ds = [.lst (nss.map lsI)] ∧ nss.flatten.length ≤ 1000000 ∧ k (lsI nss.flatten)
theorem ok_flat (T : Top K mg) (P : Program) (w : World) (base : Heap) (fd : FuncData) (F : FnP K "_law_flat" st_law_flat f fd) : FnOk P w K mg base CX0 1 f fd ["rows"] (spD K a_flat) := by
  refine fn_D (lv := 0) F sc_law_flat (fun r ds k h => by obtain ⟨i, rfl, _⟩ := h; rfl) fun cdv A' outer s H E hr r ds k h => ?_
  obtain ⟨nss, rfl, hl, hk⟩ := h
  show Bk _ r _ [.val _, .no, .no] _
  refine b_cons (ds_new 1 (n_lst da_nil) ?_)
  show Bk _ r _ [.val _, .own _, .no] _
  refine b_cons (s_for (g := gName 2) (fun _ i Γ => Γ = [.val (.lst (nss.map lsI)), .own ((nss.take i).flatten.map D.int), .no]) (di_list (d_var 0)) (fun X hX => pg_name' (i := 2) sto hX) (fun _ _ => rfl) ?turn ?done)
  case turn =>
    rintro _ i d _ rfl hd rfl
    rw [List.getElem?_map] at hd
    cases q : nss[i]? with
    | none => rw [q] at hd; cases hd
    | some ns =>
      rw [q] at hd
      cases hd
      have e1 : (nss.take (i + 1)).flatten = (nss.take i).flatten ++ ns := by
        rw [List.take_add_one, q, List.flatten_append]; simp
      have e2 : (nss.take (i + 1)).flatten.length ≤ nss.flatten.length := by
        conv => rhs; rw [← List.take_append_drop (i + 1) nss, List.flatten_append, List.length_append]
        omega
      refine ⟨_, tg_name 2 _, b_one (ds_extend 1 rfl (d_var 2) (Up.by (Γ' := [.val (.lst (nss.map lsI)), .own ((nss.take (i + 1)).flatten.map D.int), .no]) (.eq (.own ?_ (.no .nil))) rfl) ?_)⟩
      · rw [e1, List.map_append]
      · rw [e1, List.length_append] at e2
        rw [List.length_map, List.length_map]; omega
  case done =>
    rintro _ _ rfl rfl
    rw [List.length_map, List.take_length]
    refine b_freeze (i := 1) rfl ?_
    show Bk _ r _ [.val _, .val _, .no] _
    exact b_one (ds_ret (d_var 1) hk)
theorem c_flat {nss : List (List Int)} (T : Top κ.K κ.mg) (ha : De κ r a Γ (.lst (nss.map lsI))) (hn : nss.flatten.length ≤ 1000000) (hl : 1 ≤ κ.lv := by exact Nat.le_of_ble_eq_true rfl) (hg : κ.sc.names.lookup ("_law_flat" : Str) = some .globalImplicit := by rfl) (pl : Pl a := by intro _ _; rfl) : De κ r (.Call (.Name "_law_flat" p) [a] [] pos) Γ (lsI nss.flatten) :=
  callD T.d_law_flat (fun P w base fd F => ok_flat T P w base fd F) bd_law_flat hl T.g_law_flat hg (da_cons ha da_nil (fun X _ => pl X.env [])) (by rintro _ rfl C; exact ⟨nss, rfl, hn, rfl⟩) (by decide) (fun X _ => pl X.env []) (fun _ _ => rfl)
/-! ### _law_is_row, _law_is_told -/
def a_is_row : Do := fun _ ds k => ∃ (ns ms : List Int), ds = [tpI ns, lsI ms] ∧ ns.length ≤ 1000000 ∧ k (.bl (decide (ns = ms)))
theorem ok_is_row (T : Top K mg) (P : Program) (w : World) (base : Heap) (fd : FuncData) (F : FnP K "_law_is_row" st_law_is_row f fd) : FnOk P w K mg base CX0 1 f fd ["told", "due"] (spD K a_is_row) := by
  refine fn_D (lv := 0) F sc_law_is_row (fun r ds k h => by obtain ⟨i, j, rfl, _⟩ := h; rfl) fun cdv A' outer s H E hr r ds k h => ?_
  obtain ⟨ns, ms, rfl, hl, hk⟩ := h
  show Bk _ r _ [.val _, .val _, .no] _
  refine b_cons (ds_if (b := false || !decide (((ns.map D.int).length : Int) = (ms.map D.int).length)) (Pw.pt (dw_or (b1 := false) (dt_not (b := true) (dt_val (d_isi T.m_isinstance (d_var 0) (d_ty (T := "tuple") T.m_tuple (by decide +kernel)) rfl (by kernel_rfl)))) (fun _ => dw_oneO (dt_ne (d_lenT T.m_len (d_var 0)) (d_lenL T.m_len (d_var 1)))))) (fun z => ?_) (fun z => b_nil ?_))
  · rw [Bool.false_or, Bool.not_eq_true', decide_eq_false_iff_not] at z
    have : decide (ns = ms) = false := decide_eq_false fun e => z (by rw [e])
    rw [this] at hk
    exact b_one (ds_ret d_bl hk)
  · refine b_one (ds_ret (d := .bl (decide (([] : List Int) = []) && decide (ns = ms))) (d_and (d_eqLL (ns := []) (ms := []) (Dn.de (n_lcIf (j := 2) (lc_if (ki := fun z => z = ns.map D.int) (fun _ _ acc => acc = []) (di_tup (d_var 0)) (by rintro _ rfl; rw [List.length_map]; exact hl) (fun _ _ => rfl) ?elt (by rintro _ acc rfl rfl; rfl)) sto (blkOk_by (by kernel_rfl)))) (Dn.de (n_lst da_nil))) (fun _ => d_one (d_eqLL (Dn.de (n_listT T.m_list (d_var 0))) (Dn.de (n_listL T.m_list (d_var 1)))))) ?_)
    case elt =>
      rintro _ i d acc rfl hd rfl
      rw [List.getElem?_map] at hd
      cases q : ns[i]? with
      | none => rw [q] at hd; cases hd
      | some n =>
        rw [q] at hd
        cases hd
        refine ⟨fun b => b = (false || false), Pw.pt (dw_or (b1 := false) (dt_not (b := true) (dt_val (d_isi T.m_isinstance (d_var 2) (d_ty (T := "int") T.m_int (by decide +kernel)) rfl (by kernel_rfl)))) (fun _ => dw_oneO (dt_val (d_isi T.m_isinstance (d_var 2) (d_ty (T := "bool") T.m_bool (by decide +kernel)) rfl (by kernel_rfl))))), fun z => absurd z (by decide), fun _ => rfl⟩
    · simpa using hk
theorem c_is_row {ns ms : List Int} (T : Top κ.K κ.mg) (ha : De κ r a Γ (tpI ns)) (hb : De κ r b Γ (lsI ms)) (hn : ns.length ≤ 1000000) (hl : 1 ≤ κ.lv := by exact Nat.le_of_ble_eq_true rfl) (hg : κ.sc.names.lookup ("_law_is_row" : Str) = some .globalImplicit := by rfl) (pl : Pl a := by intro _ _; rfl) (pl2 : Pl b := by intro _ _; rfl) : De κ r (.Call (.Name "_law_is_row" p) [a, b] [] pos) Γ (.bl (decide (ns = ms))) :=
  callD T.d_law_is_row (fun P w base fd F => ok_is_row T P w base fd F) bd_law_is_row hl T.g_law_is_row hg (da_cons ha (da_cons hb da_nil (fun X _ => pl2 X.env [])) (fun X _ => pl X.env [b])) (by rintro _ rfl C; exact ⟨ns, ms, rfl, hn, rfl⟩) (by decide) (fun X _ => pl X.env [b]) (fun X _ => by rw [pl2 X.env []]; rfl)
/-- all is as it is due -/
def a_is_told : Do := fun _ ds k => ∃ (bs : List (List Int)) (e : Int), ds = [.tup [.tup (bs.map tpI), .int e], .lst (bs.map lsI), .int e] ∧ (∀ b ∈ bs, b.length ≤ 1000000) ∧ bs.length ≤ 1000000 ∧ k (.bl true)
theorem ok_is_told (T : Top K mg) (P : Program) (w : World) (base : Heap) (fd : FuncData) (F : FnP K "_law_is_told" st_law_is_told f fd) : FnOk P w K mg base CX0 2 f fd ["told", "bodies", "behind"] (spD K a_is_told) := by
  refine fn_D (lv := 1) F sc_law_is_told (fun r ds k h => by obtain ⟨i, j, rfl, _⟩ := h; rfl) fun cdv A' outer s H E hr r ds k h => ?_
  obtain ⟨bs, e, rfl, hb, hl, hk⟩ := h
  show Bk _ r _ [.val _, .val _, .val _, .no] _
  have t0 : ∀ {κ : Kx} {r : Reg} {Γ : Gm} {c : Expr} {pos kp : Pos} {j}, De κ r c Γ (.tup [.tup (bs.map tpI), .int e]) → De κ r (.Subscript c (.Constant (.int 0) j kp) pos) Γ (.tup (bs.map tpI)) := fun h => d_ixT h d_int (at_nat (j := 0) rfl)
  have t1 : ∀ {κ : Kx} {r : Reg} {Γ : Gm} {c : Expr} {pos kp : Pos} {j}, De κ r c Γ (.tup [.tup (bs.map tpI), .int e]) → De κ r (.Subscript c (.Constant (.int 1) j kp) pos) Γ (.int e) := fun h => d_ixT h d_int (at_nat (j := 1) rfl)
  refine b_cons (ds_if (b := false || (false || (false || false))) (Pw.pt (dw_or (b1 := false) (dt_not (b := true) (dt_val (d_isi T.m_isinstance (d_var 0) (d_ty (T := "tuple") T.m_tuple (by decide +kernel)) rfl (by kernel_rfl)))) (fun _ => dw_or (b1 := false) (Dt.to (dt_ne (d_lenT T.m_len (d_var 0)) d_int) (by simp)) (fun _ => dw_or (b1 := false) (dt_not (b := true) (dt_val (d_isi T.m_isinstance (t0 (d_var 0)) (d_ty (T := "tuple") T.m_tuple (by decide +kernel)) rfl (by kernel_rfl)))) (fun _ => dw_oneO (Dt.to (dt_ne (d_lenT T.m_len (t0 (d_var 0))) (d_lenL T.m_len (d_var 1))) (by simp))))))) (fun z => nomatch z) (fun _ => b_nil ?_))
  refine b_cons (s_for (g := gName 3) (fun _ i Γ => Γ = [.val (.tup [.tup (bs.map tpI), .int e]), .val (.lst (bs.map lsI)), .val (.int e), .no]) (di_rng (n := bs.length) T.m_range (d_lenL T.m_len (d_var 1)) (by rw [List.length_map]; omega) (by omega) (by omega)) (fun X hX => pg_name' (i := 3) sto hX) (fun _ _ => rfl) ?turn ?done)
  case turn =>
    rintro _ i d _ rfl hd rfl
    obtain ⟨hi, rfl⟩ := rng0_get hd
    have q : bs[i]? = some bs[i] := List.getElem?_eq_getElem hi
    refine ⟨_, tg_name 3 _, b_one (ds_if (b := false) (Dt.to (dt_not (dt_val (c_is_row T (d_ixT (t0 (d_var 0)) (d_var 3) (at_nat (j := i) (d := tpI bs[i]) (by rw [List.getElem?_map, q]; rfl))) (d_ixL (d_var 1) (d_var 3) (at_nat (j := i) (d := lsI bs[i]) (by rw [List.getElem?_map, q]; rfl))) (hb _ (List.getElem_mem hi))))) (by simp)) (fun z => nomatch z) (fun _ => b_nil (Up.by (.eq (.eq (.eq (.no .nil)))) rfl)))⟩
  case done =>
    rintro _ _ rfl rfl
    refine b_one (ds_ret (De.to (c_same T (t1 (d_var 0)) (d_var 2)) (d' := .bl true) (by simp)) hk)
theorem c_is_told {bs : List (List Int)} {e : Int} (T : Top κ.K κ.mg) (ha : De κ r a Γ (.tup [.tup (bs.map tpI), .int e])) (hb : De κ r b Γ (.lst (bs.map lsI))) (hc : De κ r c Γ (.int e)) (h1 : ∀ b ∈ bs, b.length ≤ 1000000) (h2 : bs.length ≤ 1000000) (hl : 2 ≤ κ.lv := by exact Nat.le_of_ble_eq_true rfl) (hg : κ.sc.names.lookup ("_law_is_told" : Str) = some .globalImplicit := by rfl) (pl : Pl a := by intro _ _; rfl) (pl2 : Pl b := by intro _ _; rfl) (pl3 : Pl c := by intro _ _; rfl) : De κ r (.Call (.Name "_law_is_told" p) [a, b, c] [] pos) Γ (.bl true) :=
  callD T.d_law_is_told (fun P w base fd F => ok_is_told T P w base fd F) bd_law_is_told hl T.g_law_is_told hg (da_cons ha (da_cons hb (da_cons hc da_nil (fun X _ => pl3 X.env [])) (fun X _ => pl2 X.env [c])) (fun X _ => pl X.env [b, c])) (by rintro _ rfl C; exact ⟨bs, e, rfl, h1, h2, rfl⟩) (by decide) (fun X _ => pl X.env [b, c]) (fun X _ => by rw [pl2 X.env [c], pl3 X.env []]; rfl)
end
end K84

set_option Elab.async false
set_option linter.all false
set_option maxRecDepth 100000
set_option maxHeartbeats 1000000
namespace K84
open PySem PySem.Spec PyProof.Rows L2 Dv
section
variable {P : Program} {w : World} {K : PySem.W.Frag} {mg : Str → Option Value} {base : Heap} {f : Addr} {fd : FuncData}
variable {κ : Kx} {r : Reg} {Γ : Gm} {a b c : Expr} {pos p : Pos}
theorem at_last {ms : List Int} {n : Int} : L2.atI ((ms ++ [n]).map D.int) (-1) = some (.int n) := by
  have e : L2.ixN ((ms ++ [n]).map D.int).length (-1) = some ms.length := by
    unfold L2.ixN
    rw [if_neg (by decide), List.length_map, List.length_append, List.length_singleton, if_pos (by omega)]
    congr 1
    omega
  unfold L2.atI
  rw [e]
  show ((ms ++ [n]).map D.int)[ms.length]? = _
  rw [List.getElem?_map, List.getElem?_concat_length]; rfl
def a_any : Do := fun r ds k => ∃ (v : V) (n : Int), ds = [.raw v, .int n] ∧ 0 < n ∧ n < 1073741824 ∧ Draws r v ∧ ∀ m : Nat, (m : Int) < n → k (.int m)
def anyF (z : DSt) : Bool := !decide (z.ns = []) && decide (z.ns.getLastD 0 = 0)
theorem split_last (ns : List Int) (h : ns ≠ []) : ∃ ms, ns = ms ++ [ns.getLastD 0] := by
  have e := (List.dropLast_concat_getLast h).symm
  refine ⟨ns.dropLast, ?_⟩
  rw [e, List.getLastD_concat]
  rw [← e]; exact e
theorem ok_any (T : Top K mg) (P : Program) (w : World) (base : Heap) (fd : FuncData) (F : FnP K "_law_any" st_law_any f fd) : FnOk P w K mg base CX0 1 f fd ["deal", "bound"] (spD K a_any) := by
  refine fn_D (lv := 0) F sc_law_any (fun r ds k h => by obtain ⟨i, j, rfl, _⟩ := h; rfl) fun cdv A' outer s H E hr r ds k h => ?_
  obtain ⟨v, bd, rfl, hb0, hb1, hd, hk⟩ := h
  show Bk _ r _ [.val (.raw v), .val (.int bd), .no] _
  refine bd_start hd fun a s z ev d g => ?_
  subst ev
  have fst0 : ∀ {κ : Kx} {r : Reg} {Γ : Gm} {e : Expr} {pos kp : Pos} {j} {z : DSt}, De κ r e Γ z.data → De κ r (.Subscript e (.Constant (.int 0) j kp) pos) Γ (lsI z.ns) := fun h => d_ixL h d_int (at_nat (j := 0) rfl)
  have fst1 : ∀ {κ : Kx} {r : Reg} {Γ : Gm} {e : Expr} {pos kp : Pos} {j} {z : DSt}, De κ r e Γ z.data → De κ r (.Subscript e (.Constant (.int 1) j kp) pos) Γ (.int z.mix) := fun h => d_ixL h d_int (at_nat (j := 1) rfl)
  have fst2 : ∀ {κ : Kx} {r : Reg} {Γ : Gm} {e : Expr} {pos kp : Pos} {j} {z : DSt}, De κ r e Γ z.data → De κ r (.Subscript e (.Constant (.int 2) j kp) pos) Γ (.int z.cnt) := fun h => d_ixL h d_int (at_nat (j := 2) rfl)
  refine bd_while (i := 0) (f := anyF) d g rfl (fun z g => Pw.pt (dw_and (dt_neLL (fst0 (d_var 0)) (Dn.de (n_lst da_nil))) fun hne => dw_one (dt_eq (d_ixL (fst0 (d_var 0)) (d_neg d_int) ?last) d_int))) (fun z g hf => ?body) fun z g hf => ?_
  case last =>
    obtain ⟨ms, e⟩ := split_last z.ns (by simpa using hne)
    rw [e]
    simp only [List.getLastD_concat]
    exact at_last
  case body =>
    unfold anyF at hf
    rw [Bool.and_eq_true] at hf
    obtain ⟨ms, e⟩ := split_last z.ns (by simpa using hf.1)
    refine ⟨{ z with ns := ms }, g.pop e, ?_, pd_pop 0 d g rfl e⟩
    rw [e, List.length_append]; simp
  refine bd_if (i := 0) (b := !decide (z.ns = [])) d g rfl (dt_neLL (fst0 (d_var 0)) (Dn.de (n_lst da_nil))) (fun hb => ?_) fun hb => ?_
  · obtain ⟨ms, e⟩ := split_last z.ns (by simpa using hb)
    have g1 := g.pop e
    have n0 : 0 ≤ z.ns.getLastD 0 := g.1 _ (by rw [e]; simp)
    have l1 : ms.length < 64 := by
      have := g.2.1
      rw [e, List.length_append] at this
      exact this
    have q0 : 0 ≤ z.ns.getLastD 0 / bd := Int.ediv_nonneg n0 (by omega)
    refine bd_cons (pd_take 0 2 d g rfl e T.m_int) ?_
    refine bd_cons (pd_app 0 d g1 rfl (d_fdiv (d_var 2) (d_var 1) ⟨hb0, hb1⟩) q0 l1) ?_
    refine bd_ret (i := 0) d (g1.app q0 l1) rfl (d_mod (d_var 2) (d_var 1) hb0) ?_
    have h1 := Int.emod_nonneg (z.ns.getLastD 0) (show bd ≠ 0 by omega)
    have h2 := Int.emod_lt_of_pos (z.ns.getLastD 0) hb0
    have := hk (z.ns.getLastD 0 % bd).toNat (by omega)
    rwa [show (((z.ns.getLastD 0 % bd).toNat : Nat) : Int) = z.ns.getLastD 0 % bd by omega] at this
  · obtain ⟨ns, mix, cnt⟩ := z
    have gc : 0 ≤ cnt := g.2.2.2.2
    have g1 : (⟨ns, mix, cnt + 1⟩ : DSt).good := ⟨g.1, g.2.1, g.2.2.1, g.2.2.2.1, by show 0 ≤ cnt + 1; omega⟩
    refine bd_cons (pd_put (z' := ⟨ns, mix, cnt + 1⟩) 0 d g g1 rfl (d_add (fst2 (d_var 0)) d_int) rfl (by decide) rfl) ?_
    have m1 := Int.emod_nonneg (mix * 48271 + 41 + 1009 * (cnt + 1)) (show (2147483647 : Int) ≠ 0 by decide)
    have m2 := Int.emod_lt_of_pos (mix * 48271 + 41 + 1009 * (cnt + 1)) (show (0 : Int) < 2147483647 by decide)
    have g2 : (⟨ns, (mix * 48271 + 41 + 1009 * (cnt + 1)) % 2147483647, cnt + 1⟩ : DSt).good := ⟨g.1, g.2.1, m1, m2, by show 0 ≤ cnt + 1; omega⟩
    refine bd_cons (pd_put (z' := ⟨ns, (mix * 48271 + 41 + 1009 * (cnt + 1)) % 2147483647, cnt + 1⟩) 0 d g1 g2 rfl (d_mod (d_intI T.m_int (d_add (d_add (d_mul (fst1 (d_var 0)) d_int (.inr (by decide))) d_int) (d_mul d_int (fst2 (d_var 0)) (.inl (by decide))))) d_int (by decide)) rfl (by decide) rfl) ?_
    refine bd_ret (i := 0) d g2 rfl (d_mod (d_intI T.m_int (d_fdiv (d_mod (d_intI T.m_int (d_add (d_mul (fst1 (d_var 0)) d_int (.inr (by decide))) (fst2 (d_var 0)))) d_int (by decide)) d_int (by unfold CDiv; omega))) (d_var 1) hb0) ?_
    generalize hq : ((mix * 48271 + 41 + 1009 * (cnt + 1)) % 2147483647 * 69621 + (cnt + 1)) % 2147483629 / 32 = q
    have h1 := Int.emod_nonneg q (show bd ≠ 0 by omega)
    have h2 := Int.emod_lt_of_pos q hb0
    have := hk (q % bd).toNat (by omega)
    rwa [show (((q % bd).toNat : Nat) : Int) = q % bd by omega] at this
theorem c_any {v : V} {n : Int} {k : D → Prop} (T : Top κ.K κ.mg) (ha : De κ r a Γ (.raw v)) (hb : De κ r b Γ (.int n)) (h0 : 0 < n) (h1 : n < 1073741824) (hd : Draws r v) (hk : ∀ m : Nat, (m : Int) < n → k (.int m)) (hl : 1 ≤ κ.lv := by exact Nat.le_of_ble_eq_true rfl) (hg : κ.sc.names.lookup ("_law_any" : Str) = some .globalImplicit := by rfl) (pl : Pl a := by intro _ _; rfl) (pl2 : Pl b := by intro _ _; rfl) : Pe κ r (.Call (.Name "_law_any" p) [a, b] [] pos) Γ k :=
  callD T.d_law_any (fun P w base fd F => ok_any T P w base fd F) bd_law_any hl T.g_law_any hg (da_cons ha (da_cons hb da_nil (fun X _ => pl2 X.env [])) (fun X _ => pl X.env [b])) (by rintro _ rfl C; exact ⟨v, n, rfl, h0, h1, hd.cells C, hk⟩) (by decide) (fun X _ => pl X.env [b]) (fun X _ => by rw [pl2 X.env []]; rfl)
end
end K84

set_option Elab.async false
set_option linter.all false
set_option maxRecDepth 100000
set_option maxHeartbeats 1000000
namespace Dv
open PySem PySem.Spec PyProof.Rows L2
theorem n_sliceRaw {κ : Kx} {r : Reg} {Γ : Gm} {e : Expr} {pos p2 : Pos} {lo hi : Option Expr} {l u : Option Int} {a : Addr} {ns : List Int} (ha : De κ r e Γ (.raw (.ref a))) (hs : ∀ H, r.ok H → SqL κ.K H a (ns.map V.int)) (hl : Po κ r lo Γ (fun o => o = l)) (hh : Po κ r hi Γ (fun o => o = u)) : Dn κ r (.Subscript e (.Slice lo hi none p2) pos) Γ (cutDs (ns.map D.int) l u) := fun B σ C H at_ Q q =>
  ⟨tSl (rSlL κ.K) (xe κ e) (xo κ lo) (xo κ hi), fun X hX => by rw [← Kx.hK hX]; exact pe_slice sl_list (xe_ok e hX) (xo_ok lo hX) (xo_ok hi hX), ha B σ C H at_ _ fun d v H1 kd at1 e1 i1 => hl B σ C H1 at1 _ fun l' H2 k2 at2 e2 => hh B σ C H2 at2 _ fun u' H3 k3 at3 e3 => by
    subst kd
    subst k2
    subst k3
    refine ⟨a, ns.map V.int, i1, hs H3 at3.ok.rok, fun n nn => ?_⟩
    obtain ⟨o4, e4⟩ := new_put (vs := cutV (ns.map V.int) l' u') at3.ok nn
    have e13 := (e1.trans e2).trans e3
    have np0 : H n = none := by
      cases q0 : H n with
      | none => rfl
      | some o0 => exact absurd nn (by
          rw [(hid_some (e13 n o0 (hid_of q0 (at3.ok.own_ne nn) (at3.ok.cel_ne nn)))).1]
          intro z; cases z)
    exact q _ n _ _ rfl np0 o4 (e13.trans e4) (IsA.cut (ints_isA ns) l' u')⟩
end Dv
namespace K84
open PySem PySem.Spec PyProof.Rows L2 Dv
section
variable {P : Program} {w : World} {K : PySem.W.Frag} {mg : Str → Option Value} {base : Heap} {f : Addr} {fd : FuncData}
variable {κ : Kx} {r : Reg} {Γ : Gm} {a b c : Expr} {pos p : Pos}
def a_deal (K : PySem.W.Frag) : Do := fun r ds k => ∃ (a : Addr) (ns : List Int) (salt : Int), ds = [.raw (.ref a), .int salt] ∧ (∀ H, r.ok H → SqL K H a (ns.map V.int)) ∧ 0 ≤ salt ∧ salt < 1000 ∧ ∀ (ms : List Int) (mix : Int), (∀ n ∈ ms, 0 ≤ n) → ms.length ≤ 64 → 0 ≤ mix → mix < 2147483647 → k (.lst [lsI ms, .int mix, .int 0])
def absI (i : Int) : Int := if i < 0 then -i else i
theorem ok_deal (T : Top K mg) (P : Program) (w : World) (base : Heap) (fd : FuncData) (F : FnP K "_law_deal" st_law_deal f fd) : FnOk P w K mg base CX0 1 f fd ["script", "salt"] (spD K (a_deal K)) := by
  refine fn_D (lv := 0) F sc_law_deal (fun r ds k h => by obtain ⟨i, j, l, rfl, _⟩ := h; rfl) fun cdv A' outer s H E hr r ds k h => ?_
  obtain ⟨a, ns, salt, rfl, hS, hs0, hs1, hk⟩ := h
  show Bk _ r _ [.val _, .val _, .no, .no, .no] _
  have el : (cutDs (ns.map D.int) none (some 63)) = (ns.take 63).map D.int := by
    have := cutD_to (ds := ns.map D.int) 63
    rw [List.map_take]; exact this
  have hl : (ns.take 63).length ≤ 63 := by rw [List.length_take]; omega
  refine b_cons (ds_lc 2 (j := 4) (dlc (fun i => D.int (absI ((ns.take 63).getD i 0))) (di_list (Dn.de (n_sliceRaw (d_var 0) hS do_none (do_some d_int)))) (by rw [el, List.length_map]; omega) ?elt) ?_)
  case elt =>
    intro i d hd
    rw [el, List.getElem?_map] at hd
    cases q : (ns.take 63)[i]? with
    | none => rw [q] at hd; cases hd
    | some n =>
      rw [q] at hd
      cases hd
      rw [List.getD_eq_getElem?_getD, q]
      exact d_abs T.m_abs (d_intI T.m_int (d_var 4))
  have ec : (List.range (cutDs (ns.map D.int) none (some 63)).length).map (fun i => D.int (absI ((ns.take 63).getD i 0))) = ((ns.take 63).map absI).map D.int := by
    rw [el, List.length_map, List.map_map]
    refine List.ext_getElem? fun i => ?_
    rw [List.getElem?_map, List.getElem?_map]
    by_cases hi : i < (ns.take 63).length
    · rw [List.getElem?_range hi]
      show some (D.int (absI ((ns.take 63).getD i 0))) = _
      rw [List.getD_eq_getElem?_getD, List.getElem?_eq_getElem hi]; rfl
    · rw [List.getElem?_eq_none (by rw [List.length_range]; omega), List.getElem?_eq_none (by omega)]; rfl
  rw [ec]
  have h0 : ∀ n ∈ (ns.take 63).map absI, 0 ≤ n := by
    intro n hn
    obtain ⟨m, _, rfl⟩ := List.mem_map.mp hn
    unfold absI
    split <;> omega
  have hl2 : ((ns.take 63).map absI).length ≤ 63 := by rw [List.length_map]; exact hl
  generalize (ns.take 63).map absI = cells at h0 hl2
  refine b_freeze (i := 2) rfl ?_
  show Bk _ r _ [.val _, .val _, .val (lsI cells), .no, .no] _
  refine b_cons (ds_set (d := .int (50021 + 9973 * salt)) 3 (d_add d_int (d_mul d_int (d_var 1) (.inl (by decide)))) ?_)
  refine b_cons (s_for (g := gName 4) (fun _ i Γ => ∃ mix, (0 ≤ mix ∧ mix < 2147483647) ∧ Γ = [.val (.raw (.ref a)), .val (.int salt), .val (lsI cells), .val (.int mix), .no]) (di_list (d_var 2)) (fun X hX => pg_name' (i := 4) sto hX) (fun _ _ => ⟨_, ⟨by omega, by omega⟩, rfl⟩) ?turn ?done)
  case turn =>
    rintro _ i d _ rfl hd ⟨mix, hm, rfl⟩
    rw [List.getElem?_map] at hd
    cases q : cells[i]? with
    | none => rw [q] at hd; cases hd
    | some n =>
      rw [q] at hd
      cases hd
      exact ⟨_, tg_name 4 _, b_one (ds_set 3 (d_mod (d_intI T.m_int (d_add (d_add (d_mul (d_var 3) d_int (.inr (by decide))) (d_mod (d_var 4) d_int (by decide))) d_int)) d_int (by decide)) (Up.by (.eq (.eq (.eq (.eq (.no .nil))))) ⟨_, ⟨Int.emod_nonneg _ (by decide), Int.emod_lt_of_pos _ (by decide)⟩, rfl⟩))⟩
  case done =>
    rintro _ _ rfl ⟨mix, hm, rfl⟩
    have hk2 := hk ((cells.filter fun n => decide (1000000000000000000 ≤ n)).reverse) mix (fun n hn => h0 n (List.mem_filter.mp (List.mem_reverse.mp hn)).1) (by
      have := List.length_filter_le (fun n => decide (1000000000000000000 ≤ n)) cells
      rw [List.length_reverse]; omega) hm.1 hm.2
    refine b_one (ds_ret (Dn.de (n_lst (da_cons (Dn.de (n_rev (Dn.de (n_lcIf (j := 4) (lc_if (ki := fun z => z = cells.map D.int) (kn := fun z => z = (cells.filter fun n => decide (1000000000000000000 ≤ n)).map D.int) (fun _ i acc => acc = ((cells.take i).filter fun n => decide (1000000000000000000 ≤ n)).map D.int) (di_list (d_var 2)) (by rintro _ rfl; rw [List.length_map]; omega) (fun _ _ => rfl) ?elt (by rintro _ acc rfl rfl; rw [List.length_map, List.take_length])) sto (blkOk_by (by kernel_rfl)))))) (da_cons (d_var 3) (da_cons d_int da_nil))))) ?_)
    case elt =>
      rintro _ i d acc rfl hd rfl
      rw [List.getElem?_map] at hd
      cases q : cells[i]? with
      | none => rw [q] at hd; cases hd
      | some n =>
        rw [q] at hd
        cases hd
        have e1 : cells.take (i + 1) = cells.take i ++ [n] := by rw [List.take_add_one, q]; rfl
        refine ⟨fun b => b = decide ((10 : Int) ^ (18 : Int).toNat ≤ n), dt_ge (d_var 4) (d_pow d_int d_int (by unfold CPow; decide)), fun z => (d_var 4).imp fun e he => ?_, fun z => ?_⟩
        · have z : decide ((1000000000000000000 : Int) ≤ n) = true := z.symm
          rw [he, e1, List.filter_append, List.map_append, List.filter_cons_of_pos (p := fun n => decide ((1000000000000000000 : Int) ≤ n)) z]; rfl
        · have z : ¬ decide ((1000000000000000000 : Int) ≤ n) = true := by
            have z : decide ((1000000000000000000 : Int) ≤ n) = false := z.symm
            rw [z]; exact Bool.false_ne_true
          rw [e1, List.filter_append, List.filter_cons_of_neg (p := fun n => decide ((1000000000000000000 : Int) ≤ n)) z]; simp
    show k (.lst [.lst ((cells.filter fun n => decide (1000000000000000000 ≤ n)).map D.int).reverse, .int mix, .int 0])
    rw [← List.map_reverse]
    exact hk2
theorem c_deal {x : Addr} {ns : List Int} {salt : Int} {k : D → Prop} (T : Top κ.K κ.mg) (ha : De κ r a Γ (.raw (.ref x))) (hb : De κ r b Γ (.int salt)) (hS : ∀ H, r.ok H → SqL κ.K H x (ns.map V.int)) (h0 : 0 ≤ salt) (h1 : salt < 1000) (hk : ∀ (ms : List Int) (mix : Int), (∀ n ∈ ms, 0 ≤ n) → ms.length ≤ 64 → 0 ≤ mix → mix < 2147483647 → k (.lst [lsI ms, .int mix, .int 0])) (hl : 1 ≤ κ.lv := by exact Nat.le_of_ble_eq_true rfl) (hg : κ.sc.names.lookup ("_law_deal" : Str) = some .globalImplicit := by rfl) (pl : Pl a := by intro _ _; rfl) (pl2 : Pl b := by intro _ _; rfl) : Pe κ r (.Call (.Name "_law_deal" p) [a, b] [] pos) Γ k :=
  callD T.d_law_deal (fun P w base fd F => ok_deal T P w base fd F) bd_law_deal hl T.g_law_deal hg (da_cons ha (da_cons hb da_nil (fun X _ => pl2 X.env [])) (fun X _ => pl X.env [b])) (by rintro _ rfl C; exact ⟨x, ns, salt, rfl, fun H k => hS H k.rok, h0, h1, hk⟩) (by decide) (fun X _ => pl X.env [b]) (fun X _ => by rw [pl2 X.env []]; rfl)
end
end K84

set_option Elab.async false
set_option linter.all false
set_option maxRecDepth 100000
set_option maxHeartbeats 1000000
namespace K84
/-! plain laws of frames -/
theorem part_app (xs ys : List Int) : ∀ i, i ≤ xs.length → part (xs ++ ys) i = part xs i
  | 0, _ => rfl
  | i + 1, h => by
    rw [part_succ, part_succ, part_app xs ys i (by omega)]
    congr 2
    rw [List.getD_eq_getElem?_getD, List.getD_eq_getElem?_getD, List.getElem?_append_left (by omega)]
theorem placed_snoc (xs : List Int) (y : Int) : placed (xs ++ [y]) = placed xs + ((xs.length : Int) + 1) * y := by
  unfold placed
  rw [List.length_append, List.length_singleton, part_succ, part_app xs [y] _ (Nat.le_refl _)]
  congr 2
  rw [List.getD_eq_getElem?_getD, List.getElem?_concat_length]; rfl
theorem sum_snoc (xs : List Int) (y : Int) : (xs ++ [y]).sum = xs.sum + y := by rw [List.sum_append]; simp
theorem snoc_ind {p : List Int → Prop} (h0 : p []) (h1 : ∀ xs y, p xs → p (xs ++ [y])) (l : List Int) : p l := by
  have : ∀ n (l : List Int), l.length = n → p l := by
    intro n
    induction n with
    | zero => intro l h; rw [List.length_eq_zero_iff.mp h]; exact h0
    | succ n ih =>
      intro l h
      have hne : l ≠ [] := fun z => by subst z; simp at h
      rw [← List.dropLast_concat_getLast hne]
      exact h1 _ _ (ih _ (by rw [List.length_dropLast]; omega))
  exact this _ l rfl
theorem placed_append (xs ys : List Int) : placed (xs ++ ys) = placed xs + placed ys + (xs.length : Int) * ys.sum := by
  induction ys using snoc_ind with
  | h0 => simp [placed, part]
  | h1 ys y ih =>
    rw [← List.append_assoc, placed_snoc, placed_snoc, ih, sum_snoc, List.length_append]
    have e1 : ((xs.length + ys.length : Nat) : Int) + 1 = (xs.length : Int) + ((ys.length : Int) + 1) := by omega
    rw [e1, Int.add_mul, Int.mul_add]
    omega
def tri : Nat → Nat
  | 0 => 0
  | m + 1 => tri m + m
theorem tri_eq : ∀ m : Nat, (m : Int) * (m - 1) / 2 = tri m := by
  have h2 : ∀ m : Nat, (m : Int) * (m - 1) = 2 * tri m := by
    intro m
    induction m with
    | zero => rfl
    | succ m ih =>
      have e : ((m + 1 : Nat) : Int) * (((m + 1 : Nat) : Int) - 1) = (m : Int) * (m - 1) + 2 * m := by
        have : (((m + 1 : Nat) : Int) - 1) = m := by omega
        rw [this, show ((m + 1 : Nat) : Int) = m + 1 by omega, Int.add_mul, Int.mul_sub]
        omega
      rw [e, ih]
      show _ = 2 * ((tri m + m : Nat) : Int)
      omega
  intro m
  rw [h2 m]
  omega
def rep (m : Nat) (b : List Int) : List Int := (List.replicate m b).flatten
theorem rep_succ (m : Nat) (b : List Int) : rep (m + 1) b = b ++ rep m b := by unfold rep; rw [List.replicate_succ, List.flatten_cons]
theorem rep_len (m : Nat) (b : List Int) : (rep m b).length = m * b.length := by
  induction m with
  | zero => simp [rep]
  | succ m ih => rw [rep_succ, List.length_append, ih, Nat.succ_mul]; omega
theorem rep_sum (m : Nat) (b : List Int) : (rep m b).sum = m * b.sum := by
  induction m with
  | zero => simp [rep]
  | succ m ih => rw [rep_succ, List.sum_append, ih, show ((m + 1 : Nat) : Int) = m + 1 by omega, Int.add_mul]; omega
theorem rep_one (b : List Int) : rep 1 b = b := by unfold rep; simp
theorem placed_rep (m : Nat) (b : List Int) : placed (rep m b) = m * placed b + b.sum * b.length * tri m := by
  induction m with
  | zero => simp [rep, placed, part, tri]
  | succ m ih =>
    rw [rep_succ, placed_append, ih, rep_sum]
    show _ = _ + b.sum * b.length * ((tri m + m : Nat) : Int)
    rw [show ((m + 1 : Nat) : Int) = m + 1 by omega, Int.add_mul, show ((tri m + m : Nat) : Int) = (tri m : Int) + m by omega, Int.mul_add]
    have : (b.length : Int) * ((m : Int) * b.sum) = b.sum * b.length * m := by
      rw [Int.mul_comm (m : Int) b.sum, ← Int.mul_assoc, Int.mul_comm (b.length : Int) b.sum]
    rw [this]
    omega
/-! heads -/
theorem numOct_long (n : Nat) (h : n < 2097152) : numOct n = longOf n := by
  rw [numOct]
  unfold longOf countedOf
  by_cases h1 : n < 128
  · rw [dif_pos h1, if_pos (by omega), if_pos h1]
  · rw [dif_neg h1, numOct]
    by_cases h2 : n < 16384
    · rw [dif_pos (by omega), if_pos h2, if_neg h1]
      rw [show (128 + (n : Int) % 128) = (n : Int) % 128 + 128 by omega, show ((n / 128 : Nat) : Int) = (n : Int) / 128 by omega]
    · rw [dif_neg (by omega), numOct, dif_pos (by omega), if_neg h2]
      rw [show (128 + (n : Int) % 128) = (n : Int) % 128 + 128 by omega, show (128 + ((n / 128 : Nat) : Int) % 128) = (n : Int) / 128 % 128 + 128 by omega, show ((n / 128 / 128 : Nat) : Int) = (n : Int) / 16384 by omega]
theorem behind_shift (pre ys : List Int) : behind (pre ++ ys) pre.length = (behind ys 0).map (pre.length + ·) := by
  unfold behind
  rw [List.drop_left, List.drop_zero, Option.map_map]
  congr 1
  funext i
  simp only [Function.comp]
  omega
theorem figs_shift (pre ys : List Int) (e : Nat) (he : 0 < e) : figs (pre ++ ys) pre.length (pre.length + e) = figs ys 0 e := by
  unfold figs
  rw [List.drop_left, List.drop_zero, show pre.length + e - 1 - pre.length = e - 1 - 0 by omega, List.getD_eq_getElem?_getD, List.getD_eq_getElem?_getD, List.getElem?_append_right (by omega), show pre.length + e - 1 - pre.length = e - 1 by omega]
theorem readNum_shift (pre ys : List Int) : readNum (pre ++ ys) pre.length = (readNum ys 0).map fun p => (p.1, pre.length + p.2) := by
  unfold readNum
  rw [behind_shift]
  cases hb : behind ys 0 with
  | none => rfl
  | some e =>
    have he : 0 < e := (behind_spec hb).1
    show (if pre.length + e - pre.length > 1 ∧ (pre ++ ys).getD (pre.length + e - 1) 0 = 0 then none else some (valLE (figs (pre ++ ys) pre.length (pre.length + e)), pre.length + e)) = Option.map _ (if e - 0 > 1 ∧ ys.getD (e - 1) 0 = 0 then none else some (valLE (figs ys 0 e), e))
    rw [figs_shift pre ys e he, show pre.length + e - pre.length = e - 0 by omega, List.getD_eq_getElem?_getD, List.getElem?_append_right (by omega), show pre.length + e - 1 - pre.length = e - 1 by omega, ← List.getD_eq_getElem?_getD]
    split <;> rfl
theorem frameAt_shift (pre ys : List Int) : frameAt (pre ++ ys) pre.length = (frameAt ys 0).map fun p => (p.1, pre.length + p.2) := by
  unfold frameAt
  rw [readNum_shift]
  cases hr : readNum ys 0 with
  | none => rfl
  | some ve =>
    obtain ⟨v, e⟩ := ve
    show (if v + 2 > ((pre ++ ys).length : Int) - (pre.length + e : Nat) then none else if ((pre ++ ys).drop (pre.length + e + v.toNat)).take 2 = sumPair (((pre ++ ys).drop (pre.length + e)).take v.toNat) then some (((pre ++ ys).drop (pre.length + e)).take v.toNat, pre.length + e + v.toNat + 2) else none) = Option.map _ (if v + 2 > (ys.length : Int) - e then none else if (ys.drop (e + v.toNat)).take 2 = sumPair ((ys.drop e).take v.toNat) then some ((ys.drop e).take v.toNat, e + v.toNat + 2) else none)
    have d : ∀ i, (pre ++ ys).drop (pre.length + i) = ys.drop i := fun i => by rw [← List.drop_drop, List.drop_left]
    rw [show pre.length + e + v.toNat = pre.length + (e + v.toNat) by omega, d, d]
    have hl : (v + 2 > ((pre ++ ys).length : Int) - (pre.length + e : Nat)) ↔ (v + 2 > (ys.length : Int) - e) := by
      rw [List.length_append]; omega
    by_cases h1 : v + 2 > (ys.length : Int) - e
    · rw [if_pos (hl.mpr h1), if_pos h1]; rfl
    · rw [if_neg (fun z => h1 (hl.mp z)), if_neg h1]
      split
      · show some _ = some _
        congr 2
      · rfl
theorem readNum_long (n : Nat) (h : n < 2097152) (y : List Int) : readNum (longOf n ++ y) 0 = some ((n : Int), (longOf n).length) := by
  unfold longOf countedOf
  by_cases h1 : n < 128
  · rw [if_pos (by omega), if_pos h1]
    have hb : behind ([(n : Int)] ++ y) 0 = some 1 := by
      have h1' : (n : Int) < 128 := by omega
      simp [behind, List.findIdx?_cons, h1']
    unfold readNum
    rw [hb]
    simp [figs, valLE, valB]
  · by_cases h2 : n < 16384
    · rw [if_pos h2, if_neg h1]
      have hb : behind ([(n : Int) % 128 + 128, (n : Int) / 128] ++ y) 0 = some 2 := by
        have q1 : ¬ (n : Int) % 128 + 128 < 128 := by omega
        have q2 : (n : Int) / 128 < 128 := by omega
        simp only [behind, List.drop_zero, List.cons_append, List.nil_append, List.findIdx?_cons, q1, q2, decide_false, decide_true, if_true, Bool.false_eq_true, if_false, Option.map_some, Nat.zero_add]
      unfold readNum
      rw [hb]
      have q0 : ¬ (n : Int) / 128 = 0 := by omega
      have e : (n : Int) % 128 + 128 * ((n : Int) / 128) = n := by omega
      simp [figs, valLE, valB, q0]
      omega
    · rw [if_neg h2]
      have hb : behind ([(n : Int) % 128 + 128, (n / 128 : Int) % 128 + 128, (n : Int) / 16384] ++ y) 0 = some 3 := by
        have q1 : ¬ (n : Int) % 128 + 128 < 128 := by omega
        have q2 : ¬ (n : Int) / 128 % 128 + 128 < 128 := by omega
        have q3 : (n : Int) / 16384 < 128 := by omega
        simp only [behind, List.drop_zero, List.cons_append, List.nil_append, List.findIdx?_cons, q1, q2, q3, decide_false, decide_true, if_true, Bool.false_eq_true, if_false, Option.map_some, Nat.zero_add]
      unfold readNum
      rw [hb]
      have q0 : ¬ (n : Int) / 16384 = 0 := by omega
      simp [figs, valLE, valB, q0]
      omega
/-- what stands behind a head decides -/
theorem frameAt_head (n : Nat) (h : n < 2097152) (y : List Int) : frameAt (longOf n ++ y) 0 = if n + 2 > y.length then none else if (y.drop n).take 2 = sumPair (y.take n) then some (y.take n, (longOf n).length + n + 2) else none := by
  unfold frameAt
  rw [readNum_long n h y]
  show (if (n : Int) + 2 > ((longOf n ++ y).length : Int) - ((longOf n).length : Nat) then none else if ((longOf n ++ y).drop ((longOf n).length + n)).take 2 = sumPair (((longOf n ++ y).drop (longOf n).length).take n) then some (((longOf n ++ y).drop (longOf n).length).take n, (longOf n).length + n + 2) else none) = _
  have hl : ((n : Int) + 2 > ((longOf n ++ y).length : Int) - ((longOf n).length : Nat)) ↔ (n + 2 > y.length) := by
    rw [List.length_append]; omega
  rw [← List.drop_drop, List.drop_left]
  by_cases h1 : n + 2 > y.length
  · rw [if_pos (hl.mpr h1), if_pos h1]
  · rw [if_neg (fun z => h1 (hl.mp z)), if_neg h1]
/-- what a frame is, by the law's own words -/
def dueOf (b : List Int) : List Int := longOf b.length ++ b ++ sumPair b
theorem frameOf_due (b : List Int) (h : b.length < 2097152) : frameOf b = dueOf b := by
  unfold frameOf dueOf; rw [numOct_long _ h]
theorem dueOf_len (b : List Int) : (dueOf b).length = (longOf b.length).length + b.length + 2 := by
  unfold dueOf sumPair; simp; omega
theorem frameAt_due (b : List Int) (h : b.length < 2097152) (suf : List Int) : frameAt (dueOf b ++ suf) 0 = some (b, (dueOf b).length) := by
  have e : dueOf b ++ suf = longOf b.length ++ (b ++ sumPair b ++ suf) := by unfold dueOf; simp [List.append_assoc]
  rw [e, frameAt_head _ h, if_neg (by rw [List.length_append, List.length_append]; simp [sumPair])]
  have e2 : (b ++ sumPair b ++ suf).drop b.length = sumPair b ++ suf := by rw [List.append_assoc, List.drop_left]
  have e3 : (b ++ sumPair b ++ suf).take b.length = b := by rw [List.append_assoc, List.take_left]
  rw [e2, e3, if_pos (by rw [show (2 : Nat) = (sumPair b).length from rfl, List.take_left]), dueOf_len]
theorem long_high (n : Nat) (i : Nat) (h : i + 1 < (longOf n).length) : ¬ (longOf n).getD i 0 < 128 := by
  unfold longOf countedOf at h ⊢
  by_cases h2 : n < 16384
  · rw [if_pos h2] at h ⊢
    by_cases h1 : n < 128
    · rw [if_pos h1] at h; simp at h
    · rw [if_neg h1] at h ⊢
      have : i = 0 := by simp at h; omega
      subst this
      simp; omega
  · rw [if_neg h2] at h ⊢
    have : i = 0 ∨ i = 1 := by simp at h; omega
    rcases this with rfl | rfl <;> (simp; try omega)
/-- no frame in what is cut off -/
theorem frameAt_cut (b : List Int) (h : b.length < 2097152) (c : Nat) (hc : c < (dueOf b).length) : frameAt ((dueOf b).take c) 0 = none := by
  have e : dueOf b = longOf b.length ++ (b ++ sumPair b) := by unfold dueOf; simp [List.append_assoc]
  rw [dueOf_len] at hc
  by_cases h1 : (longOf b.length).length ≤ c
  · have e2 : (dueOf b).take c = longOf b.length ++ (b ++ sumPair b).take (c - (longOf b.length).length) := by
      rw [e, List.take_append, List.take_of_length_le h1]
    rw [e2, frameAt_head _ h, if_pos]
    rw [List.length_take]
    have := Nat.min_le_left (c - (longOf b.length).length) (b ++ sumPair b).length
    omega
  · have e2 : (dueOf b).take c = (longOf b.length).take c := by
      rw [e, List.take_append_of_le_length (by omega)]
    have hb : behind ((dueOf b).take c) 0 = none := behind_none fun j hj => by
      rw [e2, List.length_take] at hj
      have := long_high b.length j (by omega)
      rw [e2, List.getD_eq_getElem?_getD, List.getElem?_take_of_lt (by omega), ← List.getD_eq_getElem?_getD, Nat.zero_add]
      exact this
    unfold frameAt readNum
    rw [hb]
theorem frameAt_nil : frameAt [] 0 = none := rfl
/-- frames one behind another -/
theorem chain_dues (pre : List Int) (tail : List Int) (ht : frameAt tail 0 = none) : ∀ (bs : List (List Int)) (pre : List Int), (∀ b ∈ bs, b.length < 2097152) → Chain (pre ++ ((bs.map dueOf).flatten ++ tail)) pre.length bs (pre.length + (bs.map dueOf).flatten.length)
  | [], pre, _ => by
    refine Chain.nil ?_
    rw [frameAt_shift]
    show (frameAt ([] ++ tail) 0).map _ = none
    rw [List.nil_append, ht]; rfl
  | b :: bs, pre, hb => by
    have h1 := frameAt_due b (hb b (List.mem_cons_self ..)) ((bs.map dueOf).flatten ++ tail)
    have h2 := frameAt_shift pre (dueOf b ++ ((bs.map dueOf).flatten ++ tail))
    rw [h1] at h2
    have ih := chain_dues pre tail ht bs (pre ++ dueOf b) fun x hx => hb x (List.mem_cons_of_mem _ hx)
    have e : pre ++ (((b :: bs).map dueOf).flatten ++ tail) = pre ++ (dueOf b ++ ((bs.map dueOf).flatten ++ tail)) := by
      rw [List.map_cons, List.flatten_cons, List.append_assoc]
    rw [e]
    refine Chain.cons (a' := pre.length + (dueOf b).length) h2 ?_
    rw [List.append_assoc, List.length_append] at ih
    rw [List.map_cons, List.flatten_cons, List.length_append, ← Nat.add_assoc]
    exact ih
theorem chain_of (bs : List (List Int)) (tail : List Int) (hb : ∀ b ∈ bs, b.length < 2097152) (ht : frameAt tail 0 = none) : Chain ((bs.map dueOf).flatten ++ tail) 0 bs (bs.map dueOf).flatten.length := by
  have := chain_dues [] tail ht bs [] hb
  rw [List.nil_append, List.length_nil, Nat.zero_add] at this
  exact this
end K84

set_option Elab.async false
set_option linter.all false
set_option maxRecDepth 100000
set_option maxHeartbeats 1000000
namespace K84
/-! spoilt frames are not read -/
theorem cop : ∀ d : Fin 256, d.val ≠ 0 → Nat.gcd 65521 d.val = 1 := by decide +kernel
theorem no_dvd {a d : Int} (h1 : a ≠ 0) (h2 : a.natAbs < 65521) (h3 : d ≠ 0) (h4 : d.natAbs < 256) : (a * d) % 65521 ≠ 0 := by
  intro z
  have hd : (65521 : Nat) ∣ a.natAbs * d.natAbs := by
    rw [← Int.natAbs_mul]
    have := Int.dvd_of_emod_eq_zero z
    exact Int.natAbs_dvd_natAbs.mpr this
  have hc : Nat.Coprime 65521 d.natAbs := cop ⟨d.natAbs, h4⟩ (by show d.natAbs ≠ 0; omega)
  have := Nat.le_of_dvd (by omega) (Nat.Coprime.dvd_of_dvd_mul_right hc hd)
  omega
theorem placed_mid (xs zs : List Int) (y : Int) : placed (xs ++ y :: zs) = placed xs + placed zs + zs.sum + xs.length * zs.sum + ((xs.length : Int) + 1) * y := by
  have e : y :: zs = [y] ++ zs := rfl
  rw [placed_append, e, placed_append [y] zs]
  have e1 : placed [y] = y := by simp [placed, part]
  rw [e1, List.sum_append]
  simp only [List.length_singleton, List.sum_singleton, Int.mul_add, Int.add_mul]
  omega
theorem placed_set (b : List Int) (i : Nat) (x : Int) (h : i < b.length) : placed (b.set i x) = placed b + ((i : Int) + 1) * (x - b.getD i 0) := by
  have e1 : b.set i x = b.take i ++ x :: b.drop (i + 1) := by rw [List.set_eq_take_append_cons_drop, if_pos h]
  have e2 : b = b.take i ++ b.getD i 0 :: b.drop (i + 1) := by
    rw [List.getD_eq_getElem?_getD, List.getElem?_eq_getElem h]
    show b = b.take i ++ b[i] :: b.drop (i + 1)
    rw [List.getElem_cons_drop, List.take_append_drop]
  have e3 : placed b = placed (b.take i ++ b.getD i 0 :: b.drop (i + 1)) := by rw [← e2]
  rw [e1, e3, placed_mid, placed_mid, List.length_take, Nat.min_eq_left (Nat.le_of_lt h), Int.mul_sub]
  omega
theorem octSum_ne {b c : List Int} {t : Int} (h : placed c = placed b + t) (ht : t % 65521 ≠ 0) : octSum c ≠ octSum b := by
  unfold octSum
  rw [h]
  omega
theorem octSum_set (b : List Int) (i : Nat) (x : Int) (h : i < b.length) (hl : b.length < 65521) (hx : x ≠ b.getD i 0) (hd : (x - b.getD i 0).natAbs < 256) : octSum (b.set i x) ≠ octSum b :=
  octSum_ne (placed_set b i x h) (no_dvd (by omega) (by omega) (by omega) hd)
theorem octSum_swap (b : List Int) (i j : Nat) (hi : i < b.length) (hj : j < b.length) (hl : b.length < 65521) (hx : b.getD i 0 ≠ b.getD j 0) (hd : (b.getD j 0 - b.getD i 0).natAbs < 256) : octSum ((b.set i (b.getD j 0)).set j (b.getD i 0)) ≠ octSum b := by
  have hij : i ≠ j := fun z => by subst z; exact hx rfl
  have e1 : (b.set i (b.getD j 0)).getD j 0 = b.getD j 0 := by
    rw [List.getD_eq_getElem?_getD, List.getElem?_set_ne hij, ← List.getD_eq_getElem?_getD]
  refine octSum_ne (t := ((i : Int) - j) * (b.getD j 0 - b.getD i 0)) ?_ (no_dvd (by omega) (by omega) (by omega) hd)
  rw [placed_set _ j _ (by rw [List.length_set]; exact hj), placed_set _ i _ hi, e1]
  simp only [Int.mul_sub, Int.sub_mul, Int.add_mul]
  omega
theorem sumPair_ne {b c : List Int} (h : octSum c ≠ octSum b) : sumPair b ≠ sumPair c := by
  intro z
  unfold sumPair at z
  have z1 := List.cons.inj z
  have z2 := (List.cons.inj z1.2).1
  have := z1.1
  omega
theorem spoil (b p : List Int) (hn : b.length < 2097152) (h2 : p.length = 2) (h : p ≠ sumPair b) (suf : List Int) : frameAt (longOf b.length ++ b ++ p ++ suf) 0 = none := by
  rw [List.append_assoc, List.append_assoc, frameAt_head _ hn, if_neg (by rw [List.length_append, List.length_append, h2]; omega), List.drop_left, List.take_left, if_neg]
  rw [← h2, List.take_left]
  exact h
theorem spoil_zero (hs suf : List Int) (h1 : hs ≠ []) (h2 : ∀ n ∈ hs, ¬ n < 128) : frameAt (hs ++ [0] ++ suf) 0 = none := by
  have hb : behind (hs ++ [0] ++ suf) 0 = some (0 + hs.length + 1) := by
    refine behind_some (fun j hj => ?_) ?_ ?_
    · rw [Nat.zero_add, List.append_assoc, List.getD_eq_getElem?_getD, List.getElem?_append_left hj, List.getElem?_eq_getElem hj]
      exact h2 _ (List.getElem_mem hj)
    · rw [List.length_append, List.length_append]; simp; omega
    · rw [Nat.zero_add, List.append_assoc, List.getD_eq_getElem?_getD, List.getElem?_append_right (Nat.le_refl _)]; simp
  have hl : 0 < hs.length := List.length_pos_iff.mpr h1
  unfold frameAt readNum
  rw [hb]
  have hz : (hs ++ [0] ++ suf).getD (0 + hs.length + 1 - 1) 0 = 0 := by
    rw [show 0 + hs.length + 1 - 1 = hs.length by omega, List.append_assoc, List.getD_eq_getElem?_getD, List.getElem?_append_right (Nat.le_refl _)]; simp
  have hc : 0 + hs.length + 1 - 0 > 1 ∧ (hs ++ [0] ++ suf).getD (0 + hs.length + 1 - 1) 0 = 0 := ⟨by omega, hz⟩
  simp only [hc, and_self, if_true]
theorem oct_app {xs ys : List Int} (h1 : Oct xs) (h2 : Oct ys) : Oct (xs ++ ys) := fun n hn => by
  rcases List.mem_append.mp hn with hn | hn
  · exact h1 n hn
  · exact h2 n hn
theorem oct_long (n : Nat) (h : n < 2097152) : Oct (longOf n) := by
  intro m hm
  unfold longOf countedOf at hm
  split at hm
  · split at hm
    · simp at hm; omega
    · simp at hm; rcases hm with rfl | rfl <;> omega
  · simp at hm; rcases hm with rfl | rfl | rfl <;> omega
theorem oct_pair (b : List Int) : Oct (sumPair b) := by
  have := octSum_range b
  intro m hm
  unfold sumPair at hm
  simp at hm
  rcases hm with rfl | rfl <;> omega
theorem oct_due {b : List Int} (h : Oct b) (hn : b.length < 2097152) : Oct (dueOf b) := oct_app (oct_app (oct_long _ hn) h) (oct_pair b)
theorem oct_set {b : List Int} (h : Oct b) (i : Nat) {x : Int} (h0 : 0 ≤ x) (h1 : x < 256) : Oct (b.set i x) := fun n hn => by
  rcases List.mem_or_eq_of_mem_set hn with hn | rfl
  · exact h n hn
  · exact ⟨h0, h1⟩
theorem oct_flat {xss : List (List Int)} (h : ∀ xs ∈ xss, Oct xs) : Oct xss.flatten := fun n hn => by
  obtain ⟨xs, h1, h2⟩ := List.mem_flatten.mp hn
  exact h xs h1 n h2
theorem oct_rep {b : List Int} (h : Oct b) (m : Nat) : Oct (rep m b) := oct_flat fun xs hx => by rw [(List.mem_replicate.mp hx).2]; exact h
theorem oct_sub {xs ys : List Int} (h : Oct ys) (hs : ∀ n ∈ xs, n ∈ ys) : Oct xs := fun n hn => h n (hs n hn)
theorem oct_take {xs : List Int} (h : Oct xs) (n : Nat) : Oct (xs.take n) := oct_sub h fun _ hn => List.mem_of_mem_take hn
theorem oct_drop {xs : List Int} (h : Oct xs) (n : Nat) : Oct (xs.drop n) := oct_sub h fun _ hn => List.mem_of_mem_drop hn
/-- one octet behind the head is changed -/
theorem spoil_set (b : List Int) (ho : Oct b) (hn : b.length < 65521) (q : Nat) (hq : q < b.length + 2) (x : Int) (h0 : 0 ≤ x) (h1 : x < 256) (hx : x ≠ (dueOf b).getD ((longOf b.length).length + q) 0) (suf : List Int) : frameAt ((dueOf b).set ((longOf b.length).length + q) x ++ suf) 0 = none := by
  have e : dueOf b = longOf b.length ++ (b ++ sumPair b) := by unfold dueOf; rw [List.append_assoc]
  rw [e, List.getD_eq_getElem?_getD, List.getElem?_append_right (Nat.le_add_right ..), Nat.add_sub_cancel_left] at hx
  rw [e, List.set_append_right _ _ (Nat.le_add_right ..), Nat.add_sub_cancel_left]
  by_cases hl : q < b.length
  · rw [List.getElem?_append_left hl, ← List.getD_eq_getElem?_getD] at hx
    rw [List.set_append_left _ _ hl]
    have hb := oct_get ho hl
    have h := octSum_set b q x hl hn hx (by omega)
    have := spoil (b.set q x) (sumPair b) (by rw [List.length_set]; omega) rfl (sumPair_ne h) suf
    rw [List.length_set] at this
    rw [← List.append_assoc]
    exact this
  · rw [List.getElem?_append_right (by omega)] at hx
    rw [List.set_append_right _ _ (by omega), ← List.append_assoc]
    refine spoil b _ (by omega) (by rw [List.length_set]; rfl) (fun z => hx ?_) suf
    have hj : q - b.length < (sumPair b).length := by show _ < 2; omega
    have := congrArg (fun l => l[q - b.length]?) z
    simp only [List.getElem?_set_self hj] at this
    rw [← this]; rfl
theorem spoil_swap (b : List Int) (ho : Oct b) (hn : b.length < 65521) (i j : Nat) (hi : i < b.length) (hj : j < b.length) (hx : (dueOf b).getD ((longOf b.length).length + i) 0 ≠ (dueOf b).getD ((longOf b.length).length + j) 0) (suf : List Int) :
    frameAt (((dueOf b).set ((longOf b.length).length + i) ((dueOf b).getD ((longOf b.length).length + j) 0)).set ((longOf b.length).length + j) ((dueOf b).getD ((longOf b.length).length + i) 0) ++ suf) 0 = none := by
  have e : dueOf b = longOf b.length ++ (b ++ sumPair b) := by unfold dueOf; rw [List.append_assoc]
  have g : ∀ q, q < b.length → (longOf b.length ++ (b ++ sumPair b)).getD ((longOf b.length).length + q) 0 = b.getD q 0 := fun q hq => by
    rw [List.getD_eq_getElem?_getD, List.getElem?_append_right (Nat.le_add_right ..), Nat.add_sub_cancel_left, List.getElem?_append_left hq, ← List.getD_eq_getElem?_getD]
  rw [e, g i hi, g j hj] at hx ⊢
  rw [List.set_append_right _ _ (Nat.le_add_right ..), List.set_append_right _ _ (Nat.le_add_right ..), Nat.add_sub_cancel_left, Nat.add_sub_cancel_left, List.set_append_left _ _ hi, List.set_append_left _ _ (by rw [List.length_set]; exact hj)]
  have h1 := oct_get ho hi
  have h2 := oct_get ho hj
  have h := octSum_swap b i j hi hj hn hx (by omega)
  have := spoil ((b.set i (b.getD j 0)).set j (b.getD i 0)) (sumPair b) (by rw [List.length_set, List.length_set]; omega) rfl (sumPair_ne h) suf
  rw [List.length_set, List.length_set] at this
  rw [← List.append_assoc]
  exact this
theorem spoil_turn (b : List Int) (hn : b.length < 65521) (hx : octSum b % 256 ≠ octSum b / 256) (suf : List Int) : frameAt (longOf b.length ++ b ++ [octSum b / 256, octSum b % 256] ++ suf) 0 = none :=
  spoil b _ (by omega) rfl (fun z => hx (by unfold sumPair at z; exact ((List.cons.inj z).1).symm)) suf
end K84

set_option Elab.async false
set_option linter.all false
set_option maxRecDepth 100000
set_option maxHeartbeats 1000000
namespace K84
open PySem PySem.Spec PyProof.Rows L2 Dv
section
variable {P : Program} {w : World} {K : PySem.W.Frag} {mg : Str → Option Value} {base : Heap} {f : Addr} {fd : FuncData}
variable {κ : Kx} {r : Reg} {Γ : Gm} {a b c : Expr} {pos p : Pos}
/-- a draw below n -/
theorem z_any {v : V} {n : Int} (T : Top κ.K κ.mg) (ha : De κ r a Γ (.raw v)) (hb : De κ r b Γ (.int n)) (h0 : 0 < n) (h1 : n < 1073741824) (hd : Draws r v) (hl : 1 ≤ κ.lv := by exact Nat.le_of_ble_eq_true rfl) (hg : κ.sc.names.lookup ("_law_any" : Str) = some .globalImplicit := by rfl) (pl : Pl a := by intro _ _; rfl) (pl2 : Pl b := by intro _ _; rfl) : Pz κ r (.Call (.Name "_law_any" p) [a, b] [] pos) Γ (fun i => 0 ≤ i ∧ i < n) :=
  c_any T ha hb h0 h1 hd (fun m hm => ⟨m, rfl, by omega, hm⟩) hl hg pl pl2
/-! ### _law_of -/
def a_of : Do := fun r ds k => ∃ (v : V) (es : List D), ds = [.raw v, .lst es] ∧ es ≠ [] ∧ es.length < 1000000 ∧ Draws r v ∧ ∀ d ∈ es, k d
theorem ok_of (T : Top K mg) (P : Program) (w : World) (base : Heap) (fd : FuncData) (F : FnP K "_law_of" st_law_of f fd) : FnOk P w K mg base CX0 2 f fd ["deal", "some"] (spD K a_of) := by
  refine fn_D (lv := 1) F sc_law_of (fun r ds k h => by obtain ⟨i, j, rfl, _⟩ := h; rfl) fun cdv A' outer s H E hr r ds k h => ?_
  obtain ⟨v, es, rfl, hne, hl, hd, hk⟩ := h
  show Bk _ r _ [.val _, .val _] _
  have hp : 0 < es.length := List.length_pos_iff.mpr hne
  exact b_one (s_ret (k := k) (z_ixL (d_var 1) (z_any T (d_var 0) (d_lenL T.m_len (d_var 1)) (by omega) (by omega) hd) fun i hi => by
    have hi2 : i.toNat < es.length := by omega
    exact ⟨es[i.toNat], at_natI hi.1 (List.getElem?_eq_getElem hi2), hk _ (List.getElem_mem hi2)⟩) fun d hd => hd)
theorem c_of {v : V} {kd : D → Prop} {n : Nat} (T : Top κ.K κ.mg) (ha : De κ r a Γ (.raw v)) (hb : Pe κ r b Γ (AllOf kd n)) (hd : Draws r v) (h0 : 0 < n := by decide) (h1 : n < 1000000 := by decide) (hl : 2 ≤ κ.lv := by exact Nat.le_of_ble_eq_true rfl) (hg : κ.sc.names.lookup ("_law_of" : Str) = some .globalImplicit := by rfl) (pl : Pl a := by intro _ _; rfl) (pl2 : Pl b := by intro _ _; rfl) : Pe κ r (.Call (.Name "_law_of" p) [a, b] [] pos) Γ kd :=
  callD T.d_law_of (fun P w base fd F => ok_of T P w base fd F) bd_law_of hl T.g_law_of hg (a_cons (k := fun ds => ∃ es, ds = [.raw v, .lst es] ∧ es.length = n ∧ ∀ x ∈ es, kd x) (fun X _ => pl X.env [b]) ha (a_cons (k := fun ds => ∃ es, ds = [.lst es] ∧ es.length = n ∧ ∀ x ∈ es, kd x) (fun X _ => pl2 X.env []) hb (a_nil (k := fun ds => ds = []) rfl) (by rintro _ _ ⟨es, rfl, h⟩ rfl; exact ⟨es, rfl, h⟩)) (by rintro _ _ rfl ⟨es, rfl, h⟩; exact ⟨es, rfl, h⟩))
    (by
      rintro _ ⟨es, rfl, h2, h3⟩ C
      exact ⟨v, es, rfl, fun z => by subst z; simp at h2; omega, by omega, hd.cells C, h3⟩) (by decide) (fun X _ => pl X.env [b]) (fun X _ => by rw [pl2 X.env []]; rfl)
/-! ### _law_block_sum -/
theorem tri_le : ∀ m : Nat, tri m ≤ m * m
  | 0 => Nat.le_refl _
  | m + 1 => by
    have := tri_le m
    show tri m + m ≤ (m + 1) * (m + 1)
    rw [Nat.add_mul, Nat.mul_add]
    omega
def a_block_sum : Do := fun _ ds k => ∃ (b : List Int) (m : Nat), ds = [lsI b, .int m] ∧ b.length ≤ 100000 ∧ m ≤ 200000 ∧ k (.int (octSum (rep m b)))
theorem ok_block_sum (T : Top K mg) (P : Program) (w : World) (base : Heap) (fd : FuncData) (F : FnP K "_law_block_sum" st_law_block_sum f fd) : FnOk P w K mg base CX0 1 f fd ["block", "many"] (spD K a_block_sum) := by
  refine fn_D (lv := 0) F sc_law_block_sum (fun r ds k h => by obtain ⟨i, j, rfl, _⟩ := h; rfl) fun cdv A' outer s H E hr r ds k h => ?_
  obtain ⟨b, m, rfl, hl, hm, hk⟩ := h
  show Bk _ r _ [.val _, .val _, .no, .no, .no] _
  refine b_cons (ds_par 2 3 (dv_val (d_lenL T.m_len (d_var 0)) (dv_val d_int dv_nil)) ?_)
  show Bk _ r _ [.val _, .val _, .val _, .val _, .no] _
  refine b_cons (s_for (g := gName 4) (fun _ i Γ => Γ = [.val (lsI b), .val (.int m), .val (.int (b.map D.int).length), .val (.int (part b i)), .no]) (di_rng (n := b.length) T.m_range (d_var 2) (by rw [List.length_map]; omega) (by omega) (by rw [List.length_map]; omega)) (fun X hX => pg_name' (i := 4) sto hX) (fun _ _ => rfl) ?turn ?done)
  case turn =>
    rintro _ i d _ rfl hd rfl
    obtain ⟨hi, rfl⟩ := rng0_get hd
    refine ⟨_, tg_name 4 _, b_one (ds_set 3 (d_add (d_var 3) (d_mul (d_add (d_var 4) d_int) (d_ixL (d_var 0) (d_var 4) (at_I rfl hi)) (.inl (by omega)))) (Up.by (.eq (.eq (.eq (.val ?_ (.no .nil))))) rfl))⟩
    rw [part_succ]
  case done =>
    rintro _ _ rfl rfl
    rw [rngD_len]
    have ht := tri_le m
    have ht2 : m * m ≤ 200000 * 200000 := Nat.mul_le_mul hm hm
    refine b_one (ds_ret (d := .int (octSum (rep m b))) (De.to (d_mod (d_intI T.m_int (d_add (d_mul (d_var 1) (d_var 3) (.inl (by omega))) (d_mul (d_mul (d_sum T.m_sum (d_var 0)) (d_var 2) (.inr (by rw [List.length_map]; omega))) (d_fdiv (d_mul (d_var 1) (d_sub (d_var 1) d_int) (.inl (by omega))) d_int (by unfold CDiv; omega)) (.inr (by rw [tri_eq]; omega))))) d_int (by decide)) ?_) hk)
    unfold octSum
    rw [placed_rep, tri_eq, List.length_map]
    rfl
theorem c_block_sum {bs : List Int} {m : Nat} (T : Top κ.K κ.mg) (ha : De κ r a Γ (lsI bs)) (hb : De κ r b Γ (.int m)) (h1 : bs.length ≤ 100000) (h2 : m ≤ 200000) (hl : 1 ≤ κ.lv := by exact Nat.le_of_ble_eq_true rfl) (hg : κ.sc.names.lookup ("_law_block_sum" : Str) = some .globalImplicit := by rfl) (pl : Pl a := by intro _ _; rfl) (pl2 : Pl b := by intro _ _; rfl) : De κ r (.Call (.Name "_law_block_sum" p) [a, b] [] pos) Γ (.int (octSum (rep m bs))) :=
  callD T.d_law_block_sum (fun P w base fd F => ok_block_sum T P w base fd F) bd_law_block_sum hl T.g_law_block_sum hg (da_cons ha (da_cons hb da_nil (fun X _ => pl2 X.env [])) (fun X _ => pl X.env [b])) (by rintro _ rfl C; exact ⟨bs, m, rfl, h1, h2, rfl⟩) (by decide) (fun X _ => pl X.env [b]) (fun X _ => by rw [pl2 X.env []]; rfl)
/-! ### _law_whole -/
def a_whole : DoN := fun _ ds k => ∃ b : List Int, ds = [lsI b, .int (octSum b)] ∧ b.length ≤ 1000000 ∧ k ((dueOf b).map D.int)
theorem ok_whole (T : Top K mg) (P : Program) (w : World) (base : Heap) (fd : FuncData) (F : FnP K "_law_whole" st_law_whole f fd) : FnOk P w K mg base CX0 3 f fd ["body", "total"] (spN K a_whole) := by
  refine fn_N (lv := 2) F sc_law_whole (fun r ds k h => by obtain ⟨i, rfl, _⟩ := h; rfl) fun cdv A' outer s H E hr r ds k h => ?_
  obtain ⟨b, rfl, hl, hk⟩ := h
  show Bk _ r _ [.val _, .val _] _
  have h3 := longOf_len b.length
  refine b_one (ds_retN (ds := ((longOf b.length).map D.int ++ b.map D.int) ++ [.int (octSum b % 256), .int (octSum b / 256)]) (n_cat (Dn.de (n_cat (c_long (n := b.length) T (De.to (d_lenL T.m_len (d_var 0)) (by rw [List.length_map]))) (d_var 0) ?_)) (Dn.de (n_lst (da_cons (d_mod (d_intI T.m_int (d_var 1)) d_int (by decide)) (da_cons (d_fdiv (d_var 1) d_int (by unfold CDiv; omega)) da_nil)))) ?_) ?_)
  · rw [List.length_map, List.length_map]; omega
  · simp; omega
  · have e : (dueOf b).map D.int = ((longOf b.length).map D.int ++ b.map D.int) ++ [.int (octSum b % 256), .int (octSum b / 256)] := by
      unfold dueOf sumPair
      rw [List.map_append, List.map_append]; rfl
    rw [e] at hk
    exact hk
theorem c_whole {bs : List Int} (T : Top κ.K κ.mg) (ha : De κ r a Γ (lsI bs)) (hb : De κ r b Γ (.int (octSum bs))) (h1 : bs.length ≤ 1000000) (hl : 3 ≤ κ.lv := by exact Nat.le_of_ble_eq_true rfl) (hg : κ.sc.names.lookup ("_law_whole" : Str) = some .globalImplicit := by rfl) (pl : Pl a := by intro _ _; rfl) (pl2 : Pl b := by intro _ _; rfl) : Dn κ r (.Call (.Name "_law_whole" p) [a, b] [] pos) Γ ((dueOf bs).map D.int) :=
  callN T.d_law_whole (fun P w base fd F => ok_whole T P w base fd F) bd_law_whole hl T.g_law_whole hg (da_cons ha (da_cons hb da_nil (fun X _ => pl2 X.env [])) (fun X _ => pl X.env [b])) (by rintro _ rfl C; exact ⟨bs, rfl, h1, rfl⟩) (by decide) (fun X _ => pl X.env [b]) (fun X _ => by rw [pl2 X.env []]; rfl)
end
end K84

set_option Elab.async false
set_option linter.all false
set_option maxRecDepth 100000
set_option maxHeartbeats 1000000
namespace K84
open PySem PySem.Spec PyProof.Rows L2 Dv
section
variable {P : Program} {w : World} {K : PySem.W.Frag} {mg : Str → Option Value} {base : Heap} {f : Addr} {fd : FuncData}
variable {κ : Kx} {r : Reg} {Γ : Gm} {a b c : Expr} {pos p : Pos}
def In (lo hi : Int) : Int → Prop := fun i => lo ≤ i ∧ i ≤ hi
theorem zin {lo hi i : Int} {j : Nat} (h : (decide (lo ≤ i) && decide (i ≤ hi)) = true := by rfl) : Pz κ r (.Constant (.int i) j pos) Γ (In lo hi) := z_of d_int (by
  rw [Bool.and_eq_true] at h
  exact ⟨of_decide_eq_true h.1, of_decide_eq_true h.2⟩)
def pairD (b : List Int) : D := .tup [lsI b, lsI (dueOf b)]
def intIn (lo hi : Int) : D → Prop := fun d => ∃ i, d = .int i ∧ In lo hi i
theorem all_ints {n : Nat} {es : List D} (h : ∀ x ∈ es, intIn 0 255 x) : ∃ ns : List Int, es = ns.map D.int ∧ Oct ns := by
  induction es with
  | nil => exact ⟨[], rfl, fun _ h => (nomatch h)⟩
  | cons e es ih =>
    obtain ⟨ns, h1, h2⟩ := ih fun x hx => h x (List.mem_cons_of_mem _ hx)
    obtain ⟨i, h3, h4, h5⟩ := h e (List.mem_cons_self ..)
    refine ⟨i :: ns, by rw [h1, h3]; rfl, fun n hn => ?_⟩
    rcases List.mem_cons.mp hn with rfl | hn
    · exact ⟨h4, by omega⟩
    · exact h2 n hn
def codes (s : Str) : List Int := s.cps.toList.map Int.ofNat
theorem d_rep {bs : List Int} {t : Nat} (ha : De κ r a Γ (lsI bs)) (hb : De κ r b Γ (.int t)) (h : (rep t bs).length ≤ 16000000) (ht : t ≤ 16000000) : De κ r (.BinOp a .Mult b pos) Γ (lsI (rep t bs)) :=
  De.to (Dn.de (n_rep ha hb (by omega) (by rw [List.length_map]; rw [rep_len, Nat.mul_comm] at h; exact h) (by omega))) (by
    unfold rep
    rw [show lsI (List.replicate t bs).flatten = D.lst ((List.replicate t bs).flatten.map D.int) from rfl, List.map_flatten, List.map_replicate]; rfl)
def strOk : D → Prop := fun d => ∃ s : Str, d = .str s ∧ s.length ≤ 100 ∧ (∀ c ∈ s.cps.toList, c < 256)
theorem str_ok {s : Str} (h : (decide (s.length ≤ 100) && s.cps.toList.all fun c => decide (c < 256)) = true := by decide +kernel) : ∀ d, d = D.str s → strOk d := by
  rintro _ rfl
  rw [Bool.and_eq_true] at h
  exact ⟨s, rfl, of_decide_eq_true h.1, fun c hc => of_decide_eq_true (List.all_eq_true.mp h.2 c hc)⟩
def a_body : Do := fun r ds k => ∃ (v : V) (g : Bool), ds = [.raw v, .bl g] ∧ Draws r v ∧ ∀ b, Oct b → b.length ≤ 4000 → k (pairD b)
def mB (v : V) (g : Bool) : Gm → Prop := fun Γ => ∃ m : Int, In 0 4000 m ∧ Γ = [.val (.raw v), .val (.bl g), .val (.int m), .no, .no, .no, .no, .no]
theorem ok_body (T : Top K mg) (P : Program) (w : World) (base : Heap) (fd : FuncData) (F : FnP K "_law_body" st_law_body f fd) : FnOk P w K mg base CX0 4 f fd ["deal", "great"] (spD K a_body) := by
  refine fn_D (lv := 3) F sc_law_body (fun r ds k h => by obtain ⟨i, j, rfl, _⟩ := h; rfl) fun cdv A' outer s H E hr r ds k h => ?_
  obtain ⟨v, g, rfl, hd, hk⟩ := h
  show Bk _ r _ [.val _, .val _, .no, .no, .no, .no, .no, .no] _
  refine b_cut (mB v g) (s_set (i := 2) sto (k := intIn 0 4000) (c_of T (d_var 0) (lst_all (pall_cons zin (pall_cons zin (pall_cons zin (pall_cons zin (pall_cons zin (pall_cons zin (pall_cons zin (pall_cons zin (pall_cons zin pall_nil)))))))))) hd) (by rintro _ ⟨i, rfl, hi⟩; exact ⟨_, Wk.refl _, i, hi, rfl⟩)) ?_
  rintro _ ⟨m, hm, rfl⟩
  refine b_cut (mB v g) (s_if (kt := fun _ => True) (tz_eq (z_any T (d_var 0) d_int (by decide) (by decide) hd) (z_of (k := fun _ => True) d_int trivial) (fun _ _ _ _ => trivial)) (fun _ => b_one (s_set (i := 2) sto (k := intIn 0 4000) (c_of T (d_var 0) (lst_all (pall_cons zin (pall_cons zin (pall_cons zin (pall_cons zin (pall_cons zin (pall_cons zin (pall_cons zin pall_nil)))))))) hd) (by rintro _ ⟨i, rfl, hi⟩; exact ⟨_, Wk.refl _, i, hi, rfl⟩))) (fun _ => b_nil ⟨_, Wk.refl _, m, hm, rfl⟩)) ?_
  rintro _ ⟨m, hm, rfl⟩
  refine b_cut (mB v g) (ds_if (dt_val (d_var 1)) (fun _ => b_one (s_set (i := 2) sto (k := intIn 0 4000) (c_of T (d_var 0) (lst_all (pall_cons zin (pall_cons zin (pall_cons (z_add (z_of d_int rfl) (z_any T (d_var 0) d_int (by decide) (by decide) hd) (by rintro _ j rfl hj; exact ⟨by omega, by omega⟩)) pall_nil)))) hd) (by rintro _ ⟨i, rfl, hi⟩; exact ⟨_, Wk.refl _, i, hi, rfl⟩))) (fun _ => b_nil ⟨_, Wk.refl _, m, hm, rfl⟩)) ?_
  rintro _ ⟨m, hm, rfl⟩
  refine b_cons (s_if (kt := fun _ => True) (Pw.pt (w_and (k1 := fun _ => True) ((dt_not (dt_val (d_var 1))).imp fun _ _ => trivial) (fun _ => w_and1 (tz_eq (z_any T (d_var 0) d_int (by decide) (by decide) hd) (z_of (k := fun _ => True) d_int trivial) (fun _ _ _ _ => trivial))) (fun _ => trivial))) (fun _ => ?line) (fun _ => b_nil ?_))
  case line =>
    refine b_cut (fun Γ => ∃ s : Str, (s.length ≤ 100 ∧ ∀ c ∈ s.cps.toList, c < 256) ∧ Γ = [.val (.raw v), .val (.bl g), .no, .val (.str s), .no, .no, .no, .no]) (s_set (i := 3) sto (k := strOk) (c_of T (d_var 0) (lst_all (pall_cons (d_str.imp str_ok) (pall_cons (d_str.imp str_ok) (pall_cons (d_str.imp str_ok) (pall_cons (d_str.imp str_ok) (pall_cons (d_str.imp str_ok) pall_nil)))))) hd) (by rintro _ ⟨s, rfl, hs⟩; exact ⟨_, .eq (.eq (.no (.eq (.eq (.eq (.eq (.eq .nil))))))), s, hs, rfl⟩)) ?_
    rintro _ ⟨z, ⟨hz, hz2⟩, rfl⟩
    have hcl : z.cps.toList.length = z.length := by rw [Array.length_toList]; rfl
    have hzl : (codes z).length = z.length := by unfold codes; rw [List.length_map, hcl]
    refine b_cons (ds_new (ds := (countedOf z.length ++ codes z).map D.int) 4 (Pn.imp (n_cat (c_counted (n := z.length) T (d_lenS T.m_len (d_var 3) (by omega))) (Dn.de (dn_lc (j := 6) (dlc (fun i => D.int ((z.cps.toList.getD i 0 : Nat) : Int)) (di_str (d_var 3)) (by unfold signsD; rw [List.length_map, hcl]; omega) ?elt))) ?len) ?eq) ?_)
    case elt =>
      intro i d hd
      unfold signsD at hd
      rw [List.getElem?_map] at hd
      cases q : z.cps.toList[i]? with
      | none => rw [q] at hd; cases hd
      | some n =>
        rw [q] at hd
        cases hd
        rw [List.getD_eq_getElem?_getD, q]
        exact d_ord T.m_ord (d_var 6) rfl
    case len =>
      unfold countedOf signsD
      rw [List.length_map, List.length_map, List.length_range, List.length_map, hcl]
      split <;> simp <;> omega
    case eq =>
      rintro _ rfl
      rw [List.map_append]
      congr 1
      unfold signsD codes
      rw [List.length_map, List.map_map]
      refine List.ext_getElem? fun i => ?_
      rw [List.getElem?_map, List.getElem?_map]
      by_cases hi : i < z.cps.toList.length
      · rw [List.getElem?_range hi]
        show some (D.int ((z.cps.toList.getD i 0 : Nat) : Int)) = _
        rw [List.getD_eq_getElem?_getD, List.getElem?_eq_getElem hi]; rfl
      · rw [List.getElem?_eq_none (by rw [List.length_range]; omega), List.getElem?_eq_none (by omega)]; rfl
    have hb : Oct (countedOf z.length ++ codes z) := by
      refine oct_app (fun n hn => ?_) (fun n hn => ?_)
      · unfold countedOf at hn
        rw [if_pos (by omega), List.mem_singleton] at hn
        subst hn
        omega
      · obtain ⟨c, hc, rfl⟩ := List.mem_map.mp hn
        have := hz2 c hc
        exact ⟨Int.natCast_nonneg c, Int.ofNat_lt.mpr this⟩
    have hbl : (countedOf z.length ++ codes z).length ≤ 4000 := by
      rw [List.length_append, hzl]
      unfold countedOf
      rw [if_pos (by omega), List.length_singleton]
      omega
    generalize (countedOf z.length ++ codes z) = bb at hb hbl
    refine b_freeze (i := 4) rfl ?_
    show Bk _ r _ [.val _, .val _, .no, .val _, .val (lsI bb), .no, .no, .no] _
    exact b_one (ds_ret (d_tup (da_cons (d_var 4) (da_cons (Dn.de (c_whole T (d_var 4) (De.to (c_block_sum (m := 1) T (d_var 4) d_int (by omega) (by decide)) (by rw [rep_one])) (by omega))) da_nil))) (hk bb hb hbl))
  refine b_cut (fun Γ => ∃ ns, (Oct ns ∧ 1 ≤ ns.length ∧ ns.length ≤ 6) ∧ Γ = [.val (.raw v), .val (.bl g), .val (.int m), .no, .own (ns.map D.int), .no, .no, .no])
    (s_lc (i := 4) (j := 7) (kn := fun z => ∃ ns, z = ns.map D.int ∧ (Oct ns ∧ 1 ≤ ns.length ∧ ns.length ≤ 6)) rfl rfl (lc_all (ki := fun z => ∃ i : Int, In 1 6 i ∧ z = rngD 0 1 i.toNat) (fun _ i acc => acc.length = i ∧ ∀ x ∈ acc, intIn 0 255 x)
      (iz_rng T.m_range (z_add (z_of d_int rfl) (z_any T (d_var 0) d_int (by decide) (by decide) hd) (by rintro _ j rfl hj; exact ⟨by omega, by omega⟩)) (by rintro i ⟨h1, h2⟩; omega))
      (by rintro _ ⟨i, ⟨h1, h2⟩, rfl⟩; rw [rngD_len]; omega) (fun _ _ => ⟨rfl, fun _ h => (nomatch h)⟩) ?elt ?done) sto (blkOk_by (by kernel_rfl)) (by rintro _ ⟨ns, rfl, h⟩; exact ⟨_, Wk.refl _, ns, h, rfl⟩) (by intro X hX; obtain rfl := hX; exact sw_true rfl rfl rfl (by decide +kernel))) ?_
  case elt =>
    rintro _ i d acc ⟨j, hj, rfl⟩ hd' ⟨h1, h2⟩
    obtain ⟨hi, rfl⟩ := rng0_get hd'
    refine Pe.imp (c_of (kd := intIn 0 255) T (d_var 0) (lst_all (pall_cons zin (pall_cons zin (pall_cons zin (pall_cons zin (pall_cons (Pz.imp (z_any T (d_var 0) d_int (by decide) (by decide) hd) (by rintro n ⟨h3, h4⟩; exact ⟨by omega, by omega⟩)) pall_nil)))))) hd) fun e he => ⟨by rw [List.length_append, h1]; rfl, fun x hx => ?_⟩
    rcases List.mem_append.mp hx with hx | hx
    · exact h2 x hx
    · rw [List.mem_singleton.mp hx]; exact he
  case done =>
    rintro _ acc ⟨i, ⟨h3, h4⟩, rfl⟩ ⟨h1, h2⟩
    obtain ⟨ns, e1, e2⟩ := all_ints (n := 0) h2
    subst e1
    rw [rngD_len, List.length_map] at h1
    exact ⟨ns, rfl, e2, by omega, by omega⟩
  rintro _ ⟨ns, ⟨ho, hn1, hn6⟩, rfl⟩
  refine b_freeze (i := 4) rfl ?_
  show Bk _ r _ [.val _, .val _, .val _, .no, .val (lsI ns), .no, .no, .no] _
  have hq : ∃ q : Nat, (if (if (6 : Int) < m then 6 else m) > 1 then (if (6 : Int) < m then 6 else m) else 1) = (q : Int) ∧ 1 ≤ q := by
    refine ⟨(if (if (6 : Int) < m then 6 else m) > 1 then (if (6 : Int) < m then 6 else m) else 1).toNat, ?_, ?_⟩ <;> (repeat' split) <;> omega
  obtain ⟨q, hq, hq1⟩ := hq
  refine b_cons (ds_new (ds := (ns.take q).map D.int) 4 (Pn.imp (n_slice (d_var 4) do_none (do_some (d_max2 T.m_max d_int (d_min2 T.m_min (d_var 2) d_int)))) (by
    rintro _ rfl
    rw [hq, cutD_to, List.map_take])) ?_)
  refine b_freeze (i := 4) rfl ?_
  have hbl : 1 ≤ (ns.take q).length ∧ (ns.take q).length ≤ 6 := by
    rw [List.length_take]; omega
  have hbo := oct_take ho q
  generalize ns.take q = bs at hbl hbo
  show Bk _ r _ [.val _, .val _, .val _, .no, .val (lsI bs), .no, .no, .no] _
  have hm0 := hm.1
  have hm1 := hm.2
  obtain ⟨m', rfl⟩ : ∃ m' : Nat, m = m' := ⟨m.toNat, by omega⟩
  refine b_cons (ds_set (d := .int ((m' / bs.length : Nat) : Int)) 5 (De.to (d_fdiv (d_var 2) (d_lenL T.m_len (d_var 4)) (by unfold CDiv; rw [List.length_map]; omega)) (by rw [List.length_map]; rfl)) ?_)
  have ht : m' / bs.length * bs.length ≤ m' := Nat.div_mul_le_self m' bs.length
  have ht2 : m' / bs.length ≤ m' := Nat.div_le_self _ _
  have hrl : (rep (m' / bs.length) bs).length ≤ 4000 := by rw [rep_len]; omega
  generalize m' / bs.length = t at ht ht2 hrl
  have hrep : ∀ {κ : Kx} {r : Reg} {Γ : Gm} {a b : Expr} {pos : Pos}, De κ r a Γ (lsI bs) → De κ r b Γ (.int t) → De κ r (.BinOp a .Mult b pos) Γ (lsI (rep t bs)) := fun h1 h2 => d_rep h1 h2 (by omega) (by omega)
  exact b_one (ds_ret (d_tup (da_cons (hrep (d_var 4) (d_var 5)) (da_cons (Dn.de (c_whole T (hrep (d_var 4) (d_var 5)) (c_block_sum T (d_var 4) (d_var 5) (by omega) (by omega)) (by omega))) da_nil))) (hk _ (oct_rep hbo t) hrl))
end
end K84

set_option Elab.async false
set_option linter.all false
set_option maxRecDepth 100000
set_option maxHeartbeats 1000000
namespace K84
open PySem PySem.Spec PyProof.Rows L2 Dv
section
variable {P : Program} {w : World} {K : PySem.W.Frag} {mg : Str → Option Value} {base : Heap} {f : Addr} {fd : FuncData}
variable {κ : Kx} {r : Reg} {Γ : Gm} {a b c : Expr} {pos p : Pos}
theorem c_body {v : V} (T : Top κ.K κ.mg) (ha : De κ r a Γ (.raw v)) (hb : Pe κ r b Γ (fun d => ∃ g, d = .bl g)) (hd : Draws r v) (hl : 4 ≤ κ.lv := by exact Nat.le_of_ble_eq_true rfl) (hg : κ.sc.names.lookup ("_law_body" : Str) = some .globalImplicit := by rfl) (pl : Pl a := by intro _ _; rfl) (pl2 : Pl b := by intro _ _; rfl) : Pe κ r (.Call (.Name "_law_body" p) [a, b] [] pos) Γ (fun d => ∃ b, (Oct b ∧ b.length ≤ 4000) ∧ d = pairD b) :=
  callD T.d_law_body (fun P w base fd F => ok_body T P w base fd F) bd_law_body hl T.g_law_body hg (a_cons (k := fun ds => ∃ g, ds = [.raw v, .bl g]) (fun X _ => pl X.env [b]) ha (a_cons (k := fun ds => ∃ g, ds = [.bl g]) (fun X _ => pl2 X.env []) hb (a_nil (k := fun ds => ds = []) rfl) (by rintro _ _ ⟨g, rfl⟩ rfl; exact ⟨g, rfl⟩)) (by rintro _ _ rfl ⟨g, rfl⟩; exact ⟨g, rfl⟩))
    (by
      rintro _ ⟨g, rfl⟩ C
      exact ⟨v, g, rfl, hd.cells C, fun b h1 h2 => ⟨b, ⟨h1, h2⟩, rfl⟩⟩) (by decide) (fun X _ => pl X.env [b]) (fun X _ => by rw [pl2 X.env []]; rfl)
/-- pairs as they are found -/
structure Fd (bs : List (List Int)) : Prop where
  ne : bs ≠ []
  few : bs.length ≤ 6
  each : ∀ b ∈ bs, Oct b ∧ b.length ≤ 4000
def flatDue (bs : List (List Int)) : List Int := (bs.map dueOf).flatten
theorem flatDue_len : ∀ bs : List (List Int), (∀ b ∈ bs, Oct b ∧ b.length ≤ 4000) → (flatDue bs).length ≤ bs.length * 4005
  | [], _ => Nat.le_refl _
  | b :: bs, h => by
    have ih := flatDue_len bs fun x hx => h x (List.mem_cons_of_mem _ hx)
    have h1 := (h b (List.mem_cons_self ..)).2
    have h2 := longOf_len b.length
    show (dueOf b ++ flatDue bs).length ≤ (bs.length + 1) * 4005
    rw [List.length_append, dueOf_len, Nat.add_mul]
    omega
theorem Fd.len {bs : List (List Int)} (h : Fd bs) : (flatDue bs).length ≤ 24030 := by
  have := flatDue_len bs h.each
  have := h.few
  omega
theorem Fd.oct {bs : List (List Int)} (h : Fd bs) : Oct (flatDue bs) := oct_flat fun xs hx => by
  obtain ⟨b, hb, rfl⟩ := List.mem_map.mp hx
  have := h.each b hb
  exact oct_due this.1 (by omega)
theorem Fd.small {bs : List (List Int)} (h : Fd bs) : ∀ b ∈ bs, b.length < 2097152 := fun b hb => by have := (h.each b hb).2; omega
theorem pr0 {bb : List Int} {j} {kp : Pos} (h : De κ r c Γ (pairD bb)) : De κ r (.Subscript c (.Constant (.int 0) j kp) pos) Γ (lsI bb) := d_ixT h d_int (at_nat (j := 0) rfl)
theorem pr1 {bb : List Int} {j} {kp : Pos} (h : De κ r c Γ (pairD bb)) : De κ r (.Subscript c (.Constant (.int 1) j kp) pos) Γ (lsI (dueOf bb)) := d_ixT h d_int (at_nat (j := 1) rfl)
theorem map2 (bs : List (List Int)) : (bs.map dueOf).map lsI = bs.map fun b => lsI (dueOf b) := by rw [List.map_map]; rfl
/-! ### _law_ahead -/
def a_ahead : Do := fun r ds k => ∃ (bs : List (List Int)) (cut : Nat), ds = [.lst (bs.map pairD), .int cut] ∧ bs.length ≤ 100 ∧ ∀ (i : Nat), i ≤ bs.length → (flatDue (bs.take i)).length ≤ cut → (∀ b, bs[i]? = some b → cut < (flatDue (bs.take i)).length + (dueOf b).length) → k (.tup [.int i, .int (flatDue (bs.take i)).length])
theorem flatDue_snoc (xs : List (List Int)) (b : List Int) : flatDue (xs ++ [b]) = flatDue xs ++ dueOf b := by unfold flatDue; rw [List.map_append, List.flatten_append]; simp
theorem ok_ahead (T : Top K mg) (P : Program) (w : World) (base : Heap) (fd : FuncData) (F : FnP K "_law_ahead" st_law_ahead f fd) : FnOk P w K mg base CX0 1 f fd ["found", "cut"] (spD K a_ahead) := by
  refine fn_D (lv := 0) F sc_law_ahead (fun r ds k h => by obtain ⟨i, j, rfl, _⟩ := h; rfl) fun cdv A' outer s H E hr r ds k h => ?_
  obtain ⟨bs, cut, rfl, hl, hk⟩ := h
  show Bk _ r _ [.val _, .val _, .no, .no] _
  refine b_cons (ds_set 2 d_int ?_)
  refine b_cons (s_for (g := gName 3) (fun _ i Γ => (flatDue (bs.take i)).length ≤ cut ∧ Γ = [.val (.lst (bs.map pairD)), .val (.int cut), .val (.int (flatDue (bs.take i)).length), .no]) (di_rng (n := bs.length) T.m_range (d_lenL T.m_len (d_var 0)) (by rw [List.length_map]; omega) (by omega) (by omega)) (fun X hX => pg_name' (i := 3) sto hX) (fun _ _ => ⟨Nat.zero_le _, rfl⟩) ?turn ?done)
  case turn =>
    rintro _ i d _ rfl hd ⟨hp, rfl⟩
    obtain ⟨hi, rfl⟩ := rng0_get hd
    have q : bs[i]? = some bs[i] := List.getElem?_eq_getElem hi
    have e1 : flatDue (bs.take (i + 1)) = flatDue (bs.take i) ++ dueOf bs[i] := by rw [take_get q, flatDue_snoc]
    have at1 : L2.atI (bs.map pairD) (i : Int) = some (pairD bs[i]) := at_nat (by rw [List.getElem?_map, q]; rfl)
    refine ⟨_, tg_name 3 _, b_cons (ds_if (b := decide ((cut : Int) < (flatDue (bs.take i)).length + ((dueOf bs[i]).map D.int).length)) (dt_gt (d_add (d_var 2) (d_lenL T.m_len (pr1 (d_ixL (d_var 0) (d_var 3) at1)))) (d_var 1)) (fun z => ?_) (fun z => b_nil ?_))⟩
    · have z := of_decide_eq_true z
      rw [List.length_map] at z
      refine b_one (ds_ret (d_tup (da_cons (d_var 3) (da_cons (d_var 2) da_nil))) (hk i (by omega) hp fun b hb => ?_))
      rw [q] at hb
      cases hb
      omega
    · have z := of_decide_eq_false z
      rw [List.length_map] at z
      refine b_one (ds_set (d := .int ((flatDue (bs.take (i + 1))).length : Nat)) 2 (De.to (d_add (d_var 2) (d_lenL T.m_len (pr1 (d_ixL (d_var 0) (d_var 3) at1)))) (by rw [e1, List.length_append, List.length_map]; rfl)) (Up.by (.eq (.eq (.eq (.no .nil)))) ⟨?_, rfl⟩))
      rw [e1, List.length_append]; omega
  case done =>
    rintro _ _ rfl ⟨hp, rfl⟩
    rw [rngD_len] at hp ⊢
    refine b_one (ds_ret (d_tup (da_cons (De.to (d_lenL T.m_len (d_var 0)) (d' := .int (bs.length : Nat)) (by rw [List.length_map])) (da_cons (d_var 2) da_nil))) (hk _ (Nat.le_refl _) hp fun b hb => ?_))
    rw [List.getElem?_eq_none (Nat.le_refl _)] at hb
    cases hb
theorem c_ahead {bs : List (List Int)} {cut : Nat} (T : Top κ.K κ.mg) (ha : De κ r a Γ (.lst (bs.map pairD))) (hb : De κ r b Γ (.int cut)) (h1 : bs.length ≤ 100) (hl : 1 ≤ κ.lv := by exact Nat.le_of_ble_eq_true rfl) (hg : κ.sc.names.lookup ("_law_ahead" : Str) = some .globalImplicit := by rfl) (pl : Pl a := by intro _ _; rfl) (pl2 : Pl b := by intro _ _; rfl) : Pe κ r (.Call (.Name "_law_ahead" p) [a, b] [] pos) Γ (fun d => ∃ i, i ≤ bs.length ∧ (flatDue (bs.take i)).length ≤ cut ∧ (∀ b, bs[i]? = some b → cut < (flatDue (bs.take i)).length + (dueOf b).length) ∧ d = .tup [.int i, .int (flatDue (bs.take i)).length]) :=
  callD T.d_law_ahead (fun P w base fd F => ok_ahead T P w base fd F) bd_law_ahead hl T.g_law_ahead hg (da_cons ha (da_cons hb da_nil (fun X _ => pl2 X.env [])) (fun X _ => pl X.env [b])) (by rintro _ rfl C; exact ⟨bs, cut, rfl, h1, fun i h2 h3 h4 => ⟨i, h2, h3, h4, rfl⟩⟩) (by decide) (fun X _ => pl X.env [b]) (fun X _ => by rw [pl2 X.env []]; rfl)
/-! ### _law_frames_hold -/
def a_fd : Do := fun r ds k => ∃ (bs : List (List Int)), ds = [.lst (bs.map pairD)] ∧ Fd bs ∧ k (.bl true)
theorem ok_frames_hold (T : Top K mg) (P : Program) (w : World) (base : Heap) (fd : FuncData) (F : FnP K "_law_frames_hold" st_law_frames_hold f fd) : FnOk P w K mg base CX0 5 f fd ["found"] (spD K a_fd) := by
  refine fn_D (lv := 4) F sc_law_frames_hold (fun r ds k h => by obtain ⟨i, rfl, _⟩ := h; rfl) fun cdv A' outer s H E hr r ds k h => ?_
  obtain ⟨bs, rfl, hf, hk⟩ := h
  show Bk _ r _ [.val _, .no, .no, .no, .no] _
  have few := hf.few
  refine b_cons (s_for (g := gT2 _ 1 2) (fun _ i Γ => Γ = [.val (.lst (bs.map pairD)), .no, .no, .no, .no]) (di_list (d_var 0)) (fun X hX => pg_t2 (i := 1) (j := 2) sto sto hX) (fun _ _ => rfl) ?turn ?done)
  case turn =>
    rintro _ i d _ rfl hd rfl
    obtain ⟨bb, h1, rfl, h2⟩ := map_get hd
    have h3 := hf.each bb h2
    refine ⟨_, tg_t2 1 2 _ _, b_one (ds_if (b := false) (Dt.to (dt_not (dt_val (c_is_row T (c_frame T (d_tupleL T.m_tuple (d_var 1)) (by omega)) (d_var 2) ?len))) ?eq) (fun z => nomatch z) (fun _ => b_nil (Up.by (.eq (.no (.no (.eq (.eq .nil))))) rfl)))⟩
    case len =>
      have := longOf_len bb.length
      rw [frameOf_due _ (by omega), dueOf_len]; omega
    case eq => rw [frameOf_due _ (by omega)]; simp
  case done =>
    rintro _ _ rfl rfl
    have hlen := hf.len
    refine b_cons (ds_set (d := tpI (flatDue bs)) 3 (d_tupleL T.m_tuple (c_flat (nss := bs.map dueOf) T (De.to (Dn.de (dn_lc (j := 4) (dlc_map pairD (fun b => lsI (dueOf b)) (di_list (d_var 0)) (by omega) fun y _ => pr1 (d_var 4)))) (by rw [map2])) (show (flatDue bs).length ≤ _ by omega))) ?_)
    show Bk _ r _ [.val _, .no, .no, .val _, .no] _
    obtain ⟨b0, bs', e0⟩ : ∃ b0 bs', bs = b0 :: bs' := by
      cases bs with
      | nil => exact absurd rfl hf.ne
      | cons b0 bs' => exact ⟨b0, bs', rfl⟩
    have h0 := hf.each b0 (by rw [e0]; exact List.mem_cons_self ..)
    have at0 : ∀ {κ : Kx} {r : Reg} {Γ : Gm} {c : Expr} {pos kp : Pos} {j}, De κ r c Γ (.lst (bs.map pairD)) → De κ r (.Subscript c (.Constant (.int 0) j kp) pos) Γ (pairD b0) := fun h => d_ixL h d_int (at_nat (j := 0) (by rw [e0]; rfl))
    refine b_cons (s_if (kt := fun z => z = false) (Pw.pt (w_and (k1 := fun _ => True) ((dt_lt (d_lenT T.m_len (d_var 3)) d_int).imp fun _ _ => trivial) (fun _ => w_and1 (Dt.to (dt_not (dt_val (c_is_row T (c_frameK T (d_tupleL T.m_tuple (pr0 (at0 (d_var 0)))) (by omega)) (pr1 (at0 (d_var 0))) ?len))) ?eq)) (fun _ => rfl))) (fun z => nomatch z) (fun _ => b_nil ?_))
    case len =>
      have := longOf_len b0.length
      rw [frameOf_due _ (by omega), dueOf_len]; omega
    case eq => rw [frameOf_due _ (by omega)]; simp
    refine b_one (ds_ret (c_is_told T (c_frames T (d_var 3) hf.oct (by omega) ?chain) (Dn.de (dn_lc (j := 4) (dlc_map pairD lsI (di_list (d_var 0)) (by omega) fun y _ => pr0 (d_var 4)))) (De.to (d_lenT T.m_len (d_var 3)) (by rw [List.length_map])) (fun b hb => by have := hf.each b hb; omega) (by omega)) hk)
    case chain =>
      have := chain_of bs [] hf.small frameAt_nil
      rw [List.append_nil] at this
      exact this
end
end K84

set_option Elab.async false
set_option linter.all false
set_option maxRecDepth 100000
set_option maxHeartbeats 1000000
namespace Dv
open PySem PySem.Spec PyProof.Rows L2
theorem z_cat {κ : Kx} {r : Reg} {Γ : Gm} {a b : Expr} {pos : Pos} {kd : D → Prop} {n m : Nat} (ha : Pe κ r a Γ (AllOf kd n)) (hb : Pe κ r b Γ (AllOf kd m)) (h : n + m ≤ 16000000 := by decide) : Pn κ r (.BinOp a .Add b pos) Γ (fun z => z.length = n + m ∧ ∀ x ∈ z, kd x) := e_binN (rr := rCat) (fun _ _ => op_cat) ha hb (by
  rintro _ _ ⟨xs, rfl, h1, h2⟩ ⟨ys, rfl, h3, h4⟩ r C H v w ok hv hw Q q
  obtain ⟨p, vs, ev, hp, is⟩ := hv
  obtain ⟨p', vs', ev', hp', is'⟩ := hw
  refine ⟨p, p', vs, vs', ev, ev', (hid_some hp).1, (hid_some hp').1, ?_, fun l nl => q (xs ++ ys) (vs ++ vs') ⟨by rw [List.length_append, h1, h3], fun x hx => ?_⟩ (IsA.append is is') l nl⟩
  · have := is.len
    have := is'.len
    exact Nat.le_trans (show vs.length + vs'.length ≤ 16000000 by omega) (by decide)
  · rcases List.mem_append.mp hx with hx | hx
    · exact h2 x hx
    · exact h4 x hx)
end Dv
namespace K84
open PySem PySem.Spec PyProof.Rows L2 Dv
section
variable {P : Program} {w : World} {K : PySem.W.Frag} {mg : Str → Option Value} {base : Heap} {f : Addr} {fd : FuncData}
variable {κ : Kx} {r : Reg} {Γ : Gm} {a b c : Expr} {pos p : Pos}
theorem flatDue_app (xs ys : List (List Int)) : flatDue (xs ++ ys) = flatDue xs ++ flatDue ys := by unfold flatDue; rw [List.map_append, List.flatten_append]
theorem take_flat {bs : List (List Int)} (hs : ∀ b ∈ bs, b.length < 2097152) {i cut : Nat} (h1 : (flatDue (bs.take i)).length ≤ cut) (h2 : ∀ b, bs[i]? = some b → cut < (flatDue (bs.take i)).length + (dueOf b).length) : ∃ tail, (flatDue bs).take cut = flatDue (bs.take i) ++ tail ∧ frameAt tail 0 = none := by
  have e : flatDue bs = flatDue (bs.take i) ++ flatDue (bs.drop i) := by rw [← flatDue_app, List.take_append_drop]
  refine ⟨(flatDue (bs.drop i)).take (cut - (flatDue (bs.take i)).length), ?_, ?_⟩
  · conv => lhs; rw [e]
    rw [List.take_append, List.take_of_length_le h1]
  · cases q : bs[i]? with
    | none =>
      rw [List.drop_eq_nil_of_le (List.getElem?_eq_none_iff.mp q)]
      simp [flatDue, frameAt_nil]
    | some b =>
      have hi : i < bs.length := (List.getElem?_eq_some_iff.mp q).1
      have hb : bs[i] = b := by
        have := List.getElem?_eq_getElem hi
        rw [q] at this
        exact (Option.some.inj this).symm
      have ed : bs.drop i = b :: bs.drop (i + 1) := by rw [List.drop_eq_getElem_cons hi, hb]
      rw [ed]
      show frameAt ((dueOf b ++ flatDue (bs.drop (i + 1))).take (cut - (flatDue (bs.take i)).length)) 0 = none
      have := h2 b q
      rw [List.take_append_of_le_length (by omega)]
      exact frameAt_cut b (hs b (List.mem_of_getElem? q)) _ (by omega)
def a_dfd : Do := fun r ds k => ∃ (v : V) (bs : List (List Int)), ds = [.raw v, .lst (bs.map pairD)] ∧ Fd bs ∧ Draws r v ∧ k (.bl true)
theorem all_nat {L : Nat} : ∀ {es : List D}, (∀ x ∈ es, intIn 0 L x) → ∃ ns : List Nat, es = ns.map (fun n : Nat => D.int n) ∧ ∀ n ∈ ns, n ≤ L
  | [], _ => ⟨[], rfl, fun _ h => (nomatch h)⟩
  | e :: es, h => by
    obtain ⟨ns, h1, h2⟩ := all_nat (es := es) fun x hx => h x (List.mem_cons_of_mem _ hx)
    obtain ⟨i, h3, h4, h5⟩ := h e (List.mem_cons_self ..)
    refine ⟨i.toNat :: ns, ?_, fun n hn => ?_⟩
    · rw [h1, h3, List.map_cons, show ((i.toNat : Nat) : Int) = i by omega]
    · rcases List.mem_cons.mp hn with rfl | hn
      · omega
      · exact h2 n hn
theorem ok_cuts_hold (T : Top K mg) (P : Program) (w : World) (base : Heap) (fd : FuncData) (F : FnP K "_law_cuts_hold" st_law_cuts_hold f fd) : FnOk P w K mg base CX0 5 f fd ["deal", "found"] (spD K a_dfd) := by
  refine fn_D (lv := 4) F sc_law_cuts_hold (fun r ds k h => by obtain ⟨i, j, rfl, _⟩ := h; rfl) fun cdv A' outer s H E hr r ds k h => ?_
  obtain ⟨v, bs, rfl, hf, hd, hk⟩ := h
  show Bk _ r _ [.val _, .val _, .no, .no, .no, .no, .no, .no, .no, .no, .no, .no, .no] _
  have few := hf.few
  have hlen := hf.len
  refine b_cons (ds_tup3 (s1 := .val (lsI (flatDue bs))) (s2 := .own []) (s3 := .val (.int 0)) 2 3 4 (dv_val (c_flat (nss := bs.map dueOf) T (De.to (Dn.de (dn_lc (j := 11) (dlc_map pairD (fun b => lsI (dueOf b)) (di_list (d_var 1)) (by omega) fun y _ => pr1 (d_var 11)))) (by rw [map2])) (show (flatDue bs).length ≤ _ by omega)) (dv_new (n_lst da_nil) (dv_val d_int dv_nil))) ?_)
  show Bk _ r _ [.val _, .val _, .val _, .own _, .val _, .no, .no, .no, .no, .no, .no, .no, .no] _
  refine b_cons (s_for (g := gT2 _ 5 6) (fun _ i Γ => ∃ es : List D, (es.length = 2 * i ∧ ∀ x ∈ es, intIn 0 ((flatDue bs).length : Nat) x) ∧ Γ = [.val (.raw v), .val (.lst (bs.map pairD)), .val (lsI (flatDue bs)), .own es, .val (.int (flatDue (bs.take i)).length), .no, .no, .no, .no, .no, .no, .no, .no]) (di_list (d_var 1)) (fun X hX => pg_t2 (i := 5) (j := 6) sto sto hX) (fun _ _ => ⟨[], ⟨rfl, fun _ h => (nomatch h)⟩, rfl⟩) ?turn ?done)
  case turn =>
    rintro _ i d _ rfl hd' ⟨es, ⟨he1, he2⟩, rfl⟩
    obtain ⟨bb, h1, rfl, h2⟩ := map_get hd'
    have hi : i < bs.length := (List.getElem?_eq_some_iff.mp h1).1
    have e1 : flatDue (bs.take (i + 1)) = flatDue (bs.take i) ++ dueOf bb := by rw [take_get h1, flatDue_snoc]
    have e2 : (flatDue (bs.take (i + 1))).length ≤ (flatDue bs).length := by
      conv => rhs; rw [← List.take_append_drop (i + 1) bs, flatDue_app, List.length_append]
      omega
    have e3 : 3 ≤ (dueOf bb).length := by
      have := longOf_len bb.length
      rw [dueOf_len]; omega
    refine ⟨_, tg_t2 5 6 _ _, b_cons (ds_set (d := .int ((flatDue (bs.take (i + 1))).length : Nat)) 4 (De.to (d_add (d_var 4) (d_lenL T.m_len (d_var 6))) (by rw [e1, List.length_append, List.length_map]; rfl)) ?_)⟩
    refine b_one (ds_extend 3 rfl (Dn.de (n_lst (da_cons (d_sub (d_var 4) d_int) (da_cons (d_var 4) da_nil)))) (Up.by (.eq (.eq (.eq (.eq (.eq (.no (.no (.eq (.eq (.eq (.eq (.eq (.eq .nil))))))))))))) ⟨_, ⟨?_, ?_⟩, rfl⟩) ?_)
    · rw [List.length_append, he1]; simp; omega
    · intro x hx
      rcases List.mem_append.mp hx with hx | hx
      · exact he2 x hx
      · rw [e1, List.length_append] at e2
        rcases List.mem_cons.mp hx with rfl | hx
        · exact ⟨_, rfl, by rw [e1, List.length_append]; exact ⟨by omega, by omega⟩⟩
        · rw [List.mem_singleton.mp hx]
          exact ⟨_, rfl, by rw [e1, List.length_append]; exact ⟨by omega, by omega⟩⟩
    · rw [he1]; simp; omega
  case done =>
    rintro _ _ rfl ⟨es, ⟨he1, he2⟩, rfl⟩
    rw [List.length_map] at he1
    refine b_freeze (i := 3) rfl ?_
    show Bk _ r _ [.val _, .val _, .val _, .val (.lst es), .val _, .no, .no, .no, .no, .no, .no, .no, .no] _
    have hpos : 0 < 2 * bs.length := by
      have := List.length_pos_iff.mpr hf.ne
      omega
    have lenRow : ((flatDue bs).map D.int).length = (flatDue bs).length := List.length_map ..
    refine b_cut (fun Γ => ∃ es2 : List D, (es2.length = 6 ∧ ∀ x ∈ es2, intIn 0 ((flatDue bs).length : Nat) x) ∧ Γ = [.val (.raw v), .val (.lst (bs.map pairD)), .val (lsI (flatDue bs)), .no, .no, .no, .no, .own es2, .no, .no, .no, .no, .no])
      (s_new (i := 7) sto (z_cat (kd := intIn 0 ((flatDue bs).length : Nat)) (n := 4) (m := 2) ((Pn.pe (n_lc (j := 12) (kn := fun z => z.length = 4 ∧ ∀ x ∈ z, intIn 0 ((flatDue bs).length : Nat) x) (lc_all (ki := fun z => z = rngD 0 1 4) (fun _ i acc => acc.length = i ∧ ∀ x ∈ acc, intIn 0 ((flatDue bs).length : Nat) x) (di_rng (n := 4) T.m_range d_int rfl (by decide) (by decide)) (by rintro _ rfl; rw [rngD_len]; decide) (fun _ _ => ⟨rfl, fun _ h => (nomatch h)⟩) ?elt (by rintro _ acc rfl ⟨h1, h2⟩; rw [rngD_len] at h1; exact ⟨h1, h2⟩)) sto (blkOk_by (by kernel_rfl)))).imp fun d ⟨ds, e, h1, h2⟩ => ⟨ds, e, h1, h2⟩)
        (lst_all (pall_cons (c_of T (d_var 0) ((d_var 3).imp fun d hd => ⟨es, hd, he1, he2⟩) hd hpos (by omega)) (pall_cons (c_of T (d_var 0) ((d_var 3).imp fun d hd => ⟨es, hd, he1, he2⟩) hd hpos (by omega)) pall_nil)))) ?nx) ?_
    case elt =>
      rintro _ i d acc rfl hd' ⟨h1, h2⟩
      refine Pe.imp (Pz.imp (k' := In 0 ((flatDue bs).length : Nat)) (z_any T (d_var 0) (d_add (d_lenL T.m_len (d_var 2)) d_int) (by omega) (by rw [lenRow]; omega) hd) (by rintro n ⟨h3, h4⟩; rw [lenRow] at h4; exact ⟨h3, by omega⟩)) fun e he => ⟨by rw [List.length_append, h1]; rfl, fun x hx => ?_⟩
      rcases List.mem_append.mp hx with hx | hx
      · exact h2 x hx
      · rw [List.mem_singleton.mp hx]; exact he
    case nx =>
      rintro es2 ⟨h1, h2⟩
      exact ⟨_, .eq (.eq (.eq (.no (.no (.eq (.eq (.eq (.eq (.eq (.eq (.eq (.eq .nil)))))))))))), es2, ⟨h1, h2⟩, rfl⟩
    rintro _ ⟨es2, ⟨h1, h2⟩, rfl⟩
    refine b_cut (fun Γ => ∃ ns : List Nat, (ns.length ≤ 100 ∧ ∀ n ∈ ns, n ≤ (flatDue bs).length) ∧ Γ = [.val (.raw v), .val (.lst (bs.map pairD)), .val (lsI (flatDue bs)), .no, .no, .no, .no, .own (ns.map fun n : Nat => D.int n), .no, .no, .no, .no, .no])
      (ds_if (dt_le (d_lenL T.m_len (d_var 2)) d_int) (fun z => ?short) (fun z => b_nil ?long)) ?_
    case short =>
      have z := of_decide_eq_true z
      rw [lenRow] at z
      refine b_one (ds_new 7 (n_listRg (n := (flatDue bs).length + 1) T.m_list T.m_range (d_add (d_lenL T.m_len (d_var 2)) d_int) (by rw [lenRow]; rfl) (by omega)) ⟨_, Wk.refl _, List.range ((flatDue bs).length + 1), ⟨?_, fun n hn => ?_⟩, ?_⟩)
      · rw [List.length_range]; omega
      · have := List.mem_range.mp hn
        omega
      · rw [List.map_map]
        have : (D.int ∘ fun i : Nat => (0 : Int) + (i : Nat)) = fun n : Nat => D.int n := by
          funext i
          show D.int (0 + (i : Int)) = D.int i
          rw [Int.zero_add]
        rw [this]; rfl
    case long =>
      obtain ⟨ns, e, h3⟩ := all_nat h2
      refine ⟨_, Wk.refl _, ns, ⟨?_, h3⟩, by rw [e]⟩
      rw [e, List.length_map] at h1
      omega
    rintro _ ⟨ns, ⟨h3, h4⟩, rfl⟩
    refine b_freeze (i := 7) rfl ?_
    refine b_cons (s_for (g := gName 8) (fun _ i Γ => Γ = [.val (.raw v), .val (.lst (bs.map pairD)), .val (lsI (flatDue bs)), .no, .no, .no, .no, .val (.lst (ns.map fun n : Nat => D.int n)), .no, .no, .no, .no, .no]) (di_list (d_var 7)) (fun X hX => pg_name' (i := 8) sto hX) (fun _ _ => rfl) ?turn2 (fun _ _ _ hΓ => ?done2))
    case turn2 =>
      rintro _ j d _ rfl hd' rfl
      obtain ⟨cut, h5, rfl, h6⟩ := map_get hd'
      have hcut := h4 cut h6
      refine ⟨_, tg_name 8 _, b_cons (s_asg (g := gT2 _ 9 10) (fun X hX => pg_t2 (i := 9) (j := 10) sto sto hX) (c_ahead T (d_var 1) (d_var 8) (by omega)) (fun d hd => ?_) (by intro _ _; rfl) (by intro _ _; rfl) (by intro _ _; rfl))⟩
      obtain ⟨i, g1, g2, g3, rfl⟩ := hd
      obtain ⟨tail, g4, g5⟩ := take_flat hf.small g2 g3
      have ec : cutDs ((flatDue bs).map D.int) none (some (cut : Int)) = (flatDue (bs.take i) ++ tail).map D.int := by rw [cutD_to, ← List.map_take, g4]
      have hch : Chain (flatDue (bs.take i) ++ tail) 0 (bs.take i) (flatDue (bs.take i)).length := chain_of (bs.take i) tail (fun b hb => hf.small b (List.mem_of_mem_take hb)) g5
      have hoct : Oct (flatDue (bs.take i) ++ tail) := by rw [← g4]; exact oct_take hf.oct _
      have hl2 : (flatDue (bs.take i) ++ tail).length ≤ 1000000 := by rw [← g4, List.length_take]; omega
      have hbl : (bs.take i).length ≤ 6 := by rw [List.length_take]; omega
      refine ⟨_, tg_t2 9 10 _ _, b_one (ds_if (b := false) (Dt.to (dt_not (dt_val (c_is_told T (c_frames T (d_tupleL T.m_tuple (De.to (Dn.de (n_slice (d_var 2) do_none (do_some (d_var 8)))) (by rw [ec]))) hoct hl2 hch)
        (Dn.de (dn_lc (j := 11) (dlc_map pairD lsI (di_list (De.to (Dn.de (n_slice (d_var 1) do_none (do_some (d_var 9)))) (by rw [cutD_to, ← List.map_take]))) (by omega) fun y _ => pr0 (d_var 11)))) (d_var 10) (fun b hb => by have := hf.each b (List.mem_of_mem_take hb); omega) (by omega)))) (by simp)) (fun z => nomatch z) (fun _ => b_nil (Up.by (.eq (.eq (.eq (.eq (.eq (.eq (.eq (.eq (.no (.no (.no (.eq (.eq .nil))))))))))))) rfl)))⟩
    case done2 =>
      subst hΓ
      exact b_one (ds_ret d_bl hk)
end
end K84

set_option Elab.async false
set_option linter.all false
set_option maxRecDepth 100000
set_option maxHeartbeats 1000000
namespace K84
open PySem PySem.Spec PyProof.Rows L2 Dv
section
variable {P : Program} {w : World} {K : PySem.W.Frag} {mg : Str → Option Value} {base : Heap} {f : Addr} {fd : FuncData}
variable {κ : Kx} {r : Reg} {Γ : Gm} {a b c : Expr} {pos p : Pos}
def highOf (o : Int) : Int := o + 128 * (if decide (o < 128) then 1 else 0)
def Bad (z : List Int) : Prop := Oct z ∧ z.length ≤ 5000 ∧ ∀ suf, frameAt (z ++ suf) 0 = none
def a_spoilt : Do := fun r ds k => ∃ (v : V) (b : List Int), ds = [.raw v, pairD b] ∧ Oct b ∧ b.length ≤ 4000 ∧ Draws r v ∧ ∀ z, Bad z → k (lsI z)
theorem due_at (b : List Int) : (dueOf b)[(longOf b.length).length + b.length]? = some (octSum b % 256) ∧ (dueOf b)[(longOf b.length).length + b.length + 1]? = some (octSum b / 256) := by
  unfold dueOf
  rw [List.getElem?_append_right (by rw [List.length_append]; omega), List.getElem?_append_right (by rw [List.length_append]; omega), List.length_append]
  constructor
  · rw [Nat.sub_self]; rfl
  · rw [show (longOf b.length).length + b.length + 1 - ((longOf b.length).length + b.length) = 1 by omega]; rfl
theorem ok_spoilt (T : Top K mg) (P : Program) (w : World) (base : Heap) (fd : FuncData) (F : FnP K "_law_spoilt" st_law_spoilt f fd) : FnOk P w K mg base CX0 3 f fd ["deal", "pair"] (spD K a_spoilt) := by
  refine fn_D (lv := 2) F sc_law_spoilt (fun r ds k h => by obtain ⟨i, j, rfl, _⟩ := h; rfl) fun cdv A' outer s H E hr r ds k h => ?_
  obtain ⟨v, b, rfl, ho, hlb, hd, hk⟩ := h
  show Bk _ r _ [.val _, .val _, .no, .no, .no, .no, .no, .no, .no, .no, .no] _
  have h3 := longOf_len b.length
  have hdl := dueOf_len b
  have hdo := oct_due ho (by omega)
  obtain ⟨hs0, hs1⟩ := due_at b
  have hrange := octSum_range b
  refine b_cons (ds_un2 2 3 (d_var 1) ?_)
  show Bk _ r _ [.val _, .val _, .val (lsI b), .val (lsI (dueOf b)), .no, .no, .no, .no, .no, .no, .no] _
  refine b_cut (fun Γ => ∃ i : Int, Γ = [.val (.raw v), .val (pairD b), .val (lsI b), .val (lsI (dueOf b)), .val (.int (longOf b.length).length), .val (.int i), .own ((dueOf b).map D.int), .no, .no, .no, .no])
    (s_par3 (i := 4) (j := 5) (l := 6) rfl rfl rfl (by decide) (by decide) (by decide) rfl rfl rfl (by simp) (by simp) (by simp) (v_val (kr := fun ss => ∃ i : Int, ss = [.val (.int i), .own ((dueOf b).map D.int)]) (kv := fun ss => ∃ i : Int, ss = [.val (.int (longOf b.length).length), .val (.int i), .own ((dueOf b).map D.int)]) (fun X _ => rfl) (De.to (d_sub (d_sub (d_lenL T.m_len (d_var 3)) (d_lenL T.m_len (d_var 2))) d_int) (d' := .int (longOf b.length).length) (by rw [List.length_map, List.length_map, hdl]; congr 1; omega)) (v_val (kr := fun ss => ss = [.own ((dueOf b).map D.int)]) (fun X _ => rfl) (z_any T (d_var 0) d_int (by decide) (by decide) hd) (dv_new (n_listL T.m_list (d_var 3)) dv_nil) (by rintro _ _ ⟨i, rfl, _⟩ rfl; exact ⟨i, rfl⟩)) (by rintro _ _ rfl ⟨i, rfl⟩; exact ⟨i, rfl⟩))
      (by rintro _ ⟨i, rfl⟩; exact ⟨_, _, _, rfl, _, Wk.refl _, i, rfl⟩) (by rintro X rfl _; rfl)) ?_
  rintro _ ⟨kind, rfl⟩
  have getdue : ∀ q, q < (dueOf b).length → L2.atI ((dueOf b).map D.int) (q : Int) = some (.int ((dueOf b).getD q 0)) := fun q hq => at_I rfl hq
  have bound : ∀ q, q < (dueOf b).length → 0 ≤ (dueOf b).getD q 0 ∧ (dueOf b).getD q 0 < 256 := fun q hq => oct_get hdo hq
  refine b_cut (fun Γ => Γ = [.val (.raw v), .val (pairD b), .val (lsI b), .val (lsI (dueOf b)), .val (.int (longOf b.length).length), .val (.int kind), .no, .no, .no, .no, .no])
    (ds_if (b := decide (kind = 0) && decide ((1 : Int) < (b.map D.int).length)) (Pw.pt (dw_and (dt_eq (d_var 5) d_int) (fun _ => dw_one (dt_gt (d_lenL T.m_len (d_var 2)) d_int)))) (fun z => ?swap) (fun _ => b_nil ⟨_, .eq (.eq (.eq (.eq (.eq (.eq (.no (.eq (.eq (.eq (.eq .nil)))))))))), rfl⟩)) ?_
  case swap =>
    rw [Bool.and_eq_true] at z
    have z2 := of_decide_eq_true z.2
    rw [List.length_map] at z2
    have hany : ∀ {κ : Kx} {r : Reg} {Γ : Gm} {a b' : Expr} {pos p : Pos}, True := trivial
    refine b_cut (fun Γ => ∃ x y : Nat, (x < b.length ∧ y < b.length) ∧ Γ = [.val (.raw v), .val (pairD b), .val (lsI b), .val (lsI (dueOf b)), .val (.int (longOf b.length).length), .val (.int kind), .own ((dueOf b).map D.int), .val (.int ((longOf b.length).length + x : Nat)), .val (.int ((longOf b.length).length + y : Nat)), .no, .no]) ?par ?_
    case par =>
      refine s_par (i := 7) (j := 8) rfl rfl (by decide) rfl rfl (by simp) (by simp) (kv := fun ss => ∃ x y : Nat, (x < b.length ∧ y < b.length) ∧ ss = [.val (.int ((longOf b.length).length + x : Nat)), .val (.int ((longOf b.length).length + y : Nat))])
        (v_val (k := fun d => ∃ x : Nat, x < b.length ∧ d = .int ((longOf b.length).length + x : Nat)) (kr := fun ss => ∃ y : Nat, y < b.length ∧ ss = [.val (.int ((longOf b.length).length + y : Nat))]) (fun X _ => rfl) ?one
          (v_val (k := fun d => ∃ x : Nat, x < b.length ∧ d = .int ((longOf b.length).length + x : Nat)) (kr := fun ss => ss = []) (fun X _ => rfl) ?two dv_nil (by rintro _ _ ⟨y, h, rfl⟩ rfl; exact ⟨y, h, rfl⟩)) (by rintro _ _ ⟨x, h, rfl⟩ ⟨y, h', rfl⟩; exact ⟨x, y, ⟨h, h'⟩, rfl⟩))
        (by rintro _ ⟨x, y, h, rfl⟩; exact ⟨_, _, rfl, _, Wk.refl _, x, y, h, rfl⟩) (by rintro X rfl _; rfl)
      case one => exact Pe.imp (z_add (k := fun i => ∃ x : Nat, x < b.length ∧ i = ((longOf b.length).length + x : Nat)) (z_of (d_var 4) rfl) (z_any T (d_var 0) (d_lenL T.m_len (d_var 2)) (by rw [List.length_map]; omega) (by rw [List.length_map]; omega) hd) (by rintro _ j rfl ⟨h1, h2⟩; rw [List.length_map] at h2; exact ⟨j.toNat, by omega, by omega⟩)) (by rintro _ ⟨_, rfl, x, h, rfl⟩; exact ⟨x, h, rfl⟩)
      case two => exact Pe.imp (z_add (k := fun i => ∃ x : Nat, x < b.length ∧ i = ((longOf b.length).length + x : Nat)) (z_of (d_var 4) rfl) (z_any T (d_var 0) (d_lenL T.m_len (d_var 2)) (by rw [List.length_map]; omega) (by rw [List.length_map]; omega) hd) (by rintro _ j rfl ⟨h1, h2⟩; rw [List.length_map] at h2; exact ⟨j.toNat, by omega, by omega⟩)) (by rintro _ ⟨_, rfl, x, h, rfl⟩; exact ⟨x, h, rfl⟩)
    rintro _ ⟨x, y, ⟨hx, hy⟩, rfl⟩
    have gx := getdue ((longOf b.length).length + x) (by omega)
    have gy := getdue ((longOf b.length).length + y) (by omega)
    have bx := bound ((longOf b.length).length + x) (by omega)
    have b_y := bound ((longOf b.length).length + y) (by omega)
    generalize hgx : (dueOf b).getD ((longOf b.length).length + x) 0 = dx at gx bx
    generalize hgy : (dueOf b).getD ((longOf b.length).length + y) 0 = dy at gy b_y
    refine b_cons (s_item (i := 6) rfl (Or.inl rfl) (by decide) (by decide) rfl (d_ixL (d_var 3) (d_var 8) gy) (d_var 7) fun d j hd hj => ?_)
    subst hd hj
    refine ⟨_, rfl, by rw [List.length_map]; omega, ?_⟩
    refine b_cons (s_item (i := 6) rfl (Or.inl rfl) (by decide) (by decide) rfl (d_ixL (d_var 3) (d_var 7) gx) (d_var 8) fun d j hd hj => ?_)
    subst hd hj
    refine ⟨_, rfl, by rw [List.length_set, List.length_map]; omega, ?_⟩
    refine b_one (ds_if (b := !decide (dx = dy)) (dt_ne (d_ixL (d_var 3) (d_var 7) gx) (d_ixL (d_var 3) (d_var 8) gy)) (fun z => ?_) (fun _ => b_nil ⟨_, .eq (.eq (.eq (.eq (.eq (.eq (.no (.no (.no (.eq (.eq .nil)))))))))), rfl⟩))
    have z := of_decide_eq_false ((Bool.not_eq_true' _).mp z)
    refine b_freeze (i := 6) rfl ?_
    refine b_one (ds_ret (De.to (d_var 6) (d' := lsI (((dueOf b).set ((longOf b.length).length + x) dy).set ((longOf b.length).length + y) dx)) ?_) (hk _ ⟨oct_set (oct_set hdo _ b_y.1 b_y.2) _ bx.1 bx.2, by rw [List.length_set, List.length_set]; omega, fun suf => ?_⟩))
    · show D.lst _ = D.lst _
      rw [List.map_set, List.map_set]
    · have := spoil_swap b ho (by omega) x y hx hy (by rw [hgx, hgy]; exact z) suf
      rw [hgx, hgy] at this
      exact this
  rintro _ rfl
  refine b_cons (ds_if (b := decide (kind = 1) && !decide (octSum b % 256 = octSum b / 256)) (Pw.pt (dw_and (dt_eq (d_var 5) d_int) (fun _ => dw_one (dt_ne (d_ixL (d_var 3) (d_sub (d_lenL T.m_len (d_var 3)) d_int) ?at0) (d_ixL (d_var 3) (d_sub (d_lenL T.m_len (d_var 3)) d_int) ?at1))))) (fun z => ?turned) (fun _ => b_nil ?_))
  case at0 =>
    rw [List.length_map, hdl, show (((longOf b.length).length + b.length + 2 : Nat) : Int) - 2 = ((longOf b.length).length + b.length : Nat) by omega]
    exact at_ints hs0
  case at1 =>
    rw [List.length_map, hdl, show (((longOf b.length).length + b.length + 2 : Nat) : Int) - 1 = ((longOf b.length).length + b.length + 1 : Nat) by omega]
    exact at_ints hs1
  case turned =>
    rw [Bool.and_eq_true] at z
    have z := of_decide_eq_false ((Bool.not_eq_true' _).mp z.2)
    have e : (dueOf b).take ((longOf b.length).length + b.length) = longOf b.length ++ b := by
      unfold dueOf
      rw [← List.length_append, List.take_left]
    refine b_one (ds_ret (d := lsI (longOf b.length ++ b ++ [octSum b / 256, octSum b % 256])) (De.to (Dn.de (n_cat (De.to (Dn.de (n_slice (d_var 3) do_none (do_some (d_sub (d_lenL T.m_len (d_var 3)) d_int)))) (d' := lsI (longOf b.length ++ b)) ?cut) (Dn.de (n_lst (da_cons (d_ixL (d := .int (octSum b / 256)) (d_var 3) (d_sub (d_lenL T.m_len (d_var 3)) d_int) ?at1) (da_cons (d_ixL (d := .int (octSum b % 256)) (d_var 3) (d_sub (d_lenL T.m_len (d_var 3)) d_int) ?at0) da_nil)))) ?len)) ?eq) (hk _ ⟨?oct, ?len2, spoil_turn b (by omega) z⟩))
    case cut =>
      rw [List.length_map, hdl, show (((longOf b.length).length + b.length + 2 : Nat) : Int) - 2 = ((longOf b.length).length + b.length : Nat) by omega, cutD_to, ← List.map_take, e]
    case at0 =>
      rw [List.length_map, hdl, show (((longOf b.length).length + b.length + 2 : Nat) : Int) - 2 = ((longOf b.length).length + b.length : Nat) by omega]
      exact at_ints hs0
    case at1 =>
      rw [List.length_map, hdl, show (((longOf b.length).length + b.length + 2 : Nat) : Int) - 1 = ((longOf b.length).length + b.length + 1 : Nat) by omega]
      exact at_ints hs1
    case len => rw [List.length_map, List.length_append]; simp; omega
    case eq =>
      show D.lst _ = D.lst _
      (simp only [List.map_append, List.map_cons, List.map_nil]) <;> rfl
    case oct =>
      refine oct_app (oct_app (oct_long _ (by omega)) ho) fun n hn => ?_
      simp at hn
      rcases hn with rfl | rfl <;> omega
    case len2 => rw [List.length_append, List.length_append]; simp; omega
  refine b_cons (ds_if (b := decide (kind = 2)) (dt_eq (d_var 5) d_int) (fun z => ?zero) (fun _ => b_nil ?_))
  case zero =>
    have e0 : (dueOf b).take (longOf b.length).length = longOf b.length := by unfold dueOf; rw [List.append_assoc, List.take_left]
    have e1 : (dueOf b).drop (longOf b.length).length = b ++ sumPair b := by unfold dueOf; rw [List.append_assoc, List.drop_left]
    have ec0 : cutDs ((dueOf b).map D.int) none (some ((longOf b.length).length : Int)) = (longOf b.length).map D.int := by rw [cutD_to, ← List.map_take, e0]
    have ec1 : cutDs ((dueOf b).map D.int) (some ((longOf b.length).length : Int)) none = (b ++ sumPair b).map D.int := by rw [cutD_from, ← List.map_drop, e1]
    have hL := oct_long b.length (by omega)
    refine b_one (ds_ret (d := lsI ((longOf b.length).map highOf ++ [0] ++ (b ++ sumPair b))) (De.to (Dn.de (n_cat (Dn.de (n_cat (Dn.de (dn_lc (j := 10) (dlc_map (xs := longOf b.length) D.int (fun o => D.int (highOf o)) (di_list (De.to (Dn.de (n_slice (d_var 3) do_none (do_some (d_var 4)))) (by rw [ec0]))) (by omega) fun y _ => d_add (d_var 10) (d_mul d_int (d_intB T.m_int (d_lt (d_var 10) d_int)) (.inl (by decide)))))) (Dn.de (n_lst (da_cons d_int da_nil))) ?l1)) (De.to (Dn.de (n_slice (d_var 3) (do_some (d_var 4)) do_none)) (by rw [ec1])) ?l2)) ?eq) (hk _ ⟨?oct, ?len2, fun suf => ?_⟩))
    case l1 => rw [List.length_map]; simp; omega
    case l2 => rw [List.length_append, List.length_map, List.length_map, List.length_append]; simp [sumPair]; omega
    case eq =>
      show D.lst _ = D.lst _
      (simp only [List.map_append, List.map_cons, List.map_nil, List.map_map]) <;> rfl
    case oct =>
      refine oct_app (oct_app (fun n hn => ?_) (fun n hn => ?_)) (oct_app ho (oct_pair b))
      · obtain ⟨m, hm, rfl⟩ := List.mem_map.mp hn
        have := hL m hm
        unfold highOf
        simp only [decide_eq_true_eq]
        split <;> omega
      · rw [List.mem_singleton.mp hn]; decide
    case len2 => rw [List.length_append, List.length_append, List.length_map, List.length_append]; simp [sumPair]; omega
    · rw [List.append_assoc]
      refine spoil_zero ((longOf b.length).map highOf) (b ++ sumPair b ++ suf) (fun z => ?_) fun n hn => ?_
      · have := congrArg List.length z
        rw [List.length_map] at this
        simp at this
        rw [this] at h3
        simp at h3
      · obtain ⟨m, hm, rfl⟩ := List.mem_map.mp hn
        have := hL m hm
        unfold highOf
        simp only [decide_eq_true_eq]
        split <;> omega
  refine b_cons (ds_new 6 (n_listL T.m_list (d_var 3)) ?_)
  refine b_cut (fun Γ => ∃ q : Nat, q < b.length + 2 ∧ Γ = [.val (.raw v), .val (pairD b), .val (lsI b), .val (lsI (dueOf b)), .val (.int (longOf b.length).length), .val (.int kind), .own ((dueOf b).map D.int), .no, .no, .val (.int ((longOf b.length).length + q : Nat)), .no])
    (s_set (i := 9) sto (z_add (k := fun i => ∃ q : Nat, q < b.length + 2 ∧ i = ((longOf b.length).length + q : Nat)) (z_of (d_var 4) rfl) (c_of (kd := intIn 0 (b.length + 1 : Nat)) T (d_var 0) (lst_all (pall_cons (z_of d_int ⟨by omega, by omega⟩) (pall_cons (z_of (d_lenL T.m_len (d_var 2)) (by rw [List.length_map]; exact ⟨by omega, by omega⟩)) (pall_cons (z_of (d_add (d_lenL T.m_len (d_var 2)) d_int) (by rw [List.length_map]; exact ⟨by omega, by omega⟩)) (pall_cons (Pz.imp (z_any T (d_var 0) (d_add (d_lenL T.m_len (d_var 2)) d_int) (by omega) (by rw [List.length_map]; omega) hd) (by rintro n ⟨h1, h2⟩; rw [List.length_map] at h2; exact ⟨h1, by omega⟩)) pall_nil))))) hd) (by rintro _ j rfl ⟨h1, h2⟩; exact ⟨j.toNat, by omega, by omega⟩))
      (by rintro _ ⟨_, rfl, q, h, rfl⟩; exact ⟨_, Wk.refl _, q, h, rfl⟩)) ?_
  rintro _ ⟨q, hq, rfl⟩
  have gq := getdue ((longOf b.length).length + q) (by omega)
  have bq := bound ((longOf b.length).length + q) (by omega)
  refine b_cons (s_item (i := 6) rfl (Or.inl rfl) (by decide) (by decide) rfl (z_mod (ka := fun i => ∃ t : Int, 0 ≤ t ∧ t ≤ 254 ∧ i = (dueOf b).getD ((longOf b.length).length + q) 0 + 1 + t) (kb := fun i => i = 256) (k := fun i => 0 ≤ i ∧ i < 256 ∧ i ≠ (dueOf b).getD ((longOf b.length).length + q) 0) (z_int T.m_int (z_add (z_of (d_add (d_ixL (d_var 3) (d_var 9) gq) d_int) rfl) (c_of (kd := intIn 0 254) T (d_var 0) (lst_all (pall_cons zin (pall_cons zin (pall_cons zin (pall_cons (Pz.imp (z_any T (d_var 0) d_int (by decide) (by decide) hd) (by rintro n ⟨h1, h2⟩; exact ⟨h1, by omega⟩)) pall_nil))))) hd) (by rintro _ t rfl ⟨h1, h2⟩; exact ⟨t, h1, h2, rfl⟩))) (z_of d_int rfl) ?mod) (d_var 9) fun d j hd' hj => ?_)
  case mod =>
    rintro _ _ ⟨t, h1, h2, rfl⟩ rfl
    refine ⟨by decide, by omega, by omega, ?_⟩
    omega
  obtain ⟨x, rfl, hx0, hx1, hx2⟩ := hd'
  subst hj
  refine ⟨_, rfl, by rw [List.length_map]; omega, ?_⟩
  refine b_freeze (i := 6) rfl ?_
  refine b_one (ds_ret (De.to (d_var 6) (d' := lsI ((dueOf b).set ((longOf b.length).length + q) x)) (by show D.lst _ = D.lst _; rw [List.map_set])) (hk _ ⟨oct_set hdo _ hx0 hx1, by rw [List.length_set]; omega, fun suf => spoil_set b ho (by omega) q hq x hx0 hx1 hx2 suf⟩))
theorem c_spoilt {v : V} {bb : List Int} (T : Top κ.K κ.mg) (ha : De κ r a Γ (.raw v)) (hb : De κ r b Γ (pairD bb)) (ho : Oct bb) (hlb : bb.length ≤ 4000) (hd : Draws r v) (hl : 3 ≤ κ.lv := by exact Nat.le_of_ble_eq_true rfl) (hg : κ.sc.names.lookup ("_law_spoilt" : Str) = some .globalImplicit := by rfl) (pl : Pl a := by intro _ _; rfl) (pl2 : Pl b := by intro _ _; rfl) : Pe κ r (.Call (.Name "_law_spoilt" p) [a, b] [] pos) Γ (fun d => ∃ z, d = lsI z ∧ Bad z) :=
  callD T.d_law_spoilt (fun P w base fd F => ok_spoilt T P w base fd F) bd_law_spoilt hl T.g_law_spoilt hg (da_cons ha (da_cons hb da_nil (fun X _ => pl2 X.env [])) (fun X _ => pl X.env [b])) (by rintro _ rfl C; exact ⟨v, bb, rfl, ho, hlb, hd.cells C, fun z hz => ⟨z, rfl, hz⟩⟩) (by decide) (fun X _ => pl X.env [b]) (fun X _ => by rw [pl2 X.env []]; rfl)
end
end K84

set_option Elab.async false
set_option linter.all false
set_option maxRecDepth 100000
set_option maxHeartbeats 1000000
namespace Dv
open PySem PySem.Spec PyProof.Rows L2
def LsI (k : List Int → Prop) : D → Prop := fun d => ∃ ns, d = lsI ns ∧ k ns
theorem z_catI {κ : Kx} {r : Reg} {Γ : Gm} {a b : Expr} {pos : Pos} {ka kb k : List Int → Prop} (ha : Pe κ r a Γ (LsI ka)) (hb : Pe κ r b Γ (LsI kb)) (h : ∀ xs ys, ka xs → kb ys → xs.length + ys.length ≤ 16000000 ∧ k (xs ++ ys)) : Pn κ r (.BinOp a .Add b pos) Γ (fun z => ∃ ns, z = ns.map D.int ∧ k ns) := e_binN (rr := rCat) (fun _ _ => op_cat) ha hb (by
  rintro _ _ ⟨xs, rfl, h1⟩ ⟨ys, rfl, h2⟩ r C H v w ok hv hw Q q
  obtain ⟨p, vs, ev, hp, is⟩ := hv
  obtain ⟨p', vs', ev', hp', is'⟩ := hw
  obtain ⟨h3, h4⟩ := h xs ys h1 h2
  refine ⟨p, p', vs, vs', ev, ev', (hid_some hp).1, (hid_some hp').1, ?_, fun l nl => q (xs.map D.int ++ ys.map D.int) (vs ++ vs') ⟨xs ++ ys, by rw [List.map_append], h4⟩ (IsA.append is is') l nl⟩
  have e1 := is.len
  have e2 := is'.len
  rw [List.length_map] at e1 e2
  exact Nat.le_trans (show vs.length + vs'.length ≤ 16000000 by omega) (by decide))
theorem ls_of {κ : Kx} {r : Reg} {Γ : Gm} {a : Expr} {ns : List Int} {k : List Int → Prop} (h : De κ r a Γ (lsI ns)) (hk : k ns) : Pe κ r a Γ (LsI k) := h.imp fun d hd => ⟨ns, hd, hk⟩
theorem ls_pn {κ : Kx} {r : Reg} {Γ : Gm} {a : Expr} {k : List Int → Prop} (h : Pn κ r a Γ (fun z => ∃ ns, z = ns.map D.int ∧ k ns)) : Pe κ r a Γ (LsI k) := (Pn.pe h).imp fun d ⟨ds, e, ns, e2, hk⟩ => ⟨ns, by rw [e, e2], hk⟩
end Dv
namespace K84
open PySem PySem.Spec PyProof.Rows L2 Dv
section
variable {P : Program} {w : World} {K : PySem.W.Frag} {mg : Str → Option Value} {base : Heap} {f : Addr} {fd : FuncData}
variable {κ : Kx} {r : Reg} {Γ : Gm} {a b c : Expr} {pos p : Pos}
theorem ok_spoils_hold (T : Top K mg) (P : Program) (w : World) (base : Heap) (fd : FuncData) (F : FnP K "_law_spoils_hold" st_law_spoils_hold f fd) : FnOk P w K mg base CX0 5 f fd ["deal", "found"] (spD K a_dfd) := by
  refine fn_D (lv := 4) F sc_law_spoils_hold (fun r ds k h => by obtain ⟨i, j, rfl, _⟩ := h; rfl) fun cdv A' outer s H E hr r ds k h => ?_
  obtain ⟨v, bs, rfl, hf, hd, hk⟩ := h
  show Bk _ r _ [.val _, .val _, .no, .no, .no, .no, .no, .no] _
  have few := hf.few
  have hlen := hf.len
  have hpos := List.length_pos_iff.mpr hf.ne
  have ll : (bs.map pairD).length = bs.length := List.length_map ..
  refine b_cut (fun Γ => ∃ x y : Nat, (x < bs.length ∧ y < bs.length) ∧ Γ = [.val (.raw v), .val (.lst (bs.map pairD)), .val (.int x), .val (.int y), .no, .no, .no, .no]) ?par ?_
  case par =>
    refine s_par (i := 2) (j := 3) rfl rfl (by decide) rfl rfl (by simp) (by simp) (kv := fun ss => ∃ x y : Nat, (x < bs.length ∧ y < bs.length) ∧ ss = [.val (.int x), .val (.int y)])
      (v_val (k := fun d => ∃ x : Nat, x < bs.length ∧ d = .int x) (kr := fun ss => ∃ y : Nat, y < bs.length ∧ ss = [.val (.int y)]) (fun X _ => rfl) ?one
        (v_val (k := fun d => ∃ x : Nat, x < bs.length ∧ d = .int x) (kr := fun ss => ss = []) (fun X _ => rfl) ?two dv_nil (by rintro _ _ ⟨y, h, rfl⟩ rfl; exact ⟨y, h, rfl⟩)) (by rintro _ _ ⟨x, h, rfl⟩ ⟨y, h', rfl⟩; exact ⟨x, y, ⟨h, h'⟩, rfl⟩))
      (by rintro _ ⟨x, y, h, rfl⟩; exact ⟨_, _, rfl, _, Wk.refl _, x, y, h, rfl⟩) (by rintro X rfl _; rfl)
    case one => exact Pe.imp (z_any T (d_var 0) (d_lenL T.m_len (d_var 1)) (by omega) (by omega) hd) (by rintro _ ⟨j, rfl, h1, h2⟩; exact ⟨j.toNat, by omega, by rw [show ((j.toNat : Nat) : Int) = j by omega]⟩)
    case two => exact Pe.imp (z_any T (d_var 0) (d_lenL T.m_len (d_var 1)) (by omega) (by omega) hd) (by rintro _ ⟨j, rfl, h1, h2⟩; exact ⟨j.toNat, by omega, by rw [show ((j.toNat : Nat) : Int) = j by omega]⟩)
  rintro _ ⟨x, y, ⟨hx, hy⟩, rfl⟩
  have tk : cutDs (bs.map pairD) none (some (x : Int)) = (bs.take x).map pairD := by rw [cutD_to, ← List.map_take]
  have dr : cutDs (bs.map pairD) (some ((x : Int) + 1)) none = (bs.drop (x + 1)).map pairD := by
    have := cutD_from (ds := bs.map pairD) (x + 1)
    rw [show (((x + 1 : Nat) : Int)) = (x : Int) + 1 by omega] at this
    rw [this, ← List.map_drop]
  have ht : ∀ b ∈ bs.take x, Oct b ∧ b.length ≤ 4000 := fun b hb => hf.each b (List.mem_of_mem_take hb)
  have hdp : ∀ b ∈ bs.drop (x + 1), Oct b ∧ b.length ≤ 4000 := fun b hb => hf.each b (List.mem_of_mem_drop hb)
  have ltk : (bs.take x).length ≤ 6 := by rw [List.length_take]; omega
  have ldr : (bs.drop (x + 1)).length ≤ 6 := by rw [List.length_drop]; omega
  have lf1 : (flatDue (bs.take x)).length ≤ 24030 := by
    have := flatDue_len _ ht
    omega
  have lf2 : (flatDue (bs.drop (x + 1))).length ≤ 24030 := by
    have := flatDue_len _ hdp
    omega
  have o1 : Oct (flatDue (bs.take x)) := oct_flat fun xs hx => by
    obtain ⟨b, hb, rfl⟩ := List.mem_map.mp hx
    have := ht b hb
    exact oct_due this.1 (by omega)
  have o2 : Oct (flatDue (bs.drop (x + 1))) := oct_flat fun xs hx => by
    obtain ⟨b, hb, rfl⟩ := List.mem_map.mp hx
    have := hdp b hb
    exact oct_due this.1 (by omega)
  refine b_cons (ds_set (d := lsI (flatDue (bs.take x))) 4 (c_flat (nss := (bs.take x).map dueOf) T (De.to (Dn.de (dn_lc (j := 7) (dlc_map pairD (fun b => lsI (dueOf b)) (di_list (De.to (Dn.de (n_slice (d_var 1) do_none (do_some (d_var 2)))) (by rw [tk]))) (by omega) fun y _ => pr1 (d_var 7)))) (by rw [map2])) (show (flatDue (bs.take x)).length ≤ _ by omega)) ?_)
  have atx : ∀ q, q < bs.length → L2.atI (bs.map pairD) (q : Int) = some (pairD (bs.getD q [])) := fun q hq => at_nat (by rw [List.getElem?_map, List.getElem?_eq_getElem hq, List.getD_eq_getElem?_getD, List.getElem?_eq_getElem hq]; rfl)
  have memx : ∀ q, q < bs.length → bs.getD q [] ∈ bs := fun q hq => by
    rw [List.getD_eq_getElem?_getD, List.getElem?_eq_getElem hq]
    exact List.getElem_mem hq
  have hbx := hf.each _ (memx x hx)
  refine b_cut (fun Γ => ∃ row : List Int, (∃ z, Bad z ∧ row = flatDue (bs.take x) ++ z ++ flatDue (bs.drop (x + 1))) ∧ Γ = [.val (.raw v), .val (.lst (bs.map pairD)), .val (.int x), .val (.int y), .val (lsI (flatDue (bs.take x))), .val (lsI row), .no, .no])
    (s_set (i := 5) sto (ls_pn (z_catI (k := fun row => ∃ z, Bad z ∧ row = flatDue (bs.take x) ++ z ++ flatDue (bs.drop (x + 1))) (ka := fun xs => ∃ z, Bad z ∧ xs = flatDue (bs.take x) ++ z) (kb := fun ys => ys = flatDue (bs.drop (x + 1))) (ls_pn (z_catI (ka := fun xs => xs = flatDue (bs.take x)) (kb := Bad) (ls_of (d_var 4) rfl) (c_spoilt T (d_var 0) (d_ixL (d_var 1) (d_var 2) (atx x hx)) hbx.1 hbx.2 hd) (by rintro _ z rfl hz; exact ⟨by have := hz.2.1; omega, z, hz, rfl⟩)))
      (ls_of (c_flat (nss := (bs.drop (x + 1)).map dueOf) T (De.to (Dn.de (dn_lc (j := 7) (dlc_map pairD (fun b => lsI (dueOf b)) (di_list (De.to (Dn.de (n_slice (d_var 1) (do_some (d_add (d_var 2) d_int)) do_none)) (by rw [dr]))) (by omega) fun y _ => pr1 (d_var 7)))) (by rw [map2])) (show (flatDue (bs.drop (x + 1))).length ≤ _ by omega)) rfl)
      (by rintro _ _ ⟨z, hz, rfl⟩ rfl; exact ⟨by rw [List.length_append]; have := hz.2.1; omega, z, hz, rfl⟩)))
      (by rintro _ ⟨row, rfl, h⟩; exact ⟨_, Wk.refl _, row, h, rfl⟩)) ?_
  rintro _ ⟨_, ⟨z, hz, rfl⟩, rfl⟩
  have hch : Chain (flatDue (bs.take x) ++ z ++ flatDue (bs.drop (x + 1))) 0 (bs.take x) (flatDue (bs.take x)).length := by
    rw [List.append_assoc]
    exact chain_of (bs.take x) _ (fun b hb => by have := (ht b hb).2; omega) (hz.2.2 _)
  refine b_cons (ds_if (b := false) (Dt.to (dt_not (dt_val (c_is_told T (c_frames T (d_tupleL T.m_tuple (d_var 5)) (oct_app (oct_app o1 hz.1) o2) (by rw [List.length_append, List.length_append]; have := hz.2.1; omega) hch)
    (Dn.de (dn_lc (j := 7) (dlc_map pairD lsI (di_list (De.to (Dn.de (n_slice (d_var 1) do_none (do_some (d_var 2)))) (by rw [tk]))) (by omega) fun y _ => pr0 (d_var 7)))) (De.to (d_lenL T.m_len (d_var 4)) (by rw [List.length_map])) (fun b hb => by have := ht b hb; omega) (by omega)))) (by simp)) (fun z => nomatch z) (fun _ => b_nil ?_))
  refine b_cons (ds_new 6 (n_listL T.m_list (d_var 1)) ?_)
  refine b_cons (s_item (i := 6) rfl (Or.inl rfl) (by decide) (by decide) rfl (d_ixL (d_var 1) (d_var 3) (atx y hy)) (d_var 2) fun d j hd' hj => ?_)
  subst hd' hj
  refine ⟨_, rfl, by omega, ?_⟩
  refine b_cons (s_item (i := 6) rfl (Or.inl rfl) (by decide) (by decide) rfl (d_ixL (d_var 1) (d_var 2) (atx x hx)) (d_var 3) fun d j hd' hj => ?_)
  subst hd' hj
  refine ⟨_, rfl, by rw [List.length_set]; omega, ?_⟩
  refine b_freeze (i := 6) rfl ?_
  have es : (((bs.map pairD).set x (pairD (bs.getD y []))).set y (pairD (bs.getD x []))) = ((bs.set x (bs.getD y [])).set y (bs.getD x [])).map pairD := by rw [List.map_set, List.map_set]
  have hf2 : Fd ((bs.set x (bs.getD y [])).set y (bs.getD x [])) := ⟨fun z => by
      have := congrArg List.length z
      rw [List.length_set, List.length_set] at this
      simp at this
      exact hf.ne this, by rw [List.length_set, List.length_set]; exact few, fun b hb => by
      rcases List.mem_or_eq_of_mem_set hb with hb | rfl
      · rcases List.mem_or_eq_of_mem_set hb with hb | rfl
        · exact hf.each b hb
        · exact hf.each _ (memx y hy)
      · exact hf.each _ (memx x hx)⟩
  show Bk _ r _ [.val _, .val _, .val _, .val _, .val _, .val _, .val (.lst (((bs.map pairD).set x (pairD (bs.getD y []))).set y (pairD (bs.getD x [])))), .no] _
  rw [es]
  generalize (bs.set x (bs.getD y [])).set y (bs.getD x []) = cs at hf2
  have few2 := hf2.few
  have hlen2 := hf2.len
  refine b_cons (ds_set (d := lsI (flatDue cs)) 5 (c_flat (nss := cs.map dueOf) T (De.to (Dn.de (dn_lc (j := 7) (dlc_map pairD (fun b => lsI (dueOf b)) (di_list (d_var 6)) (by omega) fun y _ => pr1 (d_var 7)))) (by rw [map2])) (show (flatDue cs).length ≤ _ by omega)) ?_)
  refine b_one (ds_ret (c_is_told T (c_framesK T (d_tupleL T.m_tuple (d_var 5)) hf2.oct (by omega) ?chain) (Dn.de (dn_lc (j := 7) (dlc_map pairD lsI (di_list (d_var 6)) (by omega) fun y _ => pr0 (d_var 7)))) (De.to (d_lenL T.m_len (d_var 5)) (by rw [List.length_map])) (fun b hb => by have := hf2.each b hb; omega) (by omega)) hk)
  have := chain_of cs [] hf2.small frameAt_nil
  rw [List.append_nil] at this
  exact this
end
end K84

set_option Elab.async false
set_option linter.all false
set_option maxRecDepth 100000
set_option maxHeartbeats 1000000
namespace K84
open PySem PySem.Spec PyProof.Rows L2 Dv
section
variable {P : Program} {w : World} {K : PySem.W.Frag} {mg : Str → Option Value} {base : Heap} {f : Addr} {fd : FuncData}
variable {κ : Kx} {r : Reg} {Γ : Gm} {a b c : Expr} {pos p : Pos}
theorem chain_none {row : List Int} {q e : Nat} {bs : List (List Int)} (c : Chain row q bs e) (h : frameAt row q = none) : bs = [] ∧ e = q := by
  cases c with
  | nil _ => exact ⟨rfl, rfl⟩
  | cons h1 _ => rw [h] at h1; cases h1
theorem chain_some {row : List Int} {q e a' : Nat} {b : List Int} {bs : List (List Int)} (c : Chain row q bs e) (h : frameAt row q = some (b, a')) : ∃ bs', bs = b :: bs' ∧ Chain row a' bs' e := by
  cases c with
  | nil h1 => rw [h] at h1; cases h1
  | cons h1 h2 =>
    rw [h] at h1
    cases h1
    exact ⟨_, rfl, h2⟩
theorem chain_any {row : List Int} (ho : Oct row) : ∀ (n q : Nat), row.length - q ≤ n → ∃ bs e, Chain row q bs e := by
  intro n
  induction n with
  | zero =>
    intro q hq
    cases h : frameAt row q with
    | none => exact ⟨[], q, .nil h⟩
    | some p =>
      obtain ⟨b, a'⟩ := p
      have := frameAt_le ho h
      omega
  | succ n ih =>
    intro q hq
    cases h : frameAt row q with
    | none => exact ⟨[], q, .nil h⟩
    | some p =>
      obtain ⟨b, a'⟩ := p
      have := frameAt_le ho h
      obtain ⟨bs, e, hc⟩ := ih a' (by omega)
      exact ⟨b :: bs, e, .cons h hc⟩
theorem readNum_at {row : List Int} {q e : Nat} (h1 : q ≤ e) (h2 : e < row.length) (h3 : row.getD e 0 < 128) (h4 : ∀ x, q ≤ x → x < e → ¬ row.getD x 0 < 128) : readNum row q = if q < e ∧ row.getD e 0 = 0 then none else some (valLE (figs row q (e + 1)), e + 1) := by
  have hb : behind row q = some (e + 1) := by
    have := behind_some (ns := row) (a := q) (i := e - q) (fun j hj => h4 _ (by omega) (by omega)) (by omega) (by rw [show q + (e - q) = e by omega]; exact h3)
    rw [this, show q + (e - q) + 1 = e + 1 by omega]
  unfold readNum
  rw [hb]
  show (if e + 1 - q > 1 ∧ row.getD (e + 1 - 1) 0 = 0 then none else _) = _
  rw [show e + 1 - 1 = e by omega]
  by_cases hc : q < e ∧ row.getD e 0 = 0
  · rw [if_pos ⟨by omega, hc.2⟩, if_pos hc]
  · rw [if_neg (fun z => hc ⟨by omega, z.2⟩), if_neg hc]
theorem figs_len {row : List Int} {q e : Nat} (h1 : q ≤ e) (h2 : e < row.length) : (figs row q (e + 1)).length = e - q + 1 := by
  unfold figs
  rw [List.length_append, List.length_map, List.length_take, List.length_drop, List.length_singleton]
  omega
theorem figs_get {row : List Int} (ho : Oct row) {q e : Nat} (h1 : q ≤ e) (h2 : e < row.length) (h3 : row.getD e 0 < 128) (h4 : ∀ x, q ≤ x → x < e → ¬ row.getD x 0 < 128) (j : Nat) (hj : j < e - q + 1) : (figs row q (e + 1))[e - q - j]? = some (row.getD (e - j) 0 % 128) := by
  unfold figs
  have hl : (((row.drop q).take (e + 1 - 1 - q)).map fun n => n - 128).length = e - q := by
    rw [List.length_map, List.length_take, List.length_drop]; omega
  by_cases h : j = 0
  · subst h
    rw [List.getElem?_append_right (by omega), hl]
    have := oct_get ho h2
    rw [show e - q - 0 - (e - q) = 0 by omega, show e + 1 - 1 = e by omega, show e - 0 = e by omega]
    show some (row.getD e 0) = _
    congr 1
    omega
  · rw [List.getElem?_append_left (by omega), List.getElem?_map, List.getElem?_take_of_lt (by omega), List.getElem?_drop, show q + (e - q - j) = e - j by omega, getD_some (show e - j < row.length by omega)]
    have b1 := oct_get ho (show e - j < row.length by omega)
    have b2 := h4 (e - j) (by omega) (by omega)
    show some (row.getD (e - j) 0 - 128) = _
    congr 1
    omega
def a_read : Do := fun _ ds k => ∃ (row : List Int) (bs : List (List Int)) (e : Nat), ds = [lsI row] ∧ Oct row ∧ row.length ≤ 1000 ∧ Chain row 0 bs e ∧ k (.tup [.lst (bs.map lsI), .int e])
theorem ok_read (T : Top K mg) (P : Program) (w : World) (base : Heap) (fd : FuncData) (F : FnP K "_law_read" st_law_read f fd) : FnOk P w K mg base CX0 2 f fd ["row"] (spD K a_read) := by
  refine fn_D (lv := 1) F sc_law_read (fun r ds k h => by obtain ⟨i, j, l, rfl, _⟩ := h; rfl) fun cdv A' outer s H E hr r ds k h => ?_
  obtain ⟨row, bs, e, rfl, ho, hl, hc, hk⟩ := h
  show Bk _ r _ [.val _, .no, .no, .no, .no, .no, .no, .no] _
  have ll : (row.map D.int).length = row.length := List.length_map ..
  refine b_cons (ds_par 1 2 (dv_val (Dn.de (n_lst da_nil)) (dv_val d_int dv_nil)) ?_)
  refine b_cons (s_for (g := gName 3) (fun _ i Γ => ∃ (bs1 bs2 : List (List Int)) (q : Nat), (bs = bs1 ++ bs2 ∧ Chain row q bs2 e ∧ i ≤ q ∧ q ≤ row.length) ∧ Γ = [.val (lsI row), .val (.lst (bs1.map lsI)), .val (.int q), .no, .no, .no, .no, .no]) (di_rng (n := row.length) T.m_range (d_lenL T.m_len (d_var 0)) (by omega) (by omega) (by omega)) (fun X hX => pg_name' (i := 3) sto hX) (fun _ _ => ⟨[], bs, 0, ⟨rfl, hc, by omega, by omega⟩, rfl⟩) ?turn ?done)
  case done =>
    rintro _ _ rfl ⟨bs1, bs2, q, ⟨e1, c2, h1, h2⟩, rfl⟩
    rw [rngD_len] at h1
    have hn : frameAt row q = none := by
      have hb : behind row q = none := behind_none fun j hj => by omega
      unfold frameAt readNum
      rw [hb]
    obtain ⟨rfl, rfl⟩ := chain_none c2 hn
    rw [List.append_nil] at e1
    subst e1
    exact b_one (ds_ret (d_tup (da_cons (d_var 1) (da_cons (d_var 2) da_nil))) hk)
  case turn =>
    rintro _ i d _ rfl hd ⟨bs1, bs2, q, ⟨e1, c2, h1, h2⟩, rfl⟩
    obtain ⟨hi, rfl⟩ := rng0_get hd
    have out : frameAt row q = none → k (.tup [.lst (bs1.map lsI), .int q]) := fun hn => by
      obtain ⟨rfl, rfl⟩ := chain_none c2 hn
      rw [List.append_nil] at e1
      subst e1
      exact hk
    refine ⟨_, tg_name 3 _, b_cons (ds_set 4 (d_var 2) ?_)⟩
    refine b_cut (fun Γ => ∃ t : Nat, (q ≤ t ∧ t ≤ row.length ∧ (∀ x, q ≤ x → x < t → ¬ row.getD x 0 < 128) ∧ (t < row.length → row.getD t 0 < 128)) ∧ Γ = [.val (lsI row), .val (.lst (bs1.map lsI)), .val (.int q), .no, .val (.int t), .no, .no, .no])
      (s_for (g := gName 5) (fun _ j Γ => ∃ t : Nat, (t = q + j ∧ t ≤ row.length ∧ (∀ x, q ≤ x → x < t → ¬ row.getD x 0 < 128)) ∧ Γ = [.val (lsI row), .val (.lst (bs1.map lsI)), .val (.int q), .val (.int i), .val (.int t), .no, .no, .no]) (di_rng (n := row.length) T.m_range (d_lenL T.m_len (d_var 0)) (by omega) (by omega) (by omega)) (fun X hX => pg_name' (i := 5) sto hX) (fun _ _ => ?start) ?turn1 ?done1) ?_
    case start => exact ⟨q, ⟨rfl, h2, fun x h3 h4 => by omega⟩, rfl⟩
    case turn1 =>
      rintro _ j d _ rfl hd ⟨t, ⟨t1, t2, t3⟩, rfl⟩
      obtain ⟨hj, rfl⟩ := rng0_get hd
      refine ⟨_, tg_name 5 _, b_cons (ds_if (b := decide (((row.map D.int).length : Int) ≤ t) || decide (row.getD t 0 < 128)) (Pw.pt (dw_or (dt_ge (d_var 4) (d_lenL T.m_len (d_var 0))) (fun hb => dw_oneO (dt_lt (d_ixL (d_var 0) (d_var 4) (at_I rfl ?lt)) d_int)))) (fun z => b_one (s_brk ?brk)) (fun z => b_nil ?_))⟩
      case lt =>
        have := of_decide_eq_false hb
        rw [ll] at this
        omega
      case brk =>
        refine ⟨_, .eq (.eq (.eq (.no (.eq (.no (.eq (.eq .nil))))))), t, ⟨by omega, t2, t3, fun hlt => ?_⟩, rfl⟩
        rw [Bool.or_eq_true] at z
        rcases z with z | z
        · have := of_decide_eq_true z
          rw [ll] at this
          omega
        · exact of_decide_eq_true z
      · rw [Bool.or_eq_false_iff] at z
        have z1 := of_decide_eq_false z.1
        have z2 := of_decide_eq_false z.2
        rw [ll] at z1
        refine b_one (ds_set (d := .int ((t + 1 : Nat) : Int)) 4 (De.to (d_add (d_var 4) d_int) (by congr 1)) (Up.by (.eq (.eq (.eq (.eq (.eq (.no (.eq (.eq .nil)))))))) ⟨t + 1, ⟨by omega, by omega, fun x h3 h4 => ?_⟩, rfl⟩))
        by_cases h5 : x = t
        · rw [h5]; exact z2
        · exact t3 x h3 (by omega)
    case done1 =>
      rintro _ _ rfl ⟨t, ⟨t1, t2, t3⟩, rfl⟩
      rw [rngD_len] at t1
      exact ⟨_, .eq (.eq (.eq (.no (.eq (.eq (.eq (.eq .nil))))))), t, ⟨by omega, t2, t3, fun _ => by omega⟩, rfl⟩
    rintro _ ⟨t, ⟨t1, t2, t3, t4⟩, rfl⟩
    refine b_cons (ds_if (b := decide (((row.map D.int).length : Int) ≤ t) || (decide ((q : Int) < t) && decide (row.getD t 0 = 0))) (Pw.pt (dw_or (dt_ge (d_var 4) (d_lenL T.m_len (d_var 0))) (fun hb => dw_oneO (Pw.pt (dw_and (dt_gt (d_var 4) (d_var 2)) (fun _ => dw_one (dt_eq (d_ixL (d_var 0) (d_var 4) (at_I rfl ?lt)) d_int))))))) (fun z => ?stop) (fun z => b_nil ?_))
    case lt =>
      have := of_decide_eq_false hb
      rw [ll] at this
      omega
    case stop =>
      refine b_one (ds_ret (d_tup (da_cons (d_var 1) (da_cons (d_var 2) da_nil))) (out ?_))
      rw [Bool.or_eq_true] at z
      by_cases hlt : t < row.length
      · rcases z with z | z
        · have := of_decide_eq_true z
          rw [ll] at this
          omega
        · rw [Bool.and_eq_true] at z
          have z1 := of_decide_eq_true z.1
          have z2 := of_decide_eq_true z.2
          unfold frameAt
          rw [readNum_at t1 hlt (t4 hlt) t3, if_pos ⟨by omega, z2⟩]
      · have hb : behind row q = none := behind_none fun j hj => t3 _ (by omega) (by omega)
        unfold frameAt readNum
        rw [hb]
    rw [Bool.or_eq_false_iff] at z
    have hlt : t < row.length := by
      have := of_decide_eq_false z.1
      rw [ll] at this
      omega
    have hz : ¬ (q < t ∧ row.getD t 0 = 0) := fun hh => by
      have := z.2
      rw [decide_eq_true (show (q : Int) < t by omega), decide_eq_true hh.2] at this
      cases this
    have hrn : readNum row q = some (valLE (figs row q (t + 1)), t + 1) := by rw [readNum_at t1 hlt (t4 hlt) t3, if_neg hz]
    obtain ⟨_, _, v0, _, _⟩ := readNum_spec ho hrn
    have fl := figs_len t1 hlt
    have fg := figs_get ho t1 hlt (t4 hlt) t3
    refine b_cons (ds_set 6 d_int ?_)
    refine b_cut (fun Γ => Γ = [.val (lsI row), .val (.lst (bs1.map lsI)), .val (.int q), .no, .val (.int t), .no, .val (.int (valLE (figs row q (t + 1)))), .no])
      (s_for (g := gName 5) (fun _ j Γ => Γ = [.val (lsI row), .val (.lst (bs1.map lsI)), .val (.int q), .no, .val (.int t), .no, .val (.int (valLE ((figs row q (t + 1)).drop (t - q + 1 - j)))), .no]) (di_rng (n := t - q + 1) T.m_range (d_add (d_sub (d_var 4) (d_var 2)) d_int) (by omega) (by omega) (by omega)) (fun X hX => pg_name' (i := 5) sto hX) (fun _ _ => ?start) ?turn2 ?done2) ?_
    case start =>
      have : (figs row q (t + 1)).drop (t - q + 1 - 0) = [] := List.drop_eq_nil_of_le (by omega)
      rw [this]; rfl
    case turn2 =>
      rintro _ j d _ rfl hd rfl
      obtain ⟨hj, rfl⟩ := rng0_get hd
      refine ⟨_, tg_name 5 _, b_one (ds_set (d := .int (valLE ((figs row q (t + 1)).drop (t - q + 1 - (j + 1))))) 6 (De.to (d_add (d_mul (d_var 6) d_int (.inr (by decide))) (d_mod (d_intI T.m_int (d_ixL (d_var 0) (d_sub (d_var 4) (d_var 5)) (at_I (j := t - j) (by omega) (by omega)))) d_int (by decide))) ?eq) (Up.by (.eq (.eq (.eq (.eq (.eq (.no (.eq (.eq .nil)))))))) rfl))⟩
      have g := fg j hj
      have hlt2 : t - q - j < (figs row q (t + 1)).length := by omega
      have ed : (figs row q (t + 1)).drop (t - q + 1 - (j + 1)) = (row.getD (t - j) 0 % 128) :: (figs row q (t + 1)).drop (t - q + 1 - j) := by
        rw [show t - q + 1 - (j + 1) = t - q - j by omega, List.drop_eq_getElem_cons hlt2, show t - q - j + 1 = t - q + 1 - j by omega]
        congr 1
        rw [List.getElem?_eq_getElem hlt2] at g
        exact Option.some.inj g
      rw [ed]
      show D.int _ = D.int (row.getD (t - j) 0 % 128 + 128 * valLE ((figs row q (t + 1)).drop (t - q + 1 - j)))
      congr 1
      omega
    case done2 =>
      rintro _ _ rfl rfl
      rw [rngD_len, Nat.sub_self, List.drop_zero]
      exact ⟨_, Wk.refl _, rfl⟩
    rintro _ rfl
    generalize valLE (figs row q (t + 1)) = vl at hrn v0
    obtain ⟨m, rfl⟩ : ∃ m : Nat, vl = m := ⟨vl.toNat, by omega⟩
    have hfr : frameAt row q = if (m : Int) + 2 > (row.length : Int) - ((t + 1 : Nat) : Int) then none else if (row.drop (t + 1 + m)).take 2 = sumPair ((row.drop (t + 1)).take m) then some ((row.drop (t + 1)).take m, t + 1 + m + 2) else none := by
      unfold frameAt
      rw [hrn]; rfl
    refine b_cons (ds_if (b := decide (((row.map D.int).length : Int) - t - 3 < m)) (dt_gt (d_var 6) (d_sub (d_sub (d_lenL T.m_len (d_var 0)) (d_var 4)) d_int)) (fun z => ?_) (fun z => b_nil ?_))
    · have z := of_decide_eq_true z
      rw [ll] at z
      refine b_one (ds_ret (d_tup (da_cons (d_var 1) (da_cons (d_var 2) da_nil))) (out ?_))
      rw [hfr, if_pos (by omega)]
    have z1 := of_decide_eq_false z
    rw [ll] at z1
    have c1 : cutDs (row.map D.int) (some ((t : Int) + 1)) (some ((t : Int) + 1 + m)) = ((row.drop (t + 1)).take m).map D.int := by
      have := cutI (ns := row) (t + 1) (t + 1 + m)
      rw [show ((t + 1 : Nat) : Int) = (t : Int) + 1 by omega, show ((t + 1 + m : Nat) : Int) = (t : Int) + 1 + m by omega, show t + 1 + m - (t + 1) = m by omega] at this
      exact this
    have c3 : cutDs (row.map D.int) (some ((t : Int) + 1 + m)) (some ((t : Int) + 3 + m)) = ((row.drop (t + 1 + m)).take 2).map D.int := by
      have := cutI (ns := row) (t + 1 + m) (t + 3 + m)
      rw [show ((t + 3 + m : Nat) : Int) = (t : Int) + 3 + m by omega, show ((t + 1 + m : Nat) : Int) = (t : Int) + 1 + m by omega, show t + 3 + m - (t + 1 + m) = 2 by omega] at this
      exact this
    refine b_cons (ds_set (d := lsI ((row.drop (t + 1)).take m)) 7 (De.to (Dn.de (n_slice (d_var 0) (do_some (d_add (d_var 4) d_int)) (do_some (d_add (d_add (d_var 4) d_int) (d_var 6))))) (by rw [c1])) ?_)
    refine b_cons (ds_if (b := !decide ((row.drop (t + 1 + m)).take 2 = sumPair ((row.drop (t + 1)).take m))) (dt_neLL (De.to (Dn.de (n_slice (d_var 0) (do_some (d_add (d_add (d_var 4) d_int) (d_var 6))) (do_some (d_add (d_add (d_var 4) d_int) (d_var 6))))) (by rw [c3])) (c_summed T (d_var 7) (by rw [List.length_take, List.length_drop]; omega))) (fun z => ?_) (fun z => b_nil ?_))
    · have z := of_decide_eq_false ((Bool.not_eq_true' _).mp z)
      refine b_one (ds_ret (d_tup (da_cons (d_var 1) (da_cons (d_var 2) da_nil))) (out ?_))
      rw [hfr, if_neg (by omega), if_neg z]
    have z2 := of_decide_eq_true ((Bool.not_eq_false' _).mp z)
    rw [if_neg (by omega), if_pos z2] at hfr
    obtain ⟨bs3, e3, c4⟩ := chain_some c2 hfr
    subst e3
    refine b_one (ds_par (s1 := .val (.lst ((bs1 ++ [(row.drop (t + 1)).take m]).map lsI))) (s2 := .val (.int ((t + 1 + m + 2 : Nat) : Int))) 1 2 (dv_val (De.to (Dn.de (n_cat (d_var 1) (Dn.de (n_lst (da_cons (d_var 7) da_nil))) ?len)) (by rw [List.map_append]; rfl)) (dv_val (De.to (d_add (d_add (d_var 4) d_int) (d_var 6)) (by congr 1; omega)) dv_nil)) (Up.by (.eq (.eq (.eq (.no (.no (.no (.no (.no .nil)))))))) ⟨bs1 ++ [(row.drop (t + 1)).take m], bs3, t + 1 + m + 2, ⟨by rw [e1, List.append_assoc]; rfl, c4, by omega, by omega⟩, rfl⟩))
    have hle := Chain.le ho hc
    rw [e1] at hle
    simp at hle ⊢
    omega
end
end K84

set_option Elab.async false
set_option linter.all false
set_option maxRecDepth 100000
set_option maxHeartbeats 1000000
namespace Dv
open PySem PySem.Spec PyProof.Rows L2
/-- [0] * n, of n a range is known -/
theorem z_rep0 {κ : Kx} {r : Reg} {Γ : Gm} {a b : Expr} {pos : Pos} {hi : Int} {o : Int} (ha : De κ r a Γ (lsI [o])) (hb : Pz κ r b Γ (fun i => 0 ≤ i ∧ i < hi)) (h : hi ≤ 1000) : Pn κ r (.BinOp a .Mult b pos) Γ (fun z => ∃ ns : List Int, z = ns.map D.int ∧ ns.length ≤ 1000 ∧ (ns.length : Int) < hi ∧ ∀ n ∈ ns, n = o) := e_binN (rr := rRep) (fun _ _ => op_rep) ha hb (by
  rintro _ _ rfl ⟨i, rfl, h0, h1⟩ r C H v w ok ⟨p, vs, e1, hp, i1⟩ hw Q q
  have hw : w = V.int i := hw
  subst e1 hw
  have el := i1.len
  refine ⟨p, i, vs, rfl, rfl, (hid_some hp).1, by omega, by omega, Nat.le_trans (m := 1000) (show vs.length * i.toNat ≤ 1000 by rw [← el]; simp; omega) (by decide), fun l nl => q _ _ ⟨List.replicate i.toNat o, ?_, ?_, ?_, fun n hn => (List.mem_replicate.mp hn).2⟩ (IsA.flatten_rep i1 i.toNat) l nl⟩
  · generalize i.toNat = t
    induction t with
    | zero => rfl
    | succ t ih => rw [List.replicate_succ, List.flatten_cons, ih, List.replicate_succ]; rfl
  · rw [List.length_replicate]; omega
  · rw [List.length_replicate]; omega)
/-- the length of a list that is not shared -/
theorem d_lenO {κ : Kx} {r : Reg} {Γ : Gm} {x y : Str} {pos p py : Pos} {ns : List Int} (l : Nat) (hm : κ.mg x = none) (hg : Γ[l]? = some (.own (ns.map D.int))) (h : De κ r (.Call (.Name x p) [.Name y py] [] pos) (Γ.set l (.val (lsI ns))) (.int (ns.map D.int).length)) : De κ r (.Call (.Name x p) [.Name y py] [] pos) Γ (.int (ns.length : Nat)) :=
  De.to (e_own hg h (by rintro _ rfl; rfl)) (by rw [List.length_map])
end Dv
namespace K84
open PySem PySem.Spec PyProof.Rows L2 Dv
section
variable {P : Program} {w : World} {K : PySem.W.Frag} {mg : Str → Option Value} {base : Heap} {f : Addr} {fd : FuncData}
variable {κ : Kx} {r : Reg} {Γ : Gm} {a b c : Expr} {pos p : Pos}
theorem frameAt_body {row : List Int} {q a' : Nat} {b : List Int} (h : frameAt row q = some (b, a')) : b.length ≤ row.length := by
  unfold frameAt at h
  cases hr : readNum row q with
  | none => rw [hr] at h; cases h
  | some ve =>
    obtain ⟨v, e⟩ := ve
    rw [hr] at h
    replace h : (if v + 2 > (row.length : Int) - e then none else if (row.drop (e + v.toNat)).take 2 = sumPair ((row.drop e).take v.toNat) then some ((row.drop e).take v.toNat, e + v.toNat + 2) else none) = some (b, a') := h
    split at h
    · cases h
    · split at h
      · cases h
        rw [List.length_take, List.length_drop]
        omega
      · cases h
theorem chain_body {row : List Int} : ∀ {bs : List (List Int)} {q e : Nat}, Chain row q bs e → ∀ b ∈ bs, b.length ≤ row.length
  | [], _, _, _, b, h => nomatch h
  | b :: bs, q, e, c, b', h => by
    cases c with
    | cons h1 h2 =>
      rcases List.mem_cons.mp h with rfl | h
      · exact frameAt_body h1
      · exact chain_body h2 b' h
theorem c_read {row : List Int} {bs : List (List Int)} {e : Nat} (T : Top κ.K κ.mg) (ha : De κ r a Γ (lsI row)) (ho : Oct row) (h1 : row.length ≤ 1000) (hc : Chain row 0 bs e) (hl : 2 ≤ κ.lv := by exact Nat.le_of_ble_eq_true rfl) (hg : κ.sc.names.lookup ("_law_read" : Str) = some .globalImplicit := by rfl) (pl : Pl a := by intro _ _; rfl) : De κ r (.Call (.Name "_law_read" p) [a] [] pos) Γ (.tup [.lst (bs.map lsI), .int e]) :=
  callD T.d_law_read (fun P w base fd F => ok_read T P w base fd F) bd_law_read hl T.g_law_read hg (da_cons ha da_nil (fun X _ => pl X.env [])) (by rintro _ rfl C; exact ⟨row, bs, e, rfl, ho, h1, hc, rfl⟩) (by decide) (fun X _ => pl X.env []) (fun _ _ => rfl)
def mRow (v : V) (bs : List (List Int)) (kind pl b : Nat) : Gm → Prop := fun Γ => ∃ row : List Int, (Oct row ∧ row.length ≤ b) ∧ Γ = [.val (.raw v), .val (.lst (bs.map pairD)), .own (row.map D.int), .no, .val (.int kind), .val (.int pl), .no, .no, .no]
theorem ok_any_hold (T : Top K mg) (P : Program) (w : World) (base : Heap) (fd : FuncData) (F : FnP K "_law_any_hold" st_law_any_hold f fd) : FnOk P w K mg base CX0 5 f fd ["deal", "found"] (spD K a_dfd) := by
  refine fn_D (lv := 4) F sc_law_any_hold (fun r ds k h => by obtain ⟨i, j, rfl, _⟩ := h; rfl) fun cdv A' outer s H E hr r ds k h => ?_
  obtain ⟨v, bs, rfl, hf, hd, hk⟩ := h
  show Bk _ r _ [.val _, .val _, .no, .no, .no, .no, .no, .no, .no] _
  have few := hf.few
  have hlen := hf.len
  have c0 : cutDs ((flatDue bs).map D.int) none (some 300) = ((flatDue bs).take 300).map D.int := by
    have := cutD_to (ds := (flatDue bs).map D.int) 300
    rw [List.map_take]; exact this
  refine b_cons (ds_new (ds := ((flatDue bs).take 300).map D.int) 2 (Dn.to (n_slice (c_flat (nss := bs.map dueOf) T (De.to (Dn.de (dn_lc (j := 8) (dlc_map pairD (fun b => lsI (dueOf b)) (di_list (d_var 1)) (by omega) fun y _ => pr1 (d_var 8)))) (by rw [map2])) (show (flatDue bs).length ≤ _ by omega)) do_none (do_some d_int)) c0) ?_)
  have o0 := oct_take hf.oct 300
  have l0 : ((flatDue bs).take 300).length ≤ 300 := by rw [List.length_take]; omega
  generalize (flatDue bs).take 300 = row0 at o0 l0
  refine b_cut (fun Γ => ∃ row : List Int, (Oct row ∧ row.length ≤ 400) ∧ Γ = [.val (.raw v), .val (.lst (bs.map pairD)), .own (row.map D.int), .no, .no, .no, .no, .no, .no])
    (s_for (g := gName 3) (ki := fun z => ∃ i : Int, In 1 3 i ∧ z = rngD 0 1 i.toNat) (fun _ i Γ => ∃ row : List Int, (Oct row ∧ row.length ≤ 300 + 10 * i) ∧ Γ = [.val (.raw v), .val (.lst (bs.map pairD)), .own (row.map D.int), .no, .no, .no, .no, .no, .no]) (iz_rng T.m_range (z_add (z_of d_int rfl) (z_any T (d_var 0) d_int (by decide) (by decide) hd) (by rintro _ j rfl hj; exact ⟨by omega, by omega⟩)) (by rintro i ⟨h1, h2⟩; omega)) (fun X hX => pg_name' (i := 3) sto hX) (fun _ _ => ⟨row0, ⟨o0, l0⟩, rfl⟩) ?turn ?done) ?_
  case done =>
    rintro _ _ ⟨i, ⟨h1, h2⟩, rfl⟩ ⟨row, ⟨h3, h4⟩, rfl⟩
    rw [rngD_len] at h4
    exact ⟨_, Wk.refl _, row, ⟨h3, by omega⟩, rfl⟩
  case turn =>
    rintro _ i d _ ⟨n, ⟨h1, h2⟩, rfl⟩ hd' ⟨row, ⟨h3, h4⟩, rfl⟩
    obtain ⟨hi, rfl⟩ := rng0_get hd'
    have hi3 : i < 3 := by omega
    refine ⟨_, tg_name 3 _, ?_⟩
    refine b_cut (fun Γ => ∃ kind pl : Nat, pl ≤ row.length ∧ Γ = [.val (.raw v), .val (.lst (bs.map pairD)), .own (row.map D.int), .no, .val (.int kind), .val (.int pl), .no, .no, .no]) ?par ?_
    case par =>
      refine s_par (i := 4) (j := 5) rfl rfl (by decide) rfl rfl (by simp) (by simp) (kv := fun ss => ∃ x y : Nat, y ≤ row.length ∧ ss = [.val (.int x), .val (.int y)])
        (v_val (k := fun d => ∃ x : Nat, d = .int x) (kr := fun ss => ∃ y : Nat, y ≤ row.length ∧ ss = [.val (.int y)]) (fun X _ => rfl) ?one
          (v_val (k := fun d => ∃ x : Nat, x ≤ row.length ∧ d = .int x) (kr := fun ss => ss = []) (fun X _ => rfl) ?two dv_nil (by rintro _ _ ⟨y, h, rfl⟩ rfl; exact ⟨y, h, rfl⟩)) (by rintro _ _ ⟨x, rfl⟩ ⟨y, h', rfl⟩; exact ⟨x, y, h', rfl⟩))
        (by rintro _ ⟨x, y, h, rfl⟩; exact ⟨_, _, rfl, _, .eq (.eq (.eq (.no (.eq (.eq (.eq (.eq (.eq .nil)))))))), x, y, h, rfl⟩) (by rintro X rfl _; rfl)
      case one => exact Pe.imp (z_any T (d_var 0) d_int (by decide) (by decide) hd) (by rintro _ ⟨j, rfl, h1, h2⟩; exact ⟨j.toNat, by rw [show ((j.toNat : Nat) : Int) = j by omega]⟩)
      case two => exact Pe.imp (z_any T (d_var 0) (d_add (d_lenO 2 T.m_len rfl (d_lenL T.m_len (d_var 2))) d_int) (by omega) (by omega) hd) (by rintro _ ⟨j, rfl, h1, h2⟩; exact ⟨j.toNat, by omega, by rw [show ((j.toNat : Nat) : Int) = j by omega]⟩)
    rintro _ ⟨kind, pl, hpl, rfl⟩
    have hLI : ∀ {κ : Kx} {r : Reg} {Γ : Gm} {e : Expr}, Pe κ r e Γ (AllOf (intIn 0 255) 1) → Pe κ r e Γ (LsI fun ns => Oct ns ∧ ns.length = 1) := fun h => h.imp fun d ⟨es, e1, e2, e3⟩ => by
      obtain ⟨ns, e4, e5⟩ := all_ints (n := 0) e3
      exact ⟨ns, by rw [e1, e4], e5, by rw [e4, List.length_map] at e2; exact e2⟩
    refine b_cut (mRow v bs kind pl (300 + 10 * i)) (ds_if (b := decide ((kind : Int) = 0) && decide ((pl : Int) < (row.length : Nat))) (Pw.pt (dw_and (dt_eq (d_var 4) d_int) (fun _ => dw_one (dt_lt (d_var 5) (d_lenO 2 T.m_len rfl (d_lenL T.m_len (d_var 2))))))) (fun z => b_one (s_item (i := 2) (ki := fun d => d = .int pl) rfl (Or.inl rfl) (by decide) (by decide) rfl (z_any T (d_var 0) d_int (by decide) (by decide) hd) (d_var 5) fun d j hd' hj => ?set)) (fun z => b_nil ⟨_, Wk.refl _, row, ⟨h3, h4⟩, rfl⟩)) ?_
    case set =>
      rw [Bool.and_eq_true] at z
      have z2 := of_decide_eq_true z.2
      obtain ⟨n, rfl, n0, n1⟩ := hd'
      subst hj
      refine ⟨pl, rfl, by rw [List.length_map]; omega, _, Wk.refl _, row.set pl n, ⟨oct_set h3 _ n0 n1, by rw [List.length_set]; exact h4⟩, ?_⟩
      rw [List.map_set]; rfl
    rintro _ ⟨row, ⟨h3, h4⟩, rfl⟩
    have s1 : ∀ (row : List Int), cutDs (row.map D.int) none (some (pl : Int)) = (row.take pl).map D.int := fun row => by rw [cutD_to, ← List.map_take]
    have s2 : ∀ (row : List Int), cutDs (row.map D.int) (some (pl : Int)) none = (row.drop pl).map D.int := fun row => by rw [cutD_from, ← List.map_drop]
    have s3 : ∀ (row : List Int), cutDs (row.map D.int) (some ((pl : Int) + 1)) none = (row.drop (pl + 1)).map D.int := fun row => by
      have := cutD_from (ds := row.map D.int) (pl + 1)
      rw [show (((pl + 1 : Nat) : Int)) = (pl : Int) + 1 by omega] at this
      rw [this, ← List.map_drop]
    refine b_cut (mRow v bs kind pl (301 + 10 * i)) (ds_if (b := decide ((kind : Int) = 1)) (dt_eq (d_var 4) d_int) (fun z => b_one (s_new (i := 2) sto (n_own (i := 2) rfl (z_catI (k := fun ns => Oct ns ∧ ns.length ≤ 301 + 10 * i) (ka := fun xs => ∃ y, Oct y ∧ y.length = 1 ∧ xs = row.take pl ++ y) (kb := fun xs => xs = row.drop pl) (ls_pn (z_catI (ka := fun xs => xs = row.take pl) (kb := fun ns => Oct ns ∧ ns.length = 1) (ls_of (De.to (Dn.de (n_slice (d_var 2) do_none (do_some (d_var 5)))) (by rw [s1])) rfl) (hLI (lst_all (pall_cons (c_of T (d_var 0) (lst_all (pall_cons zin (pall_cons zin (pall_cons zin (pall_cons zin (pall_cons zin pall_nil)))))) hd) pall_nil))) (by rintro _ y rfl ⟨y1, y2⟩; exact ⟨by rw [List.length_take, y2]; omega, y, y1, y2, rfl⟩)))
      (ls_of (De.to (Dn.de (n_slice (d_var 2) (do_some (d_var 5)) do_none)) (by rw [s2])) rfl) (by
        rintro _ _ ⟨y, y1, y2, rfl⟩ rfl
        refine ⟨by rw [List.length_append, List.length_take, List.length_drop, y2]; omega, oct_app (oct_app (oct_take h3 _) y1) (oct_drop h3 _), ?_⟩
        rw [List.length_append, List.length_append, List.length_take, List.length_drop, y2]; omega)) (by rintro _ ⟨ns, rfl, _⟩; exact all_scal_ints ns)) (by rintro _ ⟨ns, rfl, n1, n2⟩; exact ⟨_, Wk.refl _, ns, ⟨n1, n2⟩, rfl⟩))) (fun z => b_nil ⟨_, Wk.refl _, row, ⟨h3, by omega⟩, rfl⟩)) ?_
    rintro _ ⟨row, ⟨h3, h4⟩, rfl⟩
    refine b_cut (mRow v bs kind pl (310 + 10 * i)) (ds_if (b := decide ((kind : Int) = 2)) (dt_eq (d_var 4) d_int) (fun z => b_one (s_extend (i := 2) rfl (Or.inl rfl) (by decide) (by decide) rfl (ls_pn (Pn.imp (z_rep0 (Dn.de (n_lst (da_cons d_int da_nil))) (z_any T (d_var 0) d_int (by decide) (by decide) hd) (by decide)) (by rintro _ ⟨ns, rfl, n1, n2, n3⟩; exact ⟨ns, rfl, show Oct ns ∧ ns.length < 8 from ⟨fun n hn => by rw [n3 n hn]; decide, by omega⟩⟩))) (by
      rintro _ ⟨ns, rfl, n1, n2⟩
      refine ⟨ns.map D.int, rfl, by rw [List.length_map, List.length_map]; omega, _, Wk.refl _, row ++ ns, ⟨oct_app h3 n1, by rw [List.length_append]; omega⟩, ?_⟩
      rw [List.map_append]; rfl))) (fun z => b_nil ⟨_, Wk.refl _, row, ⟨h3, by omega⟩, rfl⟩)) ?_
    rintro _ ⟨row, ⟨h3, h4⟩, rfl⟩
    have fin : ∀ row : List Int, Oct row ∧ row.length ≤ 310 + 10 * i → Up (fun Γ => ∃ row : List Int, (Oct row ∧ row.length ≤ 300 + 10 * (i + 1)) ∧ Γ = [.val (.raw v), .val (.lst (bs.map pairD)), .own (row.map D.int), .no, .no, .no, .no, .no, .no]) [.val (.raw v), .val (.lst (bs.map pairD)), .own (row.map D.int), .no, .val (.int kind), .val (.int pl), .no, .no, .no] := fun row h => Up.by (.eq (.eq (.eq (.eq (.no (.no (.eq (.eq (.eq .nil))))))))) ⟨row, ⟨h.1, by omega⟩, rfl⟩
    refine b_one (ds_if (b := decide ((kind : Int) = 3)) (dt_eq (d_var 4) d_int) (fun z => b_one (s_new (i := 2) sto (n_own (i := 2) rfl (z_catI (k := fun ns => Oct ns ∧ ns.length ≤ 310 + 10 * i) (ka := fun xs => xs = row.take pl) (kb := fun xs => xs = row.drop (pl + 1)) (ls_of (De.to (Dn.de (n_slice (d_var 2) do_none (do_some (d_var 5)))) (by rw [s1])) rfl) (ls_of (De.to (Dn.de (n_slice (d_var 2) (do_some (d_add (d_var 5) d_int)) do_none)) (by rw [s3])) rfl) (by
        rintro _ _ rfl rfl
        refine ⟨by rw [List.length_take, List.length_drop]; omega, oct_app (oct_take h3 _) (oct_drop h3 _), ?_⟩
        rw [List.length_append, List.length_take, List.length_drop]; omega)) (by rintro _ ⟨ns, rfl, _⟩; exact all_scal_ints ns)) (by rintro _ ⟨ns, rfl, n1⟩; exact fin ns n1))) (fun z => b_nil (fin row ⟨h3, h4⟩)))
  rintro _ ⟨row, ⟨h1, h2⟩, rfl⟩
  refine b_freeze (i := 2) rfl ?_
  show Bk _ r _ [.val _, .val _, .val (lsI row), .no, .no, .no, .no, .no, .no] _
  obtain ⟨cs, e, hc⟩ := chain_any h1 _ 0 (Nat.le_refl _)
  have hle := Chain.le h1 hc
  refine b_cons (ds_un2 6 7 (c_read T (d_var 2) h1 (by omega) hc) ?_)
  refine b_one (ds_ret (c_is_told T (c_frames T (d_tupleL T.m_tuple (d_var 2)) h1 (by omega) hc) (d_var 6) (d_var 7) (fun b hb => by have := chain_body hc b hb; omega) (by omega)) hk)
end
end K84

set_option Elab.async false
set_option linter.all false
set_option maxRecDepth 100000
set_option maxHeartbeats 1000000
namespace K84
open PySem PySem.Spec PyProof.Rows L2 Dv
section
variable {P : Program} {w : World} {K : PySem.W.Frag} {mg : Str → Option Value} {base : Heap} {f : Addr} {fd : FuncData}
variable {κ : Kx} {r : Reg} {Γ : Gm} {a b c : Expr} {pos p : Pos}
theorem rep_map (t : Nat) (bs : List Int) : (List.replicate t (bs.map D.int)).flatten = (rep t bs).map D.int := by
  unfold rep
  rw [List.map_flatten, List.map_replicate]
theorem z_repI {bs : List Int} {lo hi : Int} (ha : De κ r a Γ (lsI bs)) (hb : Pz κ r b Γ (In lo hi)) (h0 : 0 ≤ lo) (h1 : hi ≤ 1000) (h2 : bs.length ≤ 1000) : Pn κ r (.BinOp a .Mult b pos) Γ (fun z => ∃ t : Nat, (lo ≤ t ∧ (t : Int) ≤ hi) ∧ z = (rep t bs).map D.int) := e_binN (rr := rRep) (fun _ _ => op_rep) ha hb (by
  rintro _ _ rfl ⟨i, rfl, hi0, hi1⟩ r C H v w ok ⟨p, vs, e1, hp, i1⟩ hw Q q
  have hw : w = V.int i := hw
  subst e1 hw
  have el := i1.len
  rw [List.length_map] at el
  have hm : vs.length * i.toNat ≤ 1000 * 1000 := Nat.mul_le_mul (by omega) (by omega)
  refine ⟨p, i, vs, rfl, rfl, (hid_some hp).1, by omega, by omega, Nat.le_trans hm (by decide), fun l nl => q _ _ ⟨i.toNat, ⟨by omega, by omega⟩, rep_map _ _⟩ (IsA.flatten_rep i1 i.toNat) l nl⟩)
def a_great : Do := fun r ds k => ∃ v : V, ds = [.raw v] ∧ Draws r v ∧ k (.bl true)
theorem flat_rep (m : Nat) (b : List Int) : ((List.replicate m b).map dueOf).flatten = rep m (dueOf b) := by rw [List.map_replicate]; rfl
theorem ok_great_holds (T : Top K mg) (P : Program) (w : World) (base : Heap) (fd : FuncData) (F : FnP K "_law_great_holds" st_law_great_holds f fd) : FnOk P w K mg base CX0 5 f fd ["deal"] (spD K a_great) := by
  refine fn_D (lv := 4) F sc_law_great_holds (fun r ds k h => by obtain ⟨i, rfl, _⟩ := h; rfl) fun cdv A' outer s H E hr r ds k h => ?_
  obtain ⟨v, rfl, hd, hk⟩ := h
  show Bk _ r _ [.val _, .no, .no, .no, .no, .no, .no, .no, .no] _
  refine b_cut (fun Γ => ∃ (kind size : Int) (bs : List Int), (In 1 9 size ∧ Oct bs ∧ bs.length = 9) ∧ Γ = [.val (.raw v), .val (.int kind), .val (.int size), .own (bs.map D.int), .no, .no, .no, .no, .no]) ?par ?_
  case par =>
    refine s_par3 (i := 1) (j := 2) (l := 3) rfl rfl rfl (by decide) (by decide) (by decide) rfl rfl rfl (by simp) (by simp) (by simp) (kv := fun ss => ∃ (kind size : Int) (bs : List Int), (In 1 9 size ∧ Oct bs ∧ bs.length = 9) ∧ ss = [.val (.int kind), .val (.int size), .own (bs.map D.int)])
      (v_val (kr := fun ss => ∃ (size : Int) (bs : List Int), (In 1 9 size ∧ Oct bs ∧ bs.length = 9) ∧ ss = [.val (.int size), .own (bs.map D.int)]) (fun X _ => rfl) (z_any T (d_var 0) d_int (by decide) (by decide) hd)
        (v_val (kr := fun ss => ∃ (bs : List Int), (Oct bs ∧ bs.length = 9) ∧ ss = [.own (bs.map D.int)]) (fun X _ => rfl) (c_of (kd := intIn 1 9) T (d_var 0) (lst_all (pall_cons zin (pall_cons zin (pall_cons zin (pall_cons zin (pall_cons zin pall_nil)))))) hd)
          (v_new (kr := fun ss => ss = []) (fun X _ => rfl) (n_lc (j := 7) (kn := fun z => ∃ bs : List Int, (Oct bs ∧ bs.length = 9) ∧ z = bs.map D.int) (lc_all (ki := fun z => z = rngD 0 1 9) (fun _ i acc => acc.length = i ∧ ∀ x ∈ acc, intIn 0 255 x) (di_rng (n := 9) T.m_range d_int rfl (by decide) (by decide)) (by rintro _ rfl; rw [rngD_len]; decide) (fun _ _ => ⟨rfl, fun _ h => (nomatch h)⟩) ?elt ?done) sto (blkOk_by (by kernel_rfl))) dv_nil (by rintro _ _ ⟨bs, h, rfl⟩ rfl; exact ⟨bs, h, rfl⟩))
          (by rintro _ _ ⟨i, rfl, hi⟩ ⟨bs, h, rfl⟩; exact ⟨i, bs, ⟨hi, h⟩, rfl⟩))
        (by rintro _ _ ⟨i, rfl, hi⟩ ⟨size, bs, h, rfl⟩; exact ⟨i, size, bs, h, rfl⟩))
      (by rintro _ ⟨i, size, bs, h, rfl⟩; exact ⟨_, _, _, rfl, _, Wk.refl _, i, size, bs, h, rfl⟩) (by rintro X rfl _; rfl)
    case elt =>
      rintro _ i d acc rfl hd' ⟨h1, h2⟩
      refine Pe.imp (Pz.imp (k' := In 0 255) (z_any T (d_var 0) d_int (by decide) (by decide) hd) (by rintro n ⟨h3, h4⟩; exact ⟨h3, by omega⟩)) fun e he => ⟨by rw [List.length_append, h1]; rfl, fun x hx => ?_⟩
      rcases List.mem_append.mp hx with hx | hx
      · exact h2 x hx
      · rw [List.mem_singleton.mp hx]; exact he
    case done =>
      rintro _ acc rfl ⟨h1, h2⟩
      obtain ⟨ns, e1, e2⟩ := all_ints (n := 0) h2
      rw [rngD_len, e1, List.length_map] at h1
      exact ⟨ns, ⟨e2, h1⟩, e1⟩
  rintro _ ⟨kind, size, bs, ⟨hs, ho, hl⟩, rfl⟩
  refine b_freeze (i := 3) rfl ?_
  show Bk _ r _ [.val _, .val _, .val _, .val (lsI bs), .no, .no, .no, .no, .no] _
  refine b_cons (ds_if (b := decide (kind = 0)) (dt_eq (d_var 1) d_int) (fun _ => ?rows) (fun _ => b_nil ?_))
  case rows =>
    refine b_cut (fun Γ => ∃ bl : List Int, (Oct bl ∧ 9 ≤ bl.length ∧ bl.length ≤ 81) ∧ Γ = [.val (.raw v), .val (.int kind), .val (.int size), .own (bl.map D.int), .no, .no, .no, .no, .no])
      (s_new (i := 3) sto (z_repI (d_var 3) (c_of (kd := intIn 1 9) T (d_var 0) (lst_all (pall_cons zin (pall_cons zin (pall_cons zin (pall_cons zin pall_nil))))) hd) (by decide) (by decide) (by omega)) (by
        rintro _ ⟨t, ⟨t1, t2⟩, rfl⟩
        refine ⟨_, Wk.refl _, rep t bs, ⟨oct_rep ho t, ?_, ?_⟩, rfl⟩ <;> (rw [rep_len, hl]; omega))) ?_
    rintro _ ⟨bl, ⟨hbo, hb9, hb81⟩, rfl⟩
    refine b_freeze (i := 3) rfl ?_
    refine b_cons (ds_new (ds := (dueOf bl).map D.int) 4 (c_whole T (d_var 3) (De.to (c_block_sum (m := 1) T (d_var 3) d_int (by omega) (by decide)) (by rw [rep_one])) (by omega)) ?_)
    refine b_freeze (i := 4) rfl ?_
    show Bk _ r _ [.val _, .val _, .val _, .val (lsI bl), .val (lsI (dueOf bl)), .no, .no, .no, .no] _
    have hh : (longOf bl.length).length = 1 := by
      unfold longOf countedOf
      rw [if_pos (by omega), if_pos (by omega)]; rfl
    have hdl := dueOf_len bl
    have hdo := oct_due hbo (by omega)
    have hdlo : 12 ≤ (dueOf bl).length ∧ (dueOf bl).length ≤ 84 := by omega
    have at2 : L2.atI [D.int 59000, D.int 119000] (if decide ((9 : Int) < (bl.map D.int).length) = true then 1 else 0) = some (D.int ((if 9 < bl.length then 119000 else 59000 : Nat) : Int)) := by
      rw [List.length_map]
      by_cases h9 : 9 < bl.length
      · rw [if_pos (decide_eq_true (by omega)), if_pos h9]
        exact at_nat (j := 1) rfl
      · rw [if_neg (by rw [decide_eq_true_eq]; omega), if_neg h9]
        exact at_nat (j := 0) rfl
    have hB : ∃ B : Nat, (if 9 < bl.length then 119000 else 59000 : Nat) = B ∧ 59000 ≤ B ∧ B ≤ 119000 := ⟨_, rfl, by split <;> omega, by split <;> omega⟩
    obtain ⟨B, eB, B1, B2⟩ := hB
    rw [eB] at at2
    refine b_cut (fun Γ => ∃ m : Nat, (m * (dueOf bl).length ≤ 119000 ∧ 3 ≤ m ∧ m ≤ 20000) ∧ Γ = [.val (.raw v), .val (.int kind), .val (.int size), .val (lsI bl), .val (lsI (dueOf bl)), .val (.int m), .no, .no, .no])
      (s_set (i := 5) sto (z_sub (k := fun i => ∃ m : Nat, (m * (dueOf bl).length ≤ 119000 ∧ 3 ≤ m ∧ m ≤ 20000) ∧ i = m) (z_of (d_sub (d_fdiv (d_ixL (Dn.de (n_lst (da_cons d_int (da_cons d_int da_nil)))) (d_intB T.m_int (d_gt (d_lenL T.m_len (d_var 3)) d_int)) at2) (d_lenL T.m_len (d_var 4)) (by unfold CDiv; rw [List.length_map]; omega)) d_int) rfl) (z_any T (d_var 0) d_int (by decide) (by decide) hd) ?many) (by rintro _ ⟨_, rfl, m, h, rfl⟩; exact ⟨_, Wk.refl _, m, h, rfl⟩)) ?_
    case many =>
      rintro _ j rfl ⟨j1, j2⟩
      rw [List.length_map]
      have e0 : (B : Int) / ((dueOf bl).length : Nat) = ((B / (dueOf bl).length : Nat) : Int) := rfl
      have e1 : B / (dueOf bl).length * (dueOf bl).length ≤ B := Nat.div_mul_le_self _ _
      have e2 : 84 * (B / (dueOf bl).length) ≥ B - 84 := by
        have := Nat.lt_div_mul_add (a := B) (show 0 < (dueOf bl).length by omega)
        have e3 : B / (dueOf bl).length * (dueOf bl).length ≤ B / (dueOf bl).length * 84 := Nat.mul_le_mul_left _ hdlo.2
        omega
      have e4 : B / (dueOf bl).length * 12 ≤ B / (dueOf bl).length * (dueOf bl).length := Nat.mul_le_mul_left _ hdlo.1
      have e5 : (B / (dueOf bl).length - 1 - j.toNat) * (dueOf bl).length ≤ B / (dueOf bl).length * (dueOf bl).length := Nat.mul_le_mul_right _ (by omega)
      refine ⟨B / (dueOf bl).length - 1 - j.toNat, ⟨by omega, by omega, by omega⟩, ?_⟩
      rw [e0]
      omega
    rintro _ ⟨m, ⟨m1, m2, m3⟩, rfl⟩
    have rl : (rep m (dueOf bl)).length = m * (dueOf bl).length := rep_len _ _
    have hch : Chain (rep m (dueOf bl) ++ (dueOf bl).take ((dueOf bl).length - 1)) 0 (List.replicate m bl) (rep m (dueOf bl)).length := by
      have := chain_of (List.replicate m bl) ((dueOf bl).take ((dueOf bl).length - 1)) (fun b hb => by rw [(List.mem_replicate.mp hb).2]; omega) (frameAt_cut _ (by omega) _ (by omega))
      rw [flat_rep] at this
      exact this
    have c0 : cutDs ((dueOf bl).map D.int) none (some (((dueOf bl).map D.int).length - 1 : Int)) = ((dueOf bl).take ((dueOf bl).length - 1)).map D.int := by
      rw [List.length_map]
      have := cutD_to (ds := (dueOf bl).map D.int) ((dueOf bl).length - 1)
      rw [show (((dueOf bl).length - 1 : Nat) : Int) = ((dueOf bl).length : Int) - 1 by omega] at this
      rw [List.map_take]; exact this
    refine b_cons (ds_set 6 (c_frames T (d_tupleL T.m_tuple (ds := (rep m (dueOf bl) ++ (dueOf bl).take ((dueOf bl).length - 1)).map D.int) (De.to (Dn.de (n_cat (d_rep (d_var 4) (d_var 5) (by omega) (by omega)) (De.to (Dn.de (n_slice (d_var 4) do_none (do_some (d_sub (d_lenL T.m_len (d_var 4)) d_int)))) (by rw [c0])) ?l1)) (by rw [List.map_append]))) (oct_app (oct_rep hdo m) (oct_take hdo _)) ?l2 hch) ?_)
    case l1 => rw [List.length_map, List.length_map, List.length_take]; omega
    case l2 => rw [List.length_append, List.length_take]; omega
    have t0 : ∀ {κ : Kx} {r : Reg} {Γ : Gm} {c : Expr} {pos kp : Pos} {j}, De κ r c Γ (.tup [.tup ((List.replicate m bl).map tpI), .int (rep m (dueOf bl)).length]) → De κ r (.Subscript c (.Constant (.int 0) j kp) pos) Γ (.tup ((List.replicate m bl).map tpI)) := fun h => d_ixT h d_int (at_nat (j := 0) rfl)
    have t1 : ∀ {κ : Kx} {r : Reg} {Γ : Gm} {c : Expr} {pos kp : Pos} {j}, De κ r c Γ (.tup [.tup ((List.replicate m bl).map tpI), .int (rep m (dueOf bl)).length]) → De κ r (.Subscript c (.Constant (.int 1) j kp) pos) Γ (.int (rep m (dueOf bl)).length) := fun h => d_ixT h d_int (at_nat (j := 1) rfl)
    refine b_cons (ds_if (b := false || (false || (false || false))) (Pw.pt (dw_or (b1 := false) (dt_not (b := true) (dt_val (d_isi T.m_isinstance (d_var 6) (d_ty (T := "tuple") T.m_tuple (by decide +kernel)) rfl (by kernel_rfl)))) (fun _ => dw_or (b1 := false) (Dt.to (dt_ne (d_lenT T.m_len (d_var 6)) d_int) (by simp)) (fun _ => dw_or (b1 := false) (dt_not (b := true) (dt_val (d_isi T.m_isinstance (t0 (d_var 6)) (d_ty (T := "tuple") T.m_tuple (by decide +kernel)) rfl (by kernel_rfl)))) (fun _ => dw_oneO (Dt.to (dt_ne (d_lenT T.m_len (t0 (d_var 6))) (d_var 5)) (by simp))))))) (fun z => nomatch z) (fun _ => b_nil ?_))
    refine b_cons (s_for (g := gName 7) (ki := fun ds => ds.length = 5 ∧ ∀ x ∈ ds, intIn 0 ((m : Int) - 1) x) (fun _ i Γ => Γ = [.val (.raw v), .val (.int kind), .val (.int size), .val (lsI bl), .val (lsI (dueOf bl)), .val (.int m), .val (.tup [.tup ((List.replicate m bl).map tpI), .int (rep m (dueOf bl)).length]), .no, .no]) (i_list ((lst_all (kd := intIn 0 ((m : Int) - 1)) (pall_cons (z_of d_int ⟨by omega, by omega⟩) (pall_cons (z_of d_int ⟨by omega, by omega⟩) (pall_cons (z_of (d_sub (d_var 5) d_int) ⟨by omega, by omega⟩) (pall_cons (z_of (d_fdiv (d_var 5) d_int (by unfold CDiv; omega)) ⟨by omega, by omega⟩) (pall_cons (Pz.imp (z_any T (d_var 0) (d_var 5) (by omega) (by omega) hd) (by rintro n ⟨h1, h2⟩; exact ⟨h1, by omega⟩)) pall_nil)))))).imp fun d ⟨ds, e1, e2, e3⟩ => ⟨ds, e1, e2, e3⟩)) (fun X hX => pg_name' (i := 7) sto hX) (fun _ _ => rfl) ?turn ?done)
    case turn =>
      rintro ds i d _ ⟨_, h2⟩ hd' rfl
      obtain ⟨x, rfl, x1, x2⟩ := h2 d (List.mem_of_getElem? hd')
      have hg : L2.atI ((List.replicate m bl).map tpI) x = some (tpI bl) := at_natI x1 (by rw [List.getElem?_map, List.getElem?_replicate, if_pos (by omega)]; rfl)
      exact ⟨_, tg_name 7 _, b_one (ds_if (b := false) (Dt.to (dt_not (dt_val (c_is_row T (d_ixT (t0 (d_var 6)) (d_var 7) hg) (d_var 3) (by omega)))) (by simp)) (fun z => nomatch z) (fun _ => b_nil (Up.by (.eq (.eq (.eq (.eq (.eq (.eq (.eq (.no (.eq .nil))))))))) rfl)))⟩
    case done =>
      rintro ds _ _ rfl
      refine b_one (ds_ret (De.to (c_same (j := ((rep m (dueOf bl)).length : Nat)) T (t1 (d_var 6)) (De.to (d_mul (d_var 5) (d_lenL T.m_len (d_var 4)) (.inl (by omega))) (by rw [rl, List.length_map]; congr 1))) (d' := .bl true) (by simp)) hk)
  refine b_cons (ds_if (b := decide (1 < kind)) (dt_gt (d_var 1) d_int) (fun _ => b_one (ds_ret d_bl hk)) (fun _ => b_nil ?_))
  obtain ⟨hs0, hs1⟩ := hs
  obtain ⟨sz, rfl⟩ : ∃ sz : Nat, size = sz := ⟨size.toNat, by omega⟩
  refine b_cons (ds_new (ds := (bs.take sz).map D.int) 3 (Dn.to (n_slice (d_var 3) do_none (do_some (d_var 2))) (by rw [cutD_to, ← List.map_take])) ?_)
  refine b_freeze (i := 3) rfl ?_
  have hbl : (bs.take sz).length = sz := by rw [List.length_take]; omega
  have hbo := oct_take ho sz
  generalize bs.take sz = bl at hbl hbo
  show Bk _ r _ [.val _, .val _, .val _, .val (lsI bl), .no, .no, .no, .no, .no] _
  refine b_cut (fun Γ => ∃ m : Nat, (m * sz ≤ 59000 ∧ 16371 ≤ m * sz ∧ m ≤ 59000) ∧ Γ = [.val (.raw v), .val (.int kind), .val (.int sz), .val (lsI bl), .no, .val (.int m), .no, .no, .no])
    (s_set (i := 5) sto (z_fdiv (k := fun i => ∃ m : Nat, (m * sz ≤ 59000 ∧ 16371 ≤ m * sz ∧ m ≤ 59000) ∧ i = m) (c_of (kd := intIn 16380 59000) T (d_var 0) (lst_all (pall_cons (z_add (z_of d_int rfl) (z_any T (d_var 0) d_int (by decide) (by decide) hd) (by rintro _ j rfl hj; exact ⟨by omega, by omega⟩)) (pall_cons zin (pall_cons zin pall_nil)))) hd) (z_of (d_var 2) rfl) ?div) (by rintro _ ⟨_, rfl, m, h, rfl⟩; exact ⟨_, Wk.refl _, m, h, rfl⟩)) ?_
  case div =>
    rintro i _ ⟨h1, h2⟩ rfl
    refine ⟨by unfold CDiv; omega, i.toNat / sz, ?_, ?_⟩
    · have e1 : i.toNat / sz * sz ≤ i.toNat := Nat.div_mul_le_self _ _
      have e2 := Nat.lt_div_mul_add (a := i.toNat) (show 0 < sz by omega)
      have e3 : i.toNat / sz ≤ i.toNat := Nat.div_le_self _ _
      omega
    · have : ((i.toNat : Nat) : Int) = i := by omega
      conv => lhs; rw [← this]
      rfl
  rintro _ ⟨m, ⟨m1, m2, m3⟩, rfl⟩
  have rl : (rep m bl).length = m * sz := by rw [rep_len, hbl]
  have ro := oct_rep hbo m
  have hrep : ∀ {κ : Kx} {r : Reg} {Γ : Gm} {a b : Expr} {pos : Pos}, De κ r a Γ (lsI bl) → De κ r b Γ (.int m) → De κ r (.BinOp a .Mult b pos) Γ (lsI (rep m bl)) := fun h1 h2 => d_rep h1 h2 (by omega) (by omega)
  refine b_cons (ds_new (ds := (dueOf (rep m bl)).map D.int) 4 (c_whole T (hrep (d_var 3) (d_var 5)) (c_block_sum T (d_var 3) (d_var 5) (by omega) (by omega)) (by omega)) ?_)
  have h3 := longOf_len (rep m bl).length
  have hdl := dueOf_len (rep m bl)
  have hdo := oct_due ro (by omega)
  have hch : Chain (dueOf (rep m bl) ++ (dueOf (rep m bl)).take 100) 0 [rep m bl] (dueOf (rep m bl)).length := by
    have := chain_of [rep m bl] ((dueOf (rep m bl)).take 100) (fun b hb => by rw [List.mem_singleton.mp hb]; omega) (frameAt_cut _ (by omega) _ (by omega))
    simp only [List.map_cons, List.map_nil, List.flatten_cons, List.flatten_nil, List.append_nil] at this
    exact this
  have c0 : cutDs ((dueOf (rep m bl)).map D.int) none (some 100) = ((dueOf (rep m bl)).take 100).map D.int := by
    have := cutD_to (ds := (dueOf (rep m bl)).map D.int) 100
    rw [List.map_take]; exact this
  refine b_cons (ds_if (b := false) (Dt.to (dt_not (dt_val (e_own (i := 4) rfl (c_is_told (bs := [rep m bl]) (e := (dueOf (rep m bl)).length) T (c_frames T (d_tupleL T.m_tuple (ds := (dueOf (rep m bl) ++ (dueOf (rep m bl)).take 100).map D.int) (De.to (Dn.de (n_cat (d_var 4) (De.to (Dn.de (n_slice (d_var 4) do_none (do_some d_int))) (by rw [c0])) ?l1)) (by rw [List.map_append]))) (oct_app hdo (oct_take hdo _)) ?l2 hch) (Dn.de (n_lst (da_cons (hrep (d_var 3) (d_var 5)) da_nil))) (De.to (d_lenL T.m_len (d_var 4)) (by rw [List.length_map])) ?l3 (by simp)) (by rintro _ rfl; rfl)))) (by simp)) (fun z => nomatch z) (fun _ => b_nil ?_))
  case l1 => rw [List.length_map, List.length_map, List.length_take]; omega
  case l2 => rw [List.length_append, List.length_take]; omega
  case l3 => intro b hb; rw [List.mem_singleton.mp hb]; omega
  refine b_cons (ds_if (b := false) (Dt.to (dt_not (dt_val (c_same T (c_sum_of_octets T (d_tupleL T.m_tuple (hrep (d_var 3) (d_var 5))) (by omega)) (c_block_sum T (d_var 3) (d_var 5) (by omega) (by omega))))) (by simp)) (fun z => nomatch z) (fun _ => b_nil ?_))
  refine b_cut (fun Γ => ∃ q : Nat, q < (rep m bl).length ∧ Γ = [.val (.raw v), .val (.int kind), .val (.int sz), .val (lsI bl), .own ((dueOf (rep m bl)).map D.int), .val (.int m), .no, .no, .val (.int ((longOf (rep m bl).length).length + q : Nat))])
    (s_set (i := 8) sto (z_sub (k := fun i => ∃ q : Nat, q < (rep m bl).length ∧ i = ((longOf (rep m bl).length).length + q : Nat)) (z_of (d_sub (d_lenO 4 T.m_len rfl (d_lenL T.m_len (d_var 4))) d_int) rfl) (z_any T (d_var 0) d_int (by decide) (by decide) hd) (by rintro _ j rfl ⟨h1, h2⟩; exact ⟨(rep m bl).length - 1 - j.toNat, by omega, by omega⟩)) (by rintro _ ⟨_, rfl, q, h, rfl⟩; exact ⟨_, Wk.refl _, q, h, rfl⟩)) ?_
  rintro _ ⟨q, hq, rfl⟩
  have hqd : (longOf (rep m bl).length).length + q < (dueOf (rep m bl)).length := by omega
  have gq : L2.atI ((dueOf (rep m bl)).map D.int) (((longOf (rep m bl).length).length + q : Nat) : Int) = some (.int ((dueOf (rep m bl)).getD ((longOf (rep m bl).length).length + q) 0)) := at_I rfl hqd
  have bq := oct_get hdo hqd
  refine b_cons (s_item (i := 4) (k := fun d => ∃ x : Int, d = .int x ∧ 0 ≤ x ∧ x < 256 ∧ x ≠ (dueOf (rep m bl)).getD ((longOf (rep m bl).length).length + q) 0) rfl (Or.inl rfl) (by decide) (by decide) rfl (e_own (i := 4) rfl (z_mod (ka := fun i => ∃ t : Int, 0 ≤ t ∧ t ≤ 254 ∧ i = (dueOf (rep m bl)).getD ((longOf (rep m bl).length).length + q) 0 + 1 + t) (kb := fun i => i = 256) (k := fun i => 0 ≤ i ∧ i < 256 ∧ i ≠ (dueOf (rep m bl)).getD ((longOf (rep m bl).length).length + q) 0) (z_int T.m_int (z_add (z_of (d_add (d_ixL (d_var 4) (d_var 8) gq) d_int) rfl) (z_any T (d_var 0) d_int (by decide) (by decide) hd) (by rintro _ t rfl ⟨h1, h2⟩; exact ⟨t, h1, by omega, rfl⟩))) (z_of d_int rfl) ?mod) (by rintro _ ⟨x, rfl, _⟩; rfl)) (d_var 8) fun d j hd' hj => ?_)
  case mod =>
    rintro _ _ ⟨t, h1, h2, rfl⟩ rfl
    refine ⟨by decide, by omega, by omega, ?_⟩
    omega
  obtain ⟨x, rfl, hx0, hx1, hx2⟩ := hd'
  subst hj
  refine ⟨_, rfl, by rw [List.length_map]; exact hqd, ?_⟩
  refine b_freeze (i := 4) rfl ?_
  have hsp := spoil_set (rep m bl) ro (by omega) q (by omega) x hx0 hx1 hx2 []
  rw [List.append_nil] at hsp
  have hso := oct_set hdo ((longOf (rep m bl).length).length + q) hx0 hx1
  have hsl : ((dueOf (rep m bl)).set ((longOf (rep m bl).length).length + q) x).length = (dueOf (rep m bl)).length := List.length_set ..
  refine b_one (ds_ret (c_is_told (bs := []) (e := 0) T (c_frames T (d_tupleL T.m_tuple (De.to (d_var 4) (d' := lsI ((dueOf (rep m bl)).set ((longOf (rep m bl).length).length + q) x)) (by show D.lst _ = D.lst _; rw [List.map_set]))) hso (by omega) (.nil hsp)) (Dn.de (n_lst da_nil)) (De.to d_int rfl) (fun _ h => nomatch h) (by decide)) hk)
end
end K84

set_option Elab.async false
set_option linter.all false
set_option maxRecDepth 100000
set_option maxHeartbeats 1000000
namespace K84
open PySem PySem.Spec PyProof.Rows L2 Dv
section
variable {P : Program} {w : World} {K : PySem.W.Frag} {mg : Str → Option Value} {base : Heap} {f : Addr} {fd : FuncData}
variable {κ : Kx} {r : Reg} {Γ : Gm} {a b c : Expr} {pos p : Pos}
theorem c_frames_hold {bs : List (List Int)} (T : Top κ.K κ.mg) (ha : De κ r a Γ (.lst (bs.map pairD))) (hf : Fd bs) (hl : 5 ≤ κ.lv := by exact Nat.le_of_ble_eq_true rfl) (hg : κ.sc.names.lookup ("_law_frames_hold" : Str) = some .globalImplicit := by rfl) (pl : Pl a := by intro _ _; rfl) : De κ r (.Call (.Name "_law_frames_hold" p) [a] [] pos) Γ (.bl true) :=
  callD T.d_law_frames_hold (fun P w base fd F => ok_frames_hold T P w base fd F) bd_law_frames_hold hl T.g_law_frames_hold hg (da_cons ha da_nil (fun X _ => pl X.env [])) (by rintro _ rfl C; exact ⟨bs, rfl, hf, rfl⟩) (by decide) (fun X _ => pl X.env []) (fun _ _ => rfl)
theorem c_cuts_hold {v : V} {bs : List (List Int)} (T : Top κ.K κ.mg) (ha : De κ r a Γ (.raw v)) (hb : De κ r b Γ (.lst (bs.map pairD))) (hf : Fd bs) (hd : Draws r v) (hl : 5 ≤ κ.lv := by exact Nat.le_of_ble_eq_true rfl) (hg : κ.sc.names.lookup ("_law_cuts_hold" : Str) = some .globalImplicit := by rfl) (pl : Pl a := by intro _ _; rfl) (pl2 : Pl b := by intro _ _; rfl) : De κ r (.Call (.Name "_law_cuts_hold" p) [a, b] [] pos) Γ (.bl true) :=
  callD T.d_law_cuts_hold (fun P w base fd F => ok_cuts_hold T P w base fd F) bd_law_cuts_hold hl T.g_law_cuts_hold hg (da_cons ha (da_cons hb da_nil (fun X _ => pl2 X.env [])) (fun X _ => pl X.env [b])) (by rintro _ rfl C; exact ⟨v, bs, rfl, hf, hd.cells C, rfl⟩) (by decide) (fun X _ => pl X.env [b]) (fun X _ => by rw [pl2 X.env []]; rfl)
theorem c_spoils_hold {v : V} {bs : List (List Int)} (T : Top κ.K κ.mg) (ha : De κ r a Γ (.raw v)) (hb : De κ r b Γ (.lst (bs.map pairD))) (hf : Fd bs) (hd : Draws r v) (hl : 5 ≤ κ.lv := by exact Nat.le_of_ble_eq_true rfl) (hg : κ.sc.names.lookup ("_law_spoils_hold" : Str) = some .globalImplicit := by rfl) (pl : Pl a := by intro _ _; rfl) (pl2 : Pl b := by intro _ _; rfl) : De κ r (.Call (.Name "_law_spoils_hold" p) [a, b] [] pos) Γ (.bl true) :=
  callD T.d_law_spoils_hold (fun P w base fd F => ok_spoils_hold T P w base fd F) bd_law_spoils_hold hl T.g_law_spoils_hold hg (da_cons ha (da_cons hb da_nil (fun X _ => pl2 X.env [])) (fun X _ => pl X.env [b])) (by rintro _ rfl C; exact ⟨v, bs, rfl, hf, hd.cells C, rfl⟩) (by decide) (fun X _ => pl X.env [b]) (fun X _ => by rw [pl2 X.env []]; rfl)
theorem c_any_hold {v : V} {bs : List (List Int)} (T : Top κ.K κ.mg) (ha : De κ r a Γ (.raw v)) (hb : De κ r b Γ (.lst (bs.map pairD))) (hf : Fd bs) (hd : Draws r v) (hl : 5 ≤ κ.lv := by exact Nat.le_of_ble_eq_true rfl) (hg : κ.sc.names.lookup ("_law_any_hold" : Str) = some .globalImplicit := by rfl) (pl : Pl a := by intro _ _; rfl) (pl2 : Pl b := by intro _ _; rfl) : De κ r (.Call (.Name "_law_any_hold" p) [a, b] [] pos) Γ (.bl true) :=
  callD T.d_law_any_hold (fun P w base fd F => ok_any_hold T P w base fd F) bd_law_any_hold hl T.g_law_any_hold hg (da_cons ha (da_cons hb da_nil (fun X _ => pl2 X.env [])) (fun X _ => pl X.env [b])) (by rintro _ rfl C; exact ⟨v, bs, rfl, hf, hd.cells C, rfl⟩) (by decide) (fun X _ => pl X.env [b]) (fun X _ => by rw [pl2 X.env []]; rfl)
theorem c_great_holds {v : V} (T : Top κ.K κ.mg) (ha : De κ r a Γ (.raw v)) (hd : Draws r v) (hl : 5 ≤ κ.lv := by exact Nat.le_of_ble_eq_true rfl) (hg : κ.sc.names.lookup ("_law_great_holds" : Str) = some .globalImplicit := by rfl) (pl : Pl a := by intro _ _; rfl) : De κ r (.Call (.Name "_law_great_holds" p) [a] [] pos) Γ (.bl true) :=
  callD T.d_law_great_holds (fun P w base fd F => ok_great_holds T P w base fd F) bd_law_great_holds hl T.g_law_great_holds hg (da_cons ha da_nil (fun X _ => pl X.env [])) (by rintro _ rfl C; exact ⟨v, rfl, hd.cells C, rfl⟩) (by decide) (fun X _ => pl X.env []) (fun _ _ => rfl)
theorem all_pairs : ∀ {es : List D}, (∀ x ∈ es, ∃ b, (Oct b ∧ b.length ≤ 4000) ∧ x = pairD b) → ∃ bs : List (List Int), es = bs.map pairD ∧ ∀ b ∈ bs, Oct b ∧ b.length ≤ 4000
  | [], _ => ⟨[], rfl, fun _ h => (nomatch h)⟩
  | e :: es, h => by
    obtain ⟨bs, h1, h2⟩ := all_pairs (es := es) fun x hx => h x (List.mem_cons_of_mem _ hx)
    obtain ⟨b, h3, h4⟩ := h e (List.mem_cons_self ..)
    refine ⟨b :: bs, by rw [h1, h4]; rfl, fun x hx => ?_⟩
    rcases List.mem_cons.mp hx with rfl | hx
    · exact h3
    · exact h2 x hx
theorem law_rest (T : Top K mg) (cdv : Value) (A' : Around) (outer : List Env) (s : Shared) (H : Hp) (E : XK) (hr : Room 5 (A'.deeper (envOfC "law" (defScope st_law) s.heap.objs.size f cdv))) {r : Reg} {v : V} (hd : Draws r v) :
    Bk (kxOf P w K mg base ["script", "deal", "k", "found", "at"] "law" (defScope st_law) f cdv A' outer s H E 5 hr sc_law.nd) r (defBody st_law).tail [.no, .val (.raw v), .no, .no, .no] { nx := fun _ => False, rt := fun d => d = .bl true } := by
  refine b_cons (s_for (g := gName 2) (fun _ i Γ => Γ = [.no, .val (.raw v), .no, .no, .no]) (di_rng (n := 3) T.m_range d_int rfl (by decide) (by decide)) (fun X hX => pg_name' (i := 2) sto hX) (fun _ _ => rfl) ?turn ?done)
  case done =>
    rintro _ _ rfl rfl
    exact b_one (ds_ret d_bl rfl)
  case turn =>
    rintro _ i d _ rfl hd' rfl
    obtain ⟨hi, rfl⟩ := rng0_get hd'
    refine ⟨_, tg_name 2 _, ?_⟩
    refine b_cut (fun Γ => ∃ bs, Fd bs ∧ Γ = [.no, .val (.raw v), .val (.int i), .own (bs.map pairD), .no])
      (s_lc (i := 3) (j := 4) (kn := fun z => ∃ bs, Fd bs ∧ z = bs.map pairD) rfl rfl (lc_all (ki := fun z => ∃ i : Int, In 1 6 i ∧ z = rngD 0 1 i.toNat) (fun _ i acc => acc.length = i ∧ ∀ x ∈ acc, ∃ b, (Oct b ∧ b.length ≤ 4000) ∧ x = pairD b)
        (iz_rng T.m_range (z_add (z_of d_int rfl) (z_any T (d_var 1) d_int (by decide) (by decide) hd) (by rintro _ j rfl hj; exact ⟨by omega, by omega⟩)) (by rintro i ⟨h1, h2⟩; omega))
        (by rintro _ ⟨i, ⟨h1, h2⟩, rfl⟩; rw [rngD_len]; omega) (fun _ _ => ⟨rfl, fun _ h => (nomatch h)⟩) ?elt ?fin) sto (blkOk_by (by kernel_rfl)) (by rintro _ ⟨bs, h, rfl⟩; exact ⟨_, Wk.refl _, bs, h, rfl⟩) (by intro X hX; obtain rfl := hX; exact sw_true rfl rfl rfl (by decide +kernel))) ?_
    case elt =>
      rintro _ j d acc ⟨n, hn, rfl⟩ hd'' ⟨h1, h2⟩
      obtain ⟨hj, rfl⟩ := rng0_get hd''
      refine Pe.imp (c_body T (d_var 1) (e_and (k1 := fun _ => True) ((d_eq (d_var 2) d_int).imp fun d hd => ⟨_, hd, trivial⟩) (fun _ => e_and (k1 := fun _ => True) ((d_eq (d_var 4) d_int).imp fun d hd => ⟨_, hd, trivial⟩) (fun _ => e_one ((ez_eq (kk := fun _ => True) (z_any T (d_var 1) d_int (by decide) (by decide) hd) (z_of (k := fun _ => True) d_int trivial) (fun _ _ _ _ => trivial)).imp fun d ⟨c, hc, _⟩ => ⟨c, hc⟩)) (fun _ => ⟨false, rfl⟩)) (fun _ => ⟨false, rfl⟩)) hd) fun e he => ⟨by rw [List.length_append, h1]; rfl, fun x hx => ?_⟩
      rcases List.mem_append.mp hx with hx | hx
      · exact h2 x hx
      · rw [List.mem_singleton.mp hx]; exact he
    case fin =>
      rintro _ acc ⟨n, ⟨h3, h4⟩, rfl⟩ ⟨h1, h2⟩
      obtain ⟨bs, e1, e2⟩ := all_pairs h2
      rw [rngD_len, e1, List.length_map] at h1
      exact ⟨bs, ⟨fun z => by subst z; simp at h1; omega, by omega, e2⟩, e1⟩
    rintro _ ⟨bs, hf, rfl⟩
    refine b_freeze (i := 3) rfl ?_
    show Bk _ r _ [.no, .val _, .val _, .val (.lst (bs.map pairD)), .no] _
    refine b_cons (ds_if (b := false || (false || false)) (Pw.pt (dw_or (b1 := false) (dt_not (b := true) (dt_val (c_frames_hold T (d_var 3) hf))) (fun _ => dw_or (b1 := false) (dt_not (b := true) (dt_val (c_cuts_hold T (d_var 1) (d_var 3) hf hd))) (fun _ => dw_oneO (dt_not (b := true) (dt_val (c_spoils_hold T (d_var 1) (d_var 3) hf hd))))))) (fun z => nomatch z) (fun _ => b_nil ?_))
    refine b_one (s_if (kt := fun z => z = false) (Pw.pt (w_or (k1 := fun z => z = false) (dt_not (b := true) (dt_val (c_any_hold T (d_var 1) (d_var 3) hf hd))) (fun _ => w_or1 (Pw.pt (w_and (k1 := fun _ => True) ((dt_eq (d_var 2) d_int).imp fun _ _ => trivial) (fun _ => w_and1 (dt_not (b := true) (dt_val (c_great_holds T (d_var 1) hd)))) (fun _ => rfl)))) (fun z => nomatch z))) (fun z => nomatch z) (fun _ => b_nil (Up.by (.eq (.eq (.no (.no (.eq .nil))))) rfl)))
end
end K84

set_option Elab.async false
set_option linter.all false
set_option maxRecDepth 100000
set_option maxHeartbeats 1000000
namespace Dv
open PySem PySem.Spec PyProof.Rows L2
/-- a place that is only read stays as it is -/
def regS (H0 : Hp) (a : Addr) : Reg where
  own := fun b => H0 a ≠ none ∧ b = a
  ok := fun H => ∀ b, H0 a ≠ none ∧ b = a → H b = H0 b
  loc := fun H H' e k b hb => (e b hb).trans (k b hb)
  used := fun H b k hb => by
    rw [k b hb, hb.2]
    exact hb.1
theorem regS_sq {K : PySem.W.Frag} {H0 H : Hp} {a : Addr} {xs : List V} (h : SqL K H0 a xs) (k : (regS H0 a).ok H) : SqL K H a xs := by
  rcases h with h | h
  · have hn : H0 a ≠ none := by
      rcases h with h | ⟨o, h⟩
      · rw [h]; intro z; cases z
      · rw [h]; intro z; cases z
    have e : H a = H0 a := k a ⟨hn, rfl⟩
    rcases h with h | ⟨o, h⟩
    · exact .inl (.inl (by rw [e]; exact h))
    · exact .inl (.inr ⟨o, by rw [e]; exact h⟩)
  · exact .inr h
def regD (a s : Addr) : Reg where
  own := fun b => b = a ∨ b = s
  ok := fun H => DealAt a s H
  loc := fun H H' e k => by
    obtain ⟨h0, ns, mix, cnt, h1, h2, h3⟩ := k
    exact ⟨h0, ns, mix, cnt, by rw [e a (.inl rfl)]; exact h1, by rw [e s (.inr rfl)]; exact h2, h3⟩
  used := fun H b k hb => by
    obtain ⟨h0, ns, mix, cnt, h1, h2, h3⟩ := k
    rcases hb with rfl | rfl
    · rw [h1]; intro z; cases z
    · rw [h2]; intro z; cases z
theorem regD_draws (a s : Addr) : Draws (regD a s) (.ref a) := ⟨a, s, rfl, .inl rfl, .inr rfl, fun H k => ⟨k, fun H' _ d => d⟩⟩
/-- true comes, whatever else is there -/
def Bk0 (κ : Kx) (r : Reg) (body : List Stmt) (Γ : Gm) : Prop := ∀ B σ C H, At κ.K r B Γ σ C H → ∀ E : Ends, (∀ H', E.rt (.bl true) H') → xss κ body E σ H
theorem Bk0.of {κ : Kx} {r : Reg} {body : List Stmt} {Γ : Gm} (h : Bk κ r body Γ { nx := fun _ => False, rt := fun d => d = .bl true }) : Bk0 κ r body Γ := fun B σ C H at_ E q =>
  h B σ C H at_ E ⟨fun _ _ _ _ w => w.elim, fun d v H' w _ _ i => by
    subst w
    have i : v = V.bl true := i
    subst i
    exact q H', fun _ _ _ _ w => w.elim, fun _ _ _ _ w => w.elim, fun _ _ _ _ w => w.elim⟩
theorem bk0_cons {κ : Kx} {r : Reg} {st : Stmt} {rest : List Stmt} {Γ : Gm} (h : Ps κ r st Γ { nx := fun Γ' => Bk0 κ r rest Γ', rt := fun _ => False }) : Bk0 κ r (st :: rest) Γ := fun B σ C H at_ E q =>
  ⟨tSeq (xs κ st) (xss κ rest), fun X hX => pss_cons (xs_ok st hX) (xss_ok rest hX), h B σ C H at_ { E with nx := fun σ' H' => xss κ rest E σ' H' } ⟨fun Γ' σ' C' H' w a => w B σ' C' H' a E q, fun _ _ _ w => w.elim, fun _ _ _ _ w => w.elim, fun _ _ _ _ w => w.elim, fun _ _ _ _ w => w.elim⟩⟩
/-- what was seen as data is drawn from, from here on -/
theorem bk0_draw {κ : Kx} {r : Reg} {rest : List Stmt} {Γ : Gm} {ms : List Int} {mix cnt : Int} {n i : Nat} (hi : Γ[i]? = some (.val (.lst [lsI ms, .int mix, .int cnt]))) (hn : Γ.length = n) (h0 : ∀ n ∈ ms, 0 ≤ n) (h1 : ms.length ≤ 64) (h2 : 0 ≤ mix) (h3 : mix < 2147483647) (h4 : 0 ≤ cnt) (h : ∀ r v, Draws r v → Bk0 κ r rest ((List.replicate n Sl.no).set i (.val (.raw v)))) : Bk0 κ r rest Γ := fun B σ C H at_ E q => by
  obtain ⟨v, e1, p, vs, ev, hp, w1, r1, ew1, ⟨s, us, es, hs, iu⟩, w2, r2, ew2, e2, w3, r3, ew3, e3, e4⟩ := at_.val i _ hi
  have e2 : w2 = V.int mix := e2
  have e3 : w3 = V.int cnt := e3
  have e4 : r3 = [] := e4
  subst ev es e2 e3 e4 ew3 ew2 ew1
  have hp' := (hid_some hp).1
  have hs' := (hid_some hs).1
  rw [isA_ints iu] at hs'
  have hne : p ≠ s := fun z => by
    subst z
    rw [hp'] at hs'
    have := HO.lst.inj (Option.some.inj hs')
    cases ms with
    | nil => cases this
    | cons m ms => cases this
  have hl : i < n := by rw [← hn]; exact (List.getElem?_eq_some_iff.mp hi).1
  have only : ∀ {j : Nat} {t : Sl}, ((List.replicate n Sl.no).set i (.val (.raw (.ref p))))[j]? = some t → t = .no ∨ (j = i ∧ t = .val (.raw (.ref p))) := fun {j t} hj => by
    by_cases e : i = j
    · subst e
      rw [List.getElem?_set_self (by rw [List.length_replicate]; exact hl)] at hj
      exact .inr ⟨rfl, (Option.some.inj hj).symm⟩
    · rw [List.getElem?_set_ne e] at hj
      exact .inl (List.mem_replicate.mp (List.mem_of_getElem? hj)).2
  refine h (regD p s) (.ref p) (regD_draws p s) (fun _ => none) σ Cl.nil H ⟨⟨⟨hne, ms, mix, cnt, hp', hs', h0, h1, h2, h3, h4⟩, fun b us hb => (nomatch hb), fun b hb => absurd rfl hb⟩, fun b o hb => (nomatch hb), ?_, fun j d hj => ?_, fun j ds hj => ?_, fun j l ds es' b _ hj => ?_⟩ E q
  · rw [List.length_set, List.length_replicate, at_.len, hn]
  · rcases only hj with z | ⟨rfl, z⟩
    · cases z
    · cases z
      exact ⟨_, e1, rfl⟩
  · rcases only hj with z | ⟨_, z⟩ <;> cases z
  · rcases only hj with z | ⟨_, z⟩ <;> cases z
end Dv
namespace K84
open PySem PySem.Spec PyProof.Rows L2 Dv
section
variable {P : Program} {w : World} {K : PySem.W.Frag} {mg : Str → Option Value} {base : Heap} {f : Addr} {fd : FuncData}
def spLaw (K : PySem.W.Frag) : Sp := fun vs H Q _ => ∃ (a : Addr) (ns : List Int), vs = [.ref a] ∧ SqL K H a (ns.map V.int) ∧ ∀ H', Q (.bl true) H'
theorem ok_law (T : Top K mg) (P : Program) (w : World) (base : Heap) (fd : FuncData) (F : FnP K "law" st_law f fd) : FnOk P w K mg base CX0 6 f fd ["script"] (spLaw K) := by
  refine F.ok sc_law (fun vs H Q E ⟨a, ns, e, _⟩ => by rw [e]; rfl) fun cdv A' outer s H vs Q E hr h => ?_
  obtain ⟨a, ns, rfl, hS, hq⟩ := h
  have at0 := (at_start (K := K) (r := regS H a) (H := H) (ds := [.raw (.ref a)]) (vs := [.ref a]) ["script", "deal", "k", "found", "at"] (fun b _ => rfl) ⟨_, _, rfl, rfl, rfl⟩).base (B' := fun _ => none) (fun b o h => nomatch h)
  have h : xss (kxOf P w K mg base ["script", "deal", "k", "found", "at"] "law" (defScope st_law) f cdv A' outer s H E 5 hr sc_law.nd) (defBody st_law) { nx := fun _ H' => Q .non H', rt := Q } (L2.start ["script", "deal", "k", "found", "at"] [.ref a]) H := by
    refine (show Bk0 (kxOf P w K mg base ["script", "deal", "k", "found", "at"] "law" (defScope st_law) f cdv A' outer s H E 5 hr sc_law.nd) (regS H a) (defBody st_law) [.val (.raw (.ref a)), .no, .no, .no, .no] from ?_) _ _ _ _ at0 _ hq
    refine bk0_cons (s_set (i := 1) sto (k := fun d => ∃ (ms : List Int) (mix : Int), ((∀ n ∈ ms, 0 ≤ n) ∧ ms.length ≤ 64 ∧ 0 ≤ mix ∧ mix < 2147483647) ∧ d = .lst [lsI ms, .int mix, .int 0]) (c_deal (ns := ns) T (d_var 0) d_int (fun H' k => regS_sq hS k) (by decide) (by decide) (fun ms mix h1 h2 h3 h4 => ⟨ms, mix, ⟨h1, h2, h3, h4⟩, rfl⟩)) ?_)
    rintro _ ⟨ms, mix, ⟨h1, h2, h3, h4⟩, rfl⟩
    exact bk0_draw (i := 1) (n := 5) rfl rfl h1 h2 h3 h4 (by decide) fun r v hd => Bk0.of (law_rest T cdv A' outer s H E hr hd)
  obtain ⟨t, ht, hq⟩ := h
  exact ⟨t, PSs.nox (ht _ rfl), hq⟩
end
end K84

set_option Elab.async false
set_option linter.all false
set_option maxRecDepth 100000
set_option maxHeartbeats 0
namespace K84
open PySem PySem.Spec PyProof.Rows L2 Dv
theorem top_of {K : PySem.W.Frag} {h : Heap} {mg : Str → Option Value} (X : K.In h) (G : h.Ns mainGlobals mg) (c : He.SaysD fa fn K) : Top K mg where
  m_tuple := He.free_ok X G (c.fact 31 (f := .free "tuple") (by kernel_rfl))
  m_range := He.free_ok X G (c.fact 32 (f := .free "range") (by kernel_rfl))
  m_isinstance := He.free_ok X G (c.fact 33 (f := .free "isinstance") (by kernel_rfl))
  m_bool := He.free_ok X G (c.fact 34 (f := .free "bool") (by kernel_rfl))
  m_int := He.free_ok X G (c.fact 35 (f := .free "int") (by kernel_rfl))
  m_list := He.free_ok X G (c.fact 36 (f := .free "list") (by kernel_rfl))
  m_len := He.free_ok X G (c.fact 37 (f := .free "len") (by kernel_rfl))
  m_abs := He.free_ok X G (c.fact 38 (f := .free "abs") (by kernel_rfl))
  m_str := He.free_ok X G (c.fact 39 (f := .free "str") (by kernel_rfl))
  m_sum := He.free_ok X G (c.fact 40 (f := .free "sum") (by kernel_rfl))
  m_max := He.free_ok X G (c.fact 41 (f := .free "max") (by kernel_rfl))
  m_ord := He.free_ok X G (c.fact 42 (f := .free "ord") (by kernel_rfl))
  m_min := He.free_ok X G (c.fact 43 (f := .free "min") (by kernel_rfl))
  c_BASE := He.int_ok X G (c.fact 44 (by kernel_rfl))
  c_OCTET := He.int_ok X G (c.fact 45 (by kernel_rfl))
  c_PRIME := He.int_ok X G (c.fact 46 (by kernel_rfl))
  c_SUM_OCTETS := He.int_ok X G (c.fact 47 (by kernel_rfl))
  d_number_octets := c.def_ 0 (d := ⟨("number_octets", none), "number_octets", "number_octets", defArgs st_number_octets, defBody st_number_octets, defScope st_number_octets, [], []⟩) (by kernel_rfl)
  g_number_octets := He.glo_ok X G (c.fact 0 (f := .glo "number_octets") (by kernel_rfl))
  d_number_of := c.def_ 1 (d := ⟨("number_of", none), "number_of", "number_of", defArgs st_number_of, defBody st_number_of, defScope st_number_of, [], []⟩) (by kernel_rfl)
  g_number_of := He.glo_ok X G (c.fact 1 (f := .glo "number_of") (by kernel_rfl))
  d_behind_number := c.def_ 2 (d := ⟨("behind_number", none), "behind_number", "behind_number", defArgs st_behind_number, defBody st_behind_number, defScope st_behind_number, [], []⟩) (by kernel_rfl)
  g_behind_number := He.glo_ok X G (c.fact 2 (f := .glo "behind_number") (by kernel_rfl))
  d_read_number := c.def_ 3 (d := ⟨("read_number", none), "read_number", "read_number", defArgs st_read_number, defBody st_read_number, defScope st_read_number, [], []⟩) (by kernel_rfl)
  g_read_number := He.glo_ok X G (c.fact 3 (f := .glo "read_number") (by kernel_rfl))
  d_sum_of_octets := c.def_ 4 (d := ⟨("sum_of_octets", none), "sum_of_octets", "sum_of_octets", defArgs st_sum_of_octets, defBody st_sum_of_octets, defScope st_sum_of_octets, [], []⟩) (by kernel_rfl)
  g_sum_of_octets := He.glo_ok X G (c.fact 4 (f := .glo "sum_of_octets") (by kernel_rfl))
  d_sum_pair := c.def_ 5 (d := ⟨("sum_pair", none), "sum_pair", "sum_pair", defArgs st_sum_pair, defBody st_sum_pair, defScope st_sum_pair, [], []⟩) (by kernel_rfl)
  g_sum_pair := He.glo_ok X G (c.fact 5 (f := .glo "sum_pair") (by kernel_rfl))
  d_frame := c.def_ 6 (d := ⟨("frame", none), "frame", "frame", defArgs st_frame, defBody st_frame, defScope st_frame, [], []⟩) (by kernel_rfl)
  g_frame := He.glo_ok X G (c.fact 6 (f := .glo "frame") (by kernel_rfl))
  d_frame_at := c.def_ 7 (d := ⟨("frame_at", none), "frame_at", "frame_at", defArgs st_frame_at, defBody st_frame_at, defScope st_frame_at, [], []⟩) (by kernel_rfl)
  g_frame_at := He.glo_ok X G (c.fact 7 (f := .glo "frame_at") (by kernel_rfl))
  d_frames := c.def_ 8 (d := ⟨("frames", none), "frames", "frames", defArgs st_frames, defBody st_frames, defScope st_frames, [], []⟩) (by kernel_rfl)
  g_frames := He.glo_ok X G (c.fact 8 (f := .glo "frames") (by kernel_rfl))
  d_law_deal := c.def_ 9 (d := ⟨("_law_deal", none), "_law_deal", "_law_deal", defArgs st_law_deal, defBody st_law_deal, defScope st_law_deal, [], []⟩) (by kernel_rfl)
  g_law_deal := He.glo_ok X G (c.fact 9 (f := .glo "_law_deal") (by kernel_rfl))
  d_law_any := c.def_ 10 (d := ⟨("_law_any", none), "_law_any", "_law_any", defArgs st_law_any, defBody st_law_any, defScope st_law_any, [], []⟩) (by kernel_rfl)
  g_law_any := He.glo_ok X G (c.fact 10 (f := .glo "_law_any") (by kernel_rfl))
  d_law_of := c.def_ 11 (d := ⟨("_law_of", none), "_law_of", "_law_of", defArgs st_law_of, defBody st_law_of, defScope st_law_of, [], []⟩) (by kernel_rfl)
  g_law_of := He.glo_ok X G (c.fact 11 (f := .glo "_law_of") (by kernel_rfl))
  d_law_same := c.def_ 12 (d := ⟨("_law_same", none), "_law_same", "_law_same", defArgs st_law_same, defBody st_law_same, defScope st_law_same, [], []⟩) (by kernel_rfl)
  g_law_same := He.glo_ok X G (c.fact 12 (f := .glo "_law_same") (by kernel_rfl))
  d_law_counted := c.def_ 13 (d := ⟨("_law_counted", none), "_law_counted", "_law_counted", defArgs st_law_counted, defBody st_law_counted, defScope st_law_counted, [], []⟩) (by kernel_rfl)
  g_law_counted := He.glo_ok X G (c.fact 13 (f := .glo "_law_counted") (by kernel_rfl))
  d_law_summed := c.def_ 14 (d := ⟨("_law_summed", none), "_law_summed", "_law_summed", defArgs st_law_summed, defBody st_law_summed, defScope st_law_summed, [], []⟩) (by kernel_rfl)
  g_law_summed := He.glo_ok X G (c.fact 14 (f := .glo "_law_summed") (by kernel_rfl))
  d_law_flat := c.def_ 15 (d := ⟨("_law_flat", none), "_law_flat", "_law_flat", defArgs st_law_flat, defBody st_law_flat, defScope st_law_flat, [], []⟩) (by kernel_rfl)
  g_law_flat := He.glo_ok X G (c.fact 15 (f := .glo "_law_flat") (by kernel_rfl))
  d_law_is_row := c.def_ 16 (d := ⟨("_law_is_row", none), "_law_is_row", "_law_is_row", defArgs st_law_is_row, defBody st_law_is_row, defScope st_law_is_row, [], []⟩) (by kernel_rfl)
  g_law_is_row := He.glo_ok X G (c.fact 16 (f := .glo "_law_is_row") (by kernel_rfl))
  d_law_is_told := c.def_ 17 (d := ⟨("_law_is_told", none), "_law_is_told", "_law_is_told", defArgs st_law_is_told, defBody st_law_is_told, defScope st_law_is_told, [], []⟩) (by kernel_rfl)
  g_law_is_told := He.glo_ok X G (c.fact 17 (f := .glo "_law_is_told") (by kernel_rfl))
  d_law_long := c.def_ 18 (d := ⟨("_law_long", none), "_law_long", "_law_long", defArgs st_law_long, defBody st_law_long, defScope st_law_long, [], []⟩) (by kernel_rfl)
  g_law_long := He.glo_ok X G (c.fact 18 (f := .glo "_law_long") (by kernel_rfl))
  d_law_block_sum := c.def_ 19 (d := ⟨("_law_block_sum", none), "_law_block_sum", "_law_block_sum", defArgs st_law_block_sum, defBody st_law_block_sum, defScope st_law_block_sum, [], []⟩) (by kernel_rfl)
  g_law_block_sum := He.glo_ok X G (c.fact 19 (f := .glo "_law_block_sum") (by kernel_rfl))
  d_law_whole := c.def_ 20 (d := ⟨("_law_whole", none), "_law_whole", "_law_whole", defArgs st_law_whole, defBody st_law_whole, defScope st_law_whole, [], []⟩) (by kernel_rfl)
  g_law_whole := He.glo_ok X G (c.fact 20 (f := .glo "_law_whole") (by kernel_rfl))
  d_law_body := c.def_ 21 (d := ⟨("_law_body", none), "_law_body", "_law_body", defArgs st_law_body, defBody st_law_body, defScope st_law_body, [], []⟩) (by kernel_rfl)
  g_law_body := He.glo_ok X G (c.fact 21 (f := .glo "_law_body") (by kernel_rfl))
  d_law_ahead := c.def_ 22 (d := ⟨("_law_ahead", none), "_law_ahead", "_law_ahead", defArgs st_law_ahead, defBody st_law_ahead, defScope st_law_ahead, [], []⟩) (by kernel_rfl)
  g_law_ahead := He.glo_ok X G (c.fact 22 (f := .glo "_law_ahead") (by kernel_rfl))
  d_law_read := c.def_ 23 (d := ⟨("_law_read", none), "_law_read", "_law_read", defArgs st_law_read, defBody st_law_read, defScope st_law_read, [], []⟩) (by kernel_rfl)
  g_law_read := He.glo_ok X G (c.fact 23 (f := .glo "_law_read") (by kernel_rfl))
  d_law_frames_hold := c.def_ 24 (d := ⟨("_law_frames_hold", none), "_law_frames_hold", "_law_frames_hold", defArgs st_law_frames_hold, defBody st_law_frames_hold, defScope st_law_frames_hold, [], []⟩) (by kernel_rfl)
  g_law_frames_hold := He.glo_ok X G (c.fact 24 (f := .glo "_law_frames_hold") (by kernel_rfl))
  d_law_cuts_hold := c.def_ 25 (d := ⟨("_law_cuts_hold", none), "_law_cuts_hold", "_law_cuts_hold", defArgs st_law_cuts_hold, defBody st_law_cuts_hold, defScope st_law_cuts_hold, [], []⟩) (by kernel_rfl)
  g_law_cuts_hold := He.glo_ok X G (c.fact 25 (f := .glo "_law_cuts_hold") (by kernel_rfl))
  d_law_spoilt := c.def_ 26 (d := ⟨("_law_spoilt", none), "_law_spoilt", "_law_spoilt", defArgs st_law_spoilt, defBody st_law_spoilt, defScope st_law_spoilt, [], []⟩) (by kernel_rfl)
  g_law_spoilt := He.glo_ok X G (c.fact 26 (f := .glo "_law_spoilt") (by kernel_rfl))
  d_law_spoils_hold := c.def_ 27 (d := ⟨("_law_spoils_hold", none), "_law_spoils_hold", "_law_spoils_hold", defArgs st_law_spoils_hold, defBody st_law_spoils_hold, defScope st_law_spoils_hold, [], []⟩) (by kernel_rfl)
  g_law_spoils_hold := He.glo_ok X G (c.fact 27 (f := .glo "_law_spoils_hold") (by kernel_rfl))
  d_law_any_hold := c.def_ 28 (d := ⟨("_law_any_hold", none), "_law_any_hold", "_law_any_hold", defArgs st_law_any_hold, defBody st_law_any_hold, defScope st_law_any_hold, [], []⟩) (by kernel_rfl)
  g_law_any_hold := He.glo_ok X G (c.fact 28 (f := .glo "_law_any_hold") (by kernel_rfl))
  d_law_great_holds := c.def_ 29 (d := ⟨("_law_great_holds", none), "_law_great_holds", "_law_great_holds", defArgs st_law_great_holds, defBody st_law_great_holds, defScope st_law_great_holds, [], []⟩) (by kernel_rfl)
  g_law_great_holds := He.glo_ok X G (c.fact 29 (f := .glo "_law_great_holds") (by kernel_rfl))
  d_law := c.def_ 30 (d := ⟨("law", none), "law", "law", defArgs st_law, defBody st_law, defScope st_law, [], []⟩) (by kernel_rfl)
  g_law := He.glo_ok X G (c.fact 30 (f := .glo "law") (by kernel_rfl))
theorem facts {P : Program} {w : World} {K : PySem.W.Frag} {h : Heap} {mg : Str → Option Value} {f : Addr} (X : K.In h) (G : h.Ns mainGlobals mg) (hfa : mg ("law" : Str) = some (.ref f)) (c : He.SaysD fa fn K) :
    ∃ fd : FuncData, (∀ (s : Shared) (v : Value), BindsTo s fd ⟨[v], []⟩ [("script", v)]) ∧ ∀ base : Heap, K.In base → base.Ns mainGlobals mg → FnOk P w K mg base CX0 6 f fd ["script"] (spLaw K) := by
  have dl : ∃ fd, FnP K "law" st_law (He.ga K "law") fd := c.def_ 30 (d := ⟨("law", none), "law", "law", defArgs st_law, defBody st_law, defScope st_law, [], []⟩) (by kernel_rfl)
  obtain ⟨fd, F⟩ := dl
  have e := hfa.symm.trans (He.glo_ok X G (c.fact 30 (f := .glo "law") (by kernel_rfl)))
  cases e
  have b := FunD.bindsA (ps := ["script"]) F fun _ _ _ _ _ _ us hl => match us, hl with | [_], _ => rfl
  exact ⟨fd, fun s v => b s [v] rfl, fun base _ _ => ok_law (top_of X G c) P w base fd F⟩
end K84
open PySem PySem.W PySem.Calls PyProof.Rows
theorem PySem.Challenge.cw_ownmirrors_k84_whole_rows_of_frames_cut_holds : PySem.Challenge.rw_ownmirrors_k84_whole_rows_of_frames_cut.Holds := by
  w_on; o_law
  refine HandSHeadRun.head_any (r := OpenLaw.row PySem.Challenge.rw_ownmirrors_k84_whole_rows_of_frames_cut) (q := view (OpenLaw.row PySem.Challenge.rw_ownmirrors_k84_whole_rows_of_frames_cut).prog [K84.lawAt]) (H := K84.hk) (ob := K84.ob) (M := 3000) (loose := K84.loose) (d := HandSHeadRun.topDef (OpenLaw.row PySem.Challenge.rw_ownmirrors_k84_whole_rows_of_frames_cut).prog K84.lawAt) (kwd := []) K84.ob_eq
    (by kernel_rfl) (fun s => by kernel_rfl) K84.run (by kernel_rfl) (by kernel_rfl) (by kernel_rfl) (by rfl) (by first | assumption | decide +kernel) (by decide +kernel) ⟨rfl, rfl, rfl, rfl, rfl, by decide +kernel⟩ ?hw ?hc
  case hw => w_witness2
  case hc =>
    refine L2.walk_ofE (l := PySem.Challenge.rw_ownmirrors_k84_whole_rows_of_frames_cut) (n := 63) (k := 6) (x := "script") (CX := L2.CX0) rfl (by decide) (by kernel_rfl) ⟨rfl, by decide, by decide⟩ ?F (fun _ _ _ _ z => z)
    intro w mg fa h Y G hmg0
    obtain ⟨K, KX, c⟩ := Y
    have hmg : mg ("law" : PySem.Str) = some (.ref fa) := by
      have e : (HandSHeadRun.topDef (OpenLaw.row PySem.Challenge.rw_ownmirrors_k84_whole_rows_of_frames_cut).prog K84.lawAt).name = ("law" : PySem.Str) := by kernel_rfl
      rw [← e]
      exact hmg0
    obtain ⟨fd, hb, hF⟩ := K84.facts (P := (PySem.Challenge.rw_ownmirrors_k84_whole_rows_of_frames_cut).prog) (w := w) KX G hmg c
    exact ⟨K, fd, K84.spLaw K, KX, hb, fun H a ns hl _ hS => ⟨a, ns, rfl, hS, fun _ => rfl⟩, hF⟩

