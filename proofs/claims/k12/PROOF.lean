import PyProof.Rows.All
import Wide.All
import OpenK.AllK
import Wide.FinOn
import KE.KStateDown
import KE.SortKeyHeap
import HandS.Base
import HandS.Call
import HandS.Conv
import HandS.Defaults
import HandS.Ends
import HandS.Flow
import HandS.ForMost
import HandS.Head0
import HandS.Head1
import HandS.Head2
import HandS.HeadEnd
import HandS.HeadHook1
import HandS.HeadHook2
import HandS.IsInst
import HandS.More
import HandS.Set
import HandS.SetFor
import HandS.SortInts
import HandS.SortKw
import HandS.Strs
import HandS.Style
import HandS.TupAny
import HandS.Words
import HandS.WordsExc
import HandS.Zip
import PySem.Challenge.RW_campcarry_k12_layings_shown_or_not
set_option Elab.async false
set_option linter.all false
set_option maxRecDepth 100000
set_option maxHeartbeats 4000000
/-! QBase: readings over plain data. A value is told by a tree D; what is written in place is owned by a name. -/
namespace Q
open PySem PySem.Spec PyProof.Rows L2

abbrev Frag := PySem.W.Frag
abbrev AS := Addr → Prop

inductive D where
  | non | bl (b : Bool) | int (i : Int) | str (x : Str) | ty (n : String) | lst (l : List D) | tup (l : List D) | dic (ks : List Key) (l : List D) | scr (ns : List Int)

def TQ (K : Frag) (S : AS) (H : Hp) (a : Addr) (vs : List V) : Prop := (¬ S a ∧ Rd H a (.tup vs)) ∨ ∀ H', SqT K H' a vs
def SQ (K : Frag) (S : AS) (H : Hp) (a : Addr) (vs : List V) : Prop := (¬ S a ∧ ∃ o, H a = some (.frz o (.lst vs))) ∨ ∀ H', SqL K H' a vs
def DQ (K : Frag) (S : AS) (H : Hp) (a : Addr) (kvs : List (Key × V)) : Prop := (¬ S a ∧ Rd H a (.dK kvs))

mutual
def Rep (K : Frag) (S : AS) (H : Hp) : D → V → Prop
  | .non, v => v = .non
  | .bl b, v => v = .bl b
  | .int i, v => v = .int i
  | .str x, v => v = .str x
  | .ty n, v => v = .ty n
  | .lst l, v => ∃ a vs, v = .ref a ∧ ¬ S a ∧ H a = some (.lst vs) ∧ Reps K S H l vs
  | .tup l, v => ∃ a vs, v = .ref a ∧ TQ K S H a vs ∧ Reps K S H l vs
  | .dic ks l, v => ∃ a kvs, v = .ref a ∧ DQ K S H a kvs ∧ kvs.map (·.1) = ks ∧ Reps K S H l (kvs.map (·.2))
  | .scr ns, v => ∃ a, v = .ref a ∧ SQ K S H a (ns.map V.int)
def Reps (K : Frag) (S : AS) (H : Hp) : List D → List V → Prop
  | [], vs => vs = []
  | d :: ds, vs => ∃ w ws, vs = w :: ws ∧ Rep K S H d w ∧ Reps K S H ds ws
end

/-- all that is reached outside S stands in H', outside S' -/
def Mv (S : AS) (H : Hp) (S' : AS) (H' : Hp) : Prop := ∀ a o, H a = some o → ¬ S a → H' a = some o ∧ ¬ S' a
theorem Mv.refl {S H} : Mv S H S H := fun _ _ h n => ⟨h, n⟩
theorem Mv.trans {S H S1 H1 S2 H2} (a : Mv S H S1 H1) (b : Mv S1 H1 S2 H2) : Mv S H S2 H2 := fun x o h n => let ⟨h1, n1⟩ := a x o h n; b x o h1 n1

theorem TQ.mv {K S H S' H' a vs} (m : Mv S H S' H') (h : TQ K S H a vs) : TQ K S' H' a vs := by
  rcases h with ⟨n, h | ⟨o, h⟩⟩ | h
  · obtain ⟨h1, n1⟩ := m _ _ h n; exact .inl ⟨n1, .inl h1⟩
  · obtain ⟨h1, n1⟩ := m _ _ h n; exact .inl ⟨n1, .inr ⟨o, h1⟩⟩
  · exact .inr h
theorem SQ.mv {K S H S' H' a vs} (m : Mv S H S' H') (h : SQ K S H a vs) : SQ K S' H' a vs := by
  rcases h with ⟨n, ⟨o, h⟩⟩ | h
  · obtain ⟨h1, n1⟩ := m _ _ h n; exact .inl ⟨n1, ⟨o, h1⟩⟩
  · exact .inr h
theorem DQ.mv {K S H S' H' a vs} (m : Mv S H S' H') (h : DQ K S H a vs) : DQ K S' H' a vs := by
  rcases h with ⟨n, h | ⟨o, h⟩⟩
  · obtain ⟨h1, n1⟩ := m _ _ h n; exact ⟨n1, .inl h1⟩
  · obtain ⟨h1, n1⟩ := m _ _ h n; exact ⟨n1, .inr ⟨o, h1⟩⟩
theorem TQ.sq {K S H a vs} (h : TQ K S H a vs) : SqT K H a vs := by
  rcases h with ⟨_, h⟩ | h
  · exact .inl h
  · exact h H
theorem SQ.sq {K S H a vs} (h : SQ K S H a vs) : SqL K H a vs := by
  rcases h with ⟨_, o, h⟩ | h
  · exact .inl (.inr ⟨o, h⟩)
  · exact h H

mutual
theorem Rep.mv {K : Frag} {S S' : AS} {H H' : Hp} (m : Mv S H S' H') : ∀ (d : D) (v : V), Rep K S H d v → Rep K S' H' d v
  | .non, _, h => by simp only [Rep] at h ⊢; exact h
  | .bl _, _, h => by simp only [Rep] at h ⊢; exact h
  | .int _, _, h => by simp only [Rep] at h ⊢; exact h
  | .str _, _, h => by simp only [Rep] at h ⊢; exact h
  | .ty _, _, h => by simp only [Rep] at h ⊢; exact h
  | .lst l, _, h => by
    simp only [Rep] at h ⊢
    obtain ⟨a, vs, e, n, h, r⟩ := h
    obtain ⟨h1, n1⟩ := m _ _ h n
    exact ⟨a, vs, e, n1, h1, Reps.mv m l vs r⟩
  | .tup l, _, h => by
    simp only [Rep] at h ⊢
    obtain ⟨a, vs, e, h, r⟩ := h
    exact ⟨a, vs, e, h.mv m, Reps.mv m l vs r⟩
  | .dic ks l, _, h => by
    simp only [Rep] at h ⊢
    obtain ⟨a, kvs, e, h, e2, r⟩ := h
    exact ⟨a, kvs, e, h.mv m, e2, Reps.mv m l _ r⟩
  | .scr ns, _, h => by
    simp only [Rep] at h ⊢
    obtain ⟨a, e, h⟩ := h
    exact ⟨a, e, h.mv m⟩
theorem Reps.mv {K : Frag} {S S' : AS} {H H' : Hp} (m : Mv S H S' H') : ∀ (ds : List D) (vs : List V), Reps K S H ds vs → Reps K S' H' ds vs
  | [], _, h => by simp only [Reps] at h ⊢; exact h
  | d :: ds, _, h => by
    simp only [Reps] at h ⊢
    obtain ⟨w, ws, e, h1, h2⟩ := h
    exact ⟨w, ws, e, Rep.mv m d w h1, Reps.mv m ds ws h2⟩
end

section
variable {K : Frag} {S : AS} {H : Hp} {d : D} {ds es : List D} {v : V} {vs ws : List V}
theorem Reps.nil : Reps K S H [] [] := by simp [Reps]
theorem Reps.cons (a : Rep K S H d v) (b : Reps K S H ds vs) : Reps K S H (d :: ds) (v :: vs) := by simp only [Reps]; exact ⟨v, vs, rfl, a, b⟩
theorem Reps.nil_inv (h : Reps K S H [] vs) : vs = [] := by simpa only [Reps] using h
theorem Reps.cons_inv (h : Reps K S H (d :: ds) vs) : ∃ w ws, vs = w :: ws ∧ Rep K S H d w ∧ Reps K S H ds ws := by simpa only [Reps] using h
theorem Reps.length : ∀ {ds : List D} {vs : List V}, Reps K S H ds vs → vs.length = ds.length
  | [], _, h => by rw [h.nil_inv]; rfl
  | d :: ds, _, h => by obtain ⟨w, ws, e, _, h2⟩ := h.cons_inv; rw [e, List.length_cons, List.length_cons, Reps.length h2]
theorem Reps.get : ∀ {ds : List D} {vs : List V} {i : Nat} {d : D}, Reps K S H ds vs → ds[i]? = some d → ∃ v, vs[i]? = some v ∧ Rep K S H d v
  | [], _, _, _, _, e => by simp at e
  | a :: ds, _, 0, d, h, e => by
    obtain ⟨w, ws, rfl, h1, _⟩ := h.cons_inv
    simp at e; subst e; exact ⟨w, rfl, h1⟩
  | a :: ds, _, i + 1, d, h, e => by
    obtain ⟨w, ws, rfl, _, h2⟩ := h.cons_inv
    obtain ⟨v, q, r⟩ := Reps.get (i := i) (d := d) h2 (by simpa using e)
    exact ⟨v, by simpa using q, r⟩
theorem Reps.get' : ∀ {ds : List D} {vs : List V} {i : Nat} {v : V}, Reps K S H ds vs → vs[i]? = some v → ∃ d, ds[i]? = some d ∧ Rep K S H d v
  | [], _, _, _, h, e => by rw [h.nil_inv] at e; simp at e
  | a :: ds, _, 0, v, h, e => by
    obtain ⟨w, ws, rfl, h1, _⟩ := h.cons_inv
    simp at e; subst e; exact ⟨a, rfl, h1⟩
  | a :: ds, _, i + 1, v, h, e => by
    obtain ⟨w, ws, rfl, _, h2⟩ := h.cons_inv
    obtain ⟨d, q, r⟩ := Reps.get' (i := i) (v := v) h2 (by simpa using e)
    exact ⟨d, by simpa using q, r⟩
theorem Reps.append : ∀ {ds es : List D} {vs ws : List V}, Reps K S H ds vs → Reps K S H es ws → Reps K S H (ds ++ es) (vs ++ ws)
  | [], _, _, _, h, k => by rw [h.nil_inv]; exact k
  | d :: ds, _, _, _, h, k => by
    obtain ⟨w, ws, rfl, h1, h2⟩ := h.cons_inv
    exact Reps.cons h1 (Reps.append h2 k)
theorem Reps.take : ∀ {ds : List D} {vs : List V} (n : Nat), Reps K S H ds vs → Reps K S H (ds.take n) (vs.take n)
  | _, _, 0, _ => by simpa using Reps.nil
  | [], _, n + 1, h => by rw [h.nil_inv]; exact Reps.nil
  | d :: ds, _, n + 1, h => by
    obtain ⟨w, ws, rfl, h1, h2⟩ := h.cons_inv
    exact Reps.cons h1 (Reps.take n h2)
theorem Reps.drop : ∀ {ds : List D} {vs : List V} (n : Nat), Reps K S H ds vs → Reps K S H (ds.drop n) (vs.drop n)
  | _, _, 0, h => h
  | [], _, n + 1, h => by rw [h.nil_inv]; exact Reps.nil
  | d :: ds, _, n + 1, h => by
    obtain ⟨w, ws, rfl, h1, h2⟩ := h.cons_inv
    exact Reps.drop n h2
theorem Reps.reverse : ∀ {ds : List D} {vs : List V}, Reps K S H ds vs → Reps K S H ds.reverse vs.reverse
  | [], _, h => by rw [h.nil_inv]; exact Reps.nil
  | d :: ds, _, h => by
    obtain ⟨w, ws, rfl, h1, h2⟩ := h.cons_inv
    rw [List.reverse_cons, List.reverse_cons]
    exact Reps.append (Reps.reverse h2) (Reps.cons h1 Reps.nil)
theorem Reps.set : ∀ {ds : List D} {vs : List V} (i : Nat), Reps K S H ds vs → Rep K S H d v → Reps K S H (ds.set i d) (vs.set i v)
  | [], _, _, h, _ => by rw [h.nil_inv]; exact Reps.nil
  | e :: ds, _, 0, h, r => by
    obtain ⟨w, ws, rfl, h1, h2⟩ := h.cons_inv
    exact Reps.cons r h2
  | e :: ds, _, i + 1, h, r => by
    obtain ⟨w, ws, rfl, h1, h2⟩ := h.cons_inv
    exact Reps.cons h1 (Reps.set i h2 r)
theorem Reps.eraseIdx : ∀ {ds : List D} {vs : List V} (i : Nat), Reps K S H ds vs → Reps K S H (ds.eraseIdx i) (vs.eraseIdx i)
  | [], _, _, h => by rw [h.nil_inv]; exact Reps.nil
  | e :: ds, _, 0, h => by
    obtain ⟨w, ws, rfl, h1, h2⟩ := h.cons_inv
    exact h2
  | e :: ds, _, i + 1, h => by
    obtain ⟨w, ws, rfl, h1, h2⟩ := h.cons_inv
    exact Reps.cons h1 (Reps.eraseIdx i h2)
theorem Reps.ints : ∀ {ns : List Int}, Reps K S H (ns.map D.int) (ns.map V.int)
  | [] => Reps.nil
  | n :: ns => Reps.cons (by simp [Rep]) Reps.ints
theorem Reps.ints_inv : ∀ {ns : List Int} {vs : List V}, Reps K S H (ns.map D.int) vs → vs = ns.map V.int
  | [], _, h => h.nil_inv
  | n :: ns, _, h => by
    obtain ⟨w, ws, rfl, h1, h2⟩ := Reps.cons_inv (d := D.int n) (ds := ns.map D.int) h
    simp only [Rep] at h1
    subst h1
    rw [Reps.ints_inv h2]; rfl
theorem Reps.strs_inv : ∀ {ns : List Str} {vs : List V}, Reps K S H (ns.map D.str) vs → vs = ns.map V.str
  | [], _, h => h.nil_inv
  | n :: ns, _, h => by
    obtain ⟨w, ws, rfl, h1, h2⟩ := Reps.cons_inv (d := D.str n) (ds := ns.map D.str) h
    simp only [Rep] at h1
    subst h1
    rw [Reps.strs_inv h2]; rfl
theorem Reps.strs : ∀ {ns : List Str}, Reps K S H (ns.map D.str) (ns.map V.str)
  | [] => Reps.nil
  | n :: ns => Reps.cons (by simp [Rep]) Reps.strs
theorem Reps.bls_inv : ∀ {ns : List Bool} {vs : List V}, Reps K S H (ns.map D.bl) vs → vs = ns.map V.bl
  | [], _, h => h.nil_inv
  | n :: ns, _, h => by
    obtain ⟨w, ws, rfl, h1, h2⟩ := Reps.cons_inv (d := D.bl n) (ds := ns.map D.bl) h
    simp only [Rep] at h1
    subst h1
    rw [Reps.bls_inv h2]; rfl
theorem Rep.int_inv {i : Int} (h : Rep K S H (.int i) v) : v = .int i := by simpa only [Rep] using h
theorem Rep.bl_inv {b : Bool} (h : Rep K S H (.bl b) v) : v = .bl b := by simpa only [Rep] using h
theorem Rep.str_inv {x : Str} (h : Rep K S H (.str x) v) : v = .str x := by simpa only [Rep] using h
theorem Rep.non_inv (h : Rep K S H .non v) : v = .non := by simpa only [Rep] using h
theorem Rep.ty_inv {n : String} (h : Rep K S H (.ty n) v) : v = .ty n := by simpa only [Rep] using h
theorem Rep.lst_inv {l : List D} (h : Rep K S H (.lst l) v) : ∃ a vs, v = .ref a ∧ ¬ S a ∧ H a = some (.lst vs) ∧ Reps K S H l vs := by simpa only [Rep] using h
theorem Rep.tup_inv {l : List D} (h : Rep K S H (.tup l) v) : ∃ a vs, v = .ref a ∧ TQ K S H a vs ∧ Reps K S H l vs := by simpa only [Rep] using h
theorem Rep.dic_inv {ks} {l : List D} (h : Rep K S H (.dic ks l) v) : ∃ a kvs, v = .ref a ∧ DQ K S H a kvs ∧ kvs.map (·.1) = ks ∧ Reps K S H l (kvs.map (·.2)) := by simpa only [Rep] using h
theorem Rep.scr_inv {l : List Int} (h : Rep K S H (.scr l) v) : ∃ a, v = .ref a ∧ SQ K S H a (l.map V.int) := by simpa only [Rep] using h
theorem Rep.int {i : Int} : Rep K S H (.int i) (.int i) := by simp only [Rep]
theorem Rep.bl {b : Bool} : Rep K S H (.bl b) (.bl b) := by simp only [Rep]
theorem Rep.str {x : Str} : Rep K S H (.str x) (.str x) := by simp only [Rep]
theorem Rep.ty {n : String} : Rep K S H (.ty n) (.ty n) := by simp only [Rep]
theorem Rep.non : Rep K S H .non .non := by simp only [Rep]
theorem Rep.lst {l a vs} (n : ¬ S a) (h : H a = some (.lst vs)) (r : Reps K S H l vs) : Rep K S H (.lst l) (.ref a) := by simp only [Rep]; exact ⟨a, vs, rfl, n, h, r⟩
theorem Rep.tup {l a vs} (h : TQ K S H a vs) (r : Reps K S H l vs) : Rep K S H (.tup l) (.ref a) := by simp only [Rep]; exact ⟨a, vs, rfl, h, r⟩
end

/-! ### what is owned; the names' slots -/
inductive Own where
  | lst (ds : List D) | rows (rs : List (Addr × List D)) | dic (ks : List Key) (ds : List D)
inductive Slot where
  | no | val (d : D) | own (p : Addr) (o : Own) | box
abbrev Env := List Slot
structure Ctx where
  K : Frag
  bx : Option Addr
def adr : Slot → List Addr
  | .own p (.rows rs) => p :: rs.map (·.1)
  | .own p _ => [p]
  | _ => []
def Ad (ρ : Env) : AS := fun a => ∃ (i : Nat) (s : Slot), ρ[i]? = some s ∧ a ∈ adr s
/-- outside what a value may be told: l, strictly (what is owned is not reached); else what is owned is lent -/
def Sx (S : AS) (ρ : Env) (l : Bool) : AS := fun a => S a ∨ (l = true ∧ Ad ρ a)
def BoxR (G : Ctx) (S : AS) (H : Hp) (c : Nat) : Prop := ∀ b, G.bx = some b → S b ∧ ∃ i j : Int, H b = some (.lst [.int i, .int j, .int c]) ∧ 0 ≤ j ∧ j < 2 ^ 50
def OwnR (K : Frag) (S : AS) (H : Hp) (p : Addr) : Own → Prop
  | .lst ds => ∃ vs, H p = some (.lst vs) ∧ Reps K S H ds vs
  | .rows rs => H p = some (.lst (rs.map fun r => V.ref r.1)) ∧ ∀ r ∈ rs, ∃ vs, H r.1 = some (.lst vs) ∧ Reps K S H r.2 vs
  | .dic ks ds => ∃ kvs, H p = some (.dK kvs) ∧ kvs.map (·.1) = ks ∧ Reps K S H ds (kvs.map (·.2))
def SlotR (G : Ctx) (S : AS) (H : Hp) (s : Slot) (o : Option V) : Prop :=
  match s with
  | .no => True
  | .val d => ∃ v, o = some v ∧ Rep G.K S H d v
  | .own p w => o = some (.ref p) ∧ OwnR G.K S H p w
  | .box => ∃ b, G.bx = some b ∧ o = some (.ref b)
structure EnvR (G : Ctx) (S : AS) (H : Hp) (σ : L2.St) (ρ : Env) (c : Nat) : Prop where
  len : σ.length = ρ.length
  sl : ∀ (i : Nat) (s : Slot), ρ[i]? = some s → SlotR G (Sx S ρ true) H s (σ.getD i none)
  nd : ∀ (i : Nat) (s : Slot), ρ[i]? = some s → (adr s).Nodup
  sep : ∀ (i j : Nat) (s t : Slot) (a : Addr), ρ[i]? = some s → ρ[j]? = some t → a ∈ adr s → a ∈ adr t → i = j
  out : ∀ a, Ad ρ a → ¬ S a
  dom : ∀ a, S a → H a ≠ none
  box : BoxR G S H c
/-- all but the box stands -/
def KeepE (G : Ctx) (H H' : Hp) : Prop := ∀ a o, H a = some o → G.bx ≠ some a → H' a = some o
theorem KeepE.refl {G H} : KeepE G H H := fun _ _ h _ => h
theorem KeepE.trans {G H H1 H2} (a : KeepE G H H1) (b : KeepE G H1 H2) : KeepE G H H2 := fun x o h n => b x o (a x o h n) n
theorem KeepE.new {G : Ctx} {H : Hp} {p : Addr} {o : HO} (h : H p = none) : KeepE G H (upd H p o) := fun a u e _ => by
  rw [upd_ne (ne_of_none e h)]; exact e
/-- what is owned ahead may change; what is owned behind was owned or is new -/
def Keep (G : Ctx) (ρ ρ' : Env) (H H' : Hp) : Prop := (∀ a o, H a = some o → ¬ Ad ρ a → G.bx ≠ some a → H' a = some o) ∧ ∀ a, Ad ρ' a → Ad ρ a ∨ H a = none
theorem Keep.refl {G ρ H} : Keep G ρ ρ H H := ⟨fun _ _ h _ _ => h, fun _ h => .inl h⟩
theorem KeepE.keep {G ρ H H'} (k : KeepE G H H') : Keep G ρ ρ H H' := ⟨fun a o h _ n => k a o h n, fun _ h => .inl h⟩
theorem Keep.trans {G ρ ρ1 ρ2 H H1 H2} (x : Keep G ρ ρ1 H H1) (y : Keep G ρ1 ρ2 H1 H2) (hb : ∀ b, G.bx = some b → H1 b ≠ none) : Keep G ρ ρ2 H H2 := by
  refine ⟨fun a o h n nb => ?_, fun a h => ?_⟩
  · have h1 := x.1 a o h n nb
    refine y.1 a o h1 (fun q => ?_) nb
    rcases x.2 a q with q | q
    · exact n q
    · rw [h] at q; cases q
  · rcases y.2 a h with q | q
    · exact x.2 a q
    · by_cases n : Ad ρ a
      · exact .inl n
      · refine .inr ?_
        cases e : H a with
        | none => rfl
        | some o =>
          by_cases nb : G.bx = some a
          · exact absurd q (hb a nb)
          · have := x.1 a o e n nb
            rw [this] at q; cases q

theorem sx_of {S : AS} {ρ : Env} {l : Bool} {a : Addr} (h : ¬ Sx S ρ l a) : ¬ S a := fun z => h (.inl z)
theorem sx_true {S : AS} {ρ : Env} {l : Bool} {a : Addr} (h : ¬ Sx S ρ true a) : ¬ Sx S ρ l a := fun z => by
  rcases z with z | ⟨_, z⟩
  · exact h (.inl z)
  · exact h (.inr ⟨rfl, z⟩)
section
variable {G : Ctx} {S : AS} {H H' H1 : Hp} {σ : L2.St} {ρ ρ' : Env} {c c' : Nat} {l : Bool}
theorem EnvR.nb (e : EnvR G S H σ ρ c) {a : Addr} (h : ¬ S a) : G.bx ≠ some a := fun z => h (e.box a z).1
theorem EnvR.mvE (e : EnvR G S H σ ρ c) (k : KeepE G H H') : Mv (Sx S ρ l) H (Sx S ρ l) H' := fun a o h n => ⟨k a o h (e.nb (sx_of n)), n⟩
theorem EnvR.mv (e : EnvR G S H σ ρ c) (k : Keep G ρ ρ' H H') : Mv (Sx S ρ true) H (Sx S ρ' true) H' := fun a o h n => by
  have nA : ¬ Ad ρ a := fun z => n (.inr ⟨rfl, z⟩)
  refine ⟨k.1 a o h nA (e.nb (sx_of n)), fun z => ?_⟩
  rcases z with z | ⟨_, z⟩
  · exact n (.inl z)
  · rcases k.2 a z with q | q
    · exact nA q
    · rw [h] at q; cases q
theorem OwnR.mv {K : Frag} {S S' : AS} {p : Addr} {w : Own} (m : Mv S H S' H') (hc : ∀ a ∈ adr (.own p w), ∀ o, H a = some o → H' a = some o) (h : OwnR K S H p w) : OwnR K S' H' p w := by
  cases w with
  | lst ds =>
    obtain ⟨vs, h1, h2⟩ := h
    exact ⟨vs, hc p (by simp [adr]) _ h1, Reps.mv m _ _ h2⟩
  | rows rs =>
    obtain ⟨h1, h2⟩ := h
    refine ⟨hc p (by simp [adr]) _ h1, fun r hr => ?_⟩
    obtain ⟨vs, q1, q2⟩ := h2 r hr
    exact ⟨vs, hc r.1 (by simp only [adr, List.mem_cons, List.mem_map]; exact .inr ⟨r, hr, rfl⟩) _ q1, Reps.mv m _ _ q2⟩
  | dic ks ds =>
    obtain ⟨kvs, h1, h2, h3⟩ := h
    exact ⟨kvs, hc p (by simp [adr]) _ h1, h2, Reps.mv m _ _ h3⟩
theorem EnvR.keepE (e : EnvR G S H σ ρ c) (k : KeepE G H H') (b : BoxR G S H' c') : EnvR G S H' σ ρ c' where
  len := e.len
  sl := fun i s h => by
    have q := e.sl i s h
    cases s with
    | no => trivial
    | val d => obtain ⟨v, h1, h2⟩ := q; exact ⟨v, h1, Rep.mv (e.mvE k) _ _ h2⟩
    | own p w =>
      obtain ⟨h1, h2⟩ := q
      exact ⟨h1, h2.mv (e.mvE k) fun a ha o ho => k a o ho (e.nb (e.out a ⟨i, _, h, ha⟩))⟩
    | box => exact q
  nd := e.nd
  sep := e.sep
  out := e.out
  dom := fun a h z => by
    cases q : H a with
    | none => exact e.dom a h q
    | some o =>
      by_cases nb : G.bx = some a
      · obtain ⟨_, i, j, q, _⟩ := b a nb
        rw [q] at z; cases z
      · rw [k a o q nb] at z; cases z
  box := b
theorem BoxR.new (h : BoxR G S H c) {p : Addr} {o : HO} (hp : H p = none) : BoxR G S (upd H p o) c := fun b hb => by
  obtain ⟨h1, i, j, h2, h3⟩ := h b hb
  exact ⟨h1, i, j, by rw [upd_ne (ne_of_none h2 hp)]; exact h2, h3⟩
theorem BoxR.ex (h : BoxR G S H c) (k : ∀ a o, H a = some o → H' a = some o) : BoxR G S H' c := fun b hb => by
  obtain ⟨h1, i, j, h2, h3⟩ := h b hb
  exact ⟨h1, i, j, k _ _ h2, h3⟩
theorem EnvR.new (e : EnvR G S H σ ρ c) {p : Addr} {o : HO} (hp : H p = none) : EnvR G S (upd H p o) σ ρ c := e.keepE (KeepE.new hp) (e.box.new hp)
/-- a new cell is outside all that is reached -/
theorem mv_new {S : AS} {p : Addr} (h : H p = none) : Mv S H (fun a => S a ∨ a = p) H := fun a o e n => ⟨e, fun z => by
  rcases z with z | z
  · exact n z
  · rw [z, h] at e; cases e⟩
theorem mv_upd {S : AS} {p : Addr} {o : HO} (h : H p = none) : Mv S H S (upd H p o) := fun a u e n => ⟨by rw [upd_ne (ne_of_none e h)]; exact e, n⟩
theorem mv_sub {S S' : AS} (h : ∀ a, S' a → S a) : Mv S H S' H := fun a o e n => ⟨e, fun z => n (h a z)⟩
def addS (S : AS) (p : Addr) : AS := fun a => S a ∨ a = p
theorem sx_add {S : AS} {p a : Addr} : Sx (addS S p) ρ l a ↔ Sx S ρ l a ∨ a = p := by
  unfold Sx addS
  constructor
  · rintro ((h | h) | h)
    · exact .inl (.inl h)
    · exact .inr h
    · exact .inl (.inr h)
  · rintro ((h | h) | h)
    · exact .inl (.inl h)
    · exact .inr h
    · exact .inl (.inr h)
/-- the same, a new cell shut off -/
theorem EnvR.shut (e : EnvR G S H σ ρ c) {p : Addr} {o : HO} (hp : H p = none) : EnvR G (addS S p) (upd H p o) σ ρ c := by
  have m : Mv (Sx S ρ true) H (Sx (addS S p) ρ true) (upd H p o) := fun a u ea n => by
    have ne := ne_of_none ea hp
    refine ⟨by rw [upd_ne ne]; exact ea, fun z => ?_⟩
    rcases sx_add.mp z with z | z
    · exact n z
    · exact ne z
  have hAd : ∀ a, Ad ρ a → H a ≠ none := fun a ⟨i, s, h, ha⟩ z => by
    have q := e.sl i s h
    cases s with
    | no => simp [adr] at ha
    | val d => simp [adr] at ha
    | box => simp [adr] at ha
    | own p w =>
      obtain ⟨_, q⟩ := q
      cases w with
      | lst ds => obtain ⟨vs, q, _⟩ := q; simp [adr] at ha; subst ha; rw [z] at q; cases q
      | dic ks ds => obtain ⟨vs, q, _⟩ := q; simp [adr] at ha; subst ha; rw [z] at q; cases q
      | rows rs =>
        obtain ⟨q1, q2⟩ := q
        simp only [adr, List.mem_cons, List.mem_map] at ha
        rcases ha with ha | ⟨r, hr, ha⟩
        · subst ha; rw [z] at q1; cases q1
        · subst ha
          obtain ⟨vs, q3, _⟩ := q2 r hr
          rw [z] at q3; cases q3
  refine ⟨e.len, fun i s h => ?_, e.nd, e.sep, fun a ha z => ?_, fun a h z => ?_, fun b hb => ?_⟩
  · have q := e.sl i s h
    cases s with
    | no => trivial
    | val d => obtain ⟨v, h1, h2⟩ := q; exact ⟨v, h1, Rep.mv m _ _ h2⟩
    | own p' w =>
      obtain ⟨h1, h2⟩ := q
      exact ⟨h1, h2.mv m fun a ha o ho => by rw [upd_ne (ne_of_none ho hp)]; exact ho⟩
    | box => exact q
  · rcases z with z | z
    · exact e.out a ha z
    · exact hAd a ha (z ▸ hp)
  · rcases h with h | h
    · by_cases q : a = p
      · rw [q, upd_same] at z; cases z
      · rw [upd_ne q] at z; exact e.dom a h z
    · rw [h, upd_same] at z; cases z
  · obtain ⟨h1, i, j, h2, h3⟩ := e.box b hb
    exact ⟨.inl h1, i, j, by rw [upd_ne (ne_of_none h2 hp)]; exact h2, h3⟩
theorem EnvR.shutTo (e : EnvR G S H σ ρ c) {p : Addr} {o : HO} (hp : H p = none) (hl : H' p = some o) (ex : KeepE G H H') (hb : BoxR G S H' c') : EnvR G (addS S p) H' σ ρ c' := by
  have e1 := e.shut (o := o) hp
  refine e1.keepE (fun a u h nb => ?_) fun b hbx => ?_
  · by_cases q : a = p
    · rw [q, upd_same] at h; rw [q, ← h]; exact hl
    · rw [upd_ne q] at h; exact ex a u h nb
  · obtain ⟨h1, i, j, h2⟩ := hb b hbx
    exact ⟨.inl h1, i, j, h2⟩
/-- .. let in again -/
theorem EnvR.open_ (e : EnvR G (addS S p) H σ ρ c) (hS : ∀ b, G.bx = some b → S b) : EnvR G S H σ ρ c := by
  have m : Mv (Sx (addS S p) ρ true) H (Sx S ρ true) H := mv_sub fun a z => sx_add.mpr (.inl z)
  refine ⟨e.len, fun i s h => ?_, e.nd, e.sep, fun a ha z => e.out a ha (.inl z), fun a h => e.dom a (.inl h), fun b hb => ?_⟩
  · have q := e.sl i s h
    cases s with
    | no => trivial
    | val d => obtain ⟨v, h1, h2⟩ := q; exact ⟨v, h1, Rep.mv m _ _ h2⟩
    | own p' w =>
      obtain ⟨h1, h2⟩ := q
      exact ⟨h1, h2.mv m fun a ha o ho => ho⟩
    | box => exact q
  · obtain ⟨_, i, j, h2, h3⟩ := e.box b hb
    exact ⟨hS b hb, i, j, h2, h3⟩
end

/-! ### setting a slot -/
theorem getD_set_self {σ : L2.St} {i : Nat} {o : Option V} (h : i < σ.length) : (σ.set i o).getD i none = o := by
  rw [List.getD_eq_getElem?_getD, List.getElem?_set_self h]; rfl
theorem getD_set_ne {σ : L2.St} {i j : Nat} {o : Option V} (h : i ≠ j) : (σ.set i o).getD j none = σ.getD j none := by
  rw [List.getD_eq_getElem?_getD, List.getD_eq_getElem?_getD, List.getElem?_set_ne h]
theorem set_inv {ρ : Env} {i j : Nat} {s t : Slot} (h : (ρ.set i s)[j]? = some t) : (i = j ∧ t = s ∧ i < ρ.length) ∨ (i ≠ j ∧ ρ[j]? = some t) := by
  by_cases e : i = j
  · subst e
    by_cases hl : i < ρ.length
    · rw [List.getElem?_set_self hl] at h; exact .inl ⟨rfl, (Option.some.inj h).symm, hl⟩
    · rw [List.getElem?_eq_none (by simpa using hl)] at h; cases h
  · rw [List.getElem?_set_ne e] at h; exact .inr ⟨e, h⟩
section
variable {G : Ctx} {S : AS} {H H' H1 : Hp} {σ : L2.St} {ρ ρ' : Env} {c c' : Nat} {l : Bool} {i : Nat}
/-- a slot set to what owns nothing -/
theorem EnvR.setN (e : EnvR G S H σ ρ c) {s : Slot} {o : Option V} (hs : adr s = []) (hr : SlotR G (Sx S ρ true) H s o) : EnvR G S H (σ.set i o) (ρ.set i s) c := by
  have hA : ∀ a, Ad (ρ.set i s) a → Ad ρ a := fun a ⟨j, t, h, ha⟩ => by
    rcases set_inv h with ⟨_, rfl, _⟩ | ⟨_, h⟩
    · rw [hs] at ha; cases ha
    · exact ⟨j, t, h, ha⟩
  have m : Mv (Sx S ρ true) H (Sx S (ρ.set i s) true) H := mv_sub fun a z => by
    rcases z with z | ⟨z, q⟩
    · exact .inl z
    · exact .inr ⟨z, hA a q⟩
  have tr : ∀ (t : Slot) (o : Option V), SlotR G (Sx S ρ true) H t o → SlotR G (Sx S (ρ.set i s) true) H t o := fun t o q => by
    cases t with
    | no => trivial
    | val d => obtain ⟨v, h1, h2⟩ := q; exact ⟨v, h1, Rep.mv m _ _ h2⟩
    | own p' w =>
      obtain ⟨h1, h2⟩ := q
      exact ⟨h1, h2.mv m fun a ha o ho => ho⟩
    | box => exact q
  refine ⟨by rw [List.length_set, List.length_set]; exact e.len, fun j t h => ?_, fun j t h => ?_, fun j k t u a hj hk ha hb => ?_, fun a ha => e.out a (hA a ha), e.dom, e.box⟩
  · rcases set_inv h with ⟨rfl, rfl, hl⟩ | ⟨hn, h⟩
    · rw [getD_set_self (by rw [e.len]; exact hl)]; exact tr _ _ hr
    · rw [getD_set_ne hn]; exact tr _ _ (e.sl j t h)
  · rcases set_inv h with ⟨_, rfl, _⟩ | ⟨_, h⟩
    · rw [hs]; exact List.nodup_nil
    · exact e.nd j t h
  · rcases set_inv hj with ⟨_, rfl, _⟩ | ⟨_, hj⟩
    · rw [hs] at ha; cases ha
    · rcases set_inv hk with ⟨_, rfl, _⟩ | ⟨_, hk⟩
      · rw [hs] at hb; cases hb
      · exact e.sep j k t u a hj hk ha hb
theorem keep_setN {s : Slot} (hs : adr s = []) : Keep G ρ (ρ.set i s) H H := ⟨fun _ _ h _ _ => h, fun a ⟨j, t, h, ha⟩ => by
    rcases set_inv h with ⟨_, rfl, _⟩ | ⟨_, h⟩
    · rw [hs] at ha; cases ha
    · exact .inl ⟨j, t, h, ha⟩⟩
/-- a slot set to a new cell that is owned; p was shut off -/
theorem EnvR.setOwn {p : Addr} {w : Own} (e : EnvR G (addS S p) H σ ρ c) (hS : ∀ b, G.bx = some b → S b) (np : ¬ S p) (hs : adr (.own p w) = [p]) (hw : OwnR G.K (Sx (addS S p) ρ true) H p w) : EnvR G S H (σ.set i (some (.ref p))) (ρ.set i (.own p w)) c := by
  have hA : ∀ a, Ad (ρ.set i (.own p w)) a → Ad ρ a ∨ a = p := fun a ⟨j, t, h, ha⟩ => by
    rcases set_inv h with ⟨_, rfl, _⟩ | ⟨_, h⟩
    · rw [hs] at ha; exact .inr (by simpa using ha)
    · exact .inl ⟨j, t, h, ha⟩
  have m : Mv (Sx (addS S p) ρ true) H (Sx S (ρ.set i (.own p w)) true) H := mv_sub fun a z => by
    rcases z with z | ⟨z, q⟩
    · exact .inl (.inl z)
    · rcases hA a q with q | q
      · exact .inr ⟨z, q⟩
      · exact .inl (.inr q)
  have tr : ∀ (t : Slot) (o : Option V), SlotR G (Sx (addS S p) ρ true) H t o → SlotR G (Sx S (ρ.set i (.own p w)) true) H t o := fun t o q => by
    cases t with
    | no => trivial
    | val d => obtain ⟨v, h1, h2⟩ := q; exact ⟨v, h1, Rep.mv m _ _ h2⟩
    | own p' w =>
      obtain ⟨h1, h2⟩ := q
      exact ⟨h1, h2.mv m fun a ha o ho => ho⟩
    | box => exact q
  have npA : ∀ j t, ρ[j]? = some t → p ∉ adr t := fun j t h ha => e.out p ⟨j, t, h, ha⟩ (.inr rfl)
  refine ⟨by rw [List.length_set, List.length_set]; exact e.len, fun j t h => ?_, fun j t h => ?_, fun j k t u a hj hk ha hb => ?_, fun a ha z => ?_, fun a h => e.dom a (.inl h), fun b hb => ?_⟩
  · rcases set_inv h with ⟨rfl, rfl, hl⟩ | ⟨hn, h⟩
    · rw [getD_set_self (by rw [e.len]; exact hl)]; exact tr (.own p w) _ ⟨rfl, hw⟩
    · rw [getD_set_ne hn]; exact tr _ _ (e.sl j t h)
  · rcases set_inv h with ⟨_, rfl, _⟩ | ⟨_, h⟩
    · rw [hs]; exact List.nodup_cons.mpr ⟨by simp, List.nodup_nil⟩
    · exact e.nd j t h
  · rcases set_inv hj with ⟨ij, rfl, _⟩ | ⟨_, hj'⟩
    · rcases set_inv hk with ⟨ik, rfl, _⟩ | ⟨_, hk'⟩
      · exact ij.symm.trans ik
      · rw [hs] at ha
        have q : a = p := by simpa using ha
        rw [q] at hb
        exact absurd hb (npA k u hk')
    · rcases set_inv hk with ⟨ik, rfl, _⟩ | ⟨_, hk'⟩
      · rw [hs] at hb
        have q : a = p := by simpa using hb
        rw [q] at ha
        exact absurd ha (npA j t hj')
      · exact e.sep j k t u a hj' hk' ha hb
  · rcases hA a ha with q | q
    · exact e.out a q (.inl z)
    · rw [q] at z; exact np z
  · obtain ⟨_, i, j, h2, h3⟩ := e.box b hb
    exact ⟨hS b hb, i, j, h2, h3⟩
end

/-! ### the judgements -/
def Kt (G : Ctx) (l : Bool) (S : AS) (σ : L2.St) (ρ : Env) (H : Hp) (Q : D → Nat → Prop) (QV : VK) : Prop :=
  ∀ d c' v H', Q d c' → EnvR G S H' σ ρ c' → KeepE G H H' → Rep G.K (Sx S ρ l) H' d v → QV v H'
def EW (G : Ctx) (l : Bool) (te : TE) (ρ : Env) (c : Nat) (Q : D → Nat → Prop) : Prop :=
  ∀ S σ H, EnvR G S H σ ρ c → ∀ QV : VK, Kt G l S σ ρ H Q QV → te σ H QV
def TW (G : Ctx) (tt : TT) (ρ : Env) (c : Nat) (Q : Bool → Nat → Prop) : Prop :=
  ∀ S σ H, EnvR G S H σ ρ c → ∀ QV : Bool → Hp → Prop, (∀ b c' H', Q b c' → EnvR G S H' σ ρ c' → KeepE G H H' → QV b H') → tt σ H QV
def AW (G : Ctx) (l : Bool) (ta : TA) (ρ : Env) (c : Nat) (Q : List D → Nat → Prop) : Prop :=
  ∀ S σ H, EnvR G S H σ ρ c → ∀ QV : List V → Hp → Prop, (∀ ds c' vs H', Q ds c' → EnvR G S H' σ ρ c' → KeepE G H H' → Reps G.K (Sx S ρ l) H' ds vs → QV vs H') → ta σ H QV
/-- a new list -/
def EF (G : Ctx) (l : Bool) (te : TE) (ρ : Env) (c : Nat) (Q : List D → Nat → Prop) : Prop :=
  ∀ S σ H, EnvR G S H σ ρ c → ∀ QV : VK, (∀ ds c' p vs H', Q ds c' → EnvR G (addS S p) H' σ ρ c' → KeepE G H H' → H p = none → H' p = some (.lst vs) → Reps G.K (Sx (addS S p) ρ l) H' ds vs → QV (.ref p) H') → te σ H QV

structure DW where
  nx : Env → Nat → Prop
  rt : D → Nat → Prop
  bk : Env → Nat → Prop := fun _ _ => False
  ct : Env → Nat → Prop := fun _ _ => False
structure Gd (G : Ctx) (S : AS) (ρ : Env) (H : Hp) (W : DW) (D : Ends) : Prop where
  nx : ∀ ρ' c' σ' H', W.nx ρ' c' → EnvR G S H' σ' ρ' c' → Keep G ρ ρ' H H' → D.nx σ' H'
  rt : ∀ d c' ρ' σ' v H', W.rt d c' → EnvR G S H' σ' ρ' c' → Keep G ρ ρ' H H' → Rep G.K (Sx S ρ' true) H' d v → D.rt v H'
  bk : ∀ ρ' c' σ' H', W.bk ρ' c' → EnvR G S H' σ' ρ' c' → Keep G ρ ρ' H H' → D.bk σ' H'
  ct : ∀ ρ' c' σ' H', W.ct ρ' c' → EnvR G S H' σ' ρ' c' → Keep G ρ ρ' H H' → D.ct σ' H'
def SW (G : Ctx) (ts : TS) (ρ : Env) (c : Nat) (W : DW) : Prop :=
  ∀ S σ H, EnvR G S H σ ρ c → ∀ D : Ends, Gd G S ρ H W D → ts D σ H
theorem EnvR.bxH {G S H σ ρ c} (e : EnvR G S H σ ρ c) : ∀ b, G.bx = some b → H b ≠ none := fun b hb z => by
  obtain ⟨_, i, j, q, _⟩ := e.box b hb
  rw [z] at q; cases q
theorem EnvR.bxS {G S H σ ρ c} (e : EnvR G S H σ ρ c) : ∀ b, G.bx = some b → S b := fun b hb => (e.box b hb).1
theorem Gd.keep {G S ρ ρ1 H H1 W D} (g : Gd G S ρ H W D) (k : Keep G ρ ρ1 H H1) (hb : ∀ b, G.bx = some b → H1 b ≠ none) : Gd G S ρ1 H1 W D :=
  ⟨fun ρ' c' σ' H' h e k' => g.nx ρ' c' σ' H' h e (k.trans k' hb), fun d c' ρ' σ' v H' h e k' r => g.rt d c' ρ' σ' v H' h e (k.trans k' hb) r,
    fun ρ' c' σ' H' h e k' => g.bk ρ' c' σ' H' h e (k.trans k' hb), fun ρ' c' σ' H' h e k' => g.ct ρ' c' σ' H' h e (k.trans k' hb)⟩
theorem Kt.keep {G l S σ ρ H H1 Q QV} (k : Kt G l S σ ρ H Q QV) (h : KeepE G H H1) : Kt G l S σ ρ H1 Q QV := fun d c' v H' q e k' r => k d c' v H' q e (h.trans k') r
end Q
namespace Q
open PySem PySem.Spec PyProof.Rows L2

def D.flat : D → Bool
  | .non | .bl _ | .int _ | .str _ | .ty _ => true
  | _ => false
theorem Rep.flat_any {K S H S' H'} : ∀ {d : D} {v : V}, d.flat = true → Rep K S H d v → Rep K S' H' d v
  | .non, _, _, h => by simp only [Rep] at h ⊢; exact h
  | .bl _, _, _, h => by simp only [Rep] at h ⊢; exact h
  | .int _, _, _, h => by simp only [Rep] at h ⊢; exact h
  | .str _, _, _, h => by simp only [Rep] at h ⊢; exact h
  | .ty _, _, _, h => by simp only [Rep] at h ⊢; exact h
  | .lst _, _, h, _ => by cases h
  | .tup _, _, h, _ => by cases h
  | .dic _ _, _, h, _ => by cases h
  | .scr _, _, h, _ => by cases h
theorem Reps.flat_any {K S H S' H'} : ∀ {ds : List D} {vs : List V}, (∀ d ∈ ds, d.flat = true) → Reps K S H ds vs → Reps K S' H' ds vs
  | [], _, _, h => by rw [h.nil_inv]; exact Reps.nil
  | d :: ds, _, f, h => by
    obtain ⟨w, ws, rfl, h1, h2⟩ := h.cons_inv
    exact Reps.cons (Rep.flat_any (f d (by simp)) h1) (Reps.flat_any (fun e he => f e (by simp [he])) h2)

section
variable {G : Ctx} {l : Bool} {ρ : Env} {c c1 : Nat} {te ta tb : TE} {tt tu : TT} {tr : TA} {Q Q' : D → Nat → Prop} {d : D} {i j : Nat}
theorem sx_le {S : AS} {a : Addr} (h : Sx S ρ l a) : Sx S ρ true a := by
  rcases h with h | ⟨_, h⟩
  · exact .inl h
  · exact .inr ⟨rfl, h⟩
theorem Rep.weak {K S H v} (r : Rep K (Sx S ρ true) H d v) : Rep K (Sx S ρ l) H d v := Rep.mv (mv_sub fun _ z => sx_le z) _ _ r
theorem Kt.ret {S σ H QV v} (k : Kt G l S σ ρ H Q QV) (q : Q d c) (e : EnvR G S H σ ρ c) (r : Rep G.K (Sx S ρ l) H d v) : QV v H := k d c v H q e KeepE.refl r
theorem EW.mono (h : EW G l te ρ c Q) (k : ∀ d c', Q d c' → Q' d c') : EW G l te ρ c Q' := fun S σ H e QV kt => h S σ H e QV fun d c' v H' q e' ke r => kt d c' v H' (k d c' q) e' ke r
theorem EW.lend (h : EW G true te ρ c Q) : EW G l te ρ c Q := fun S σ H e QV kt => h S σ H e QV fun d c' v H' q e' ke r => kt d c' v H' q e' ke r.weak
theorem EW.flat (h : EW G false te ρ c (fun d c' => d.flat = true ∧ Q d c')) : EW G l te ρ c Q := fun S σ H e QV kt => h S σ H e QV fun d c' v H' q e' ke r => kt d c' v H' q.2 e' ke (Rep.flat_any q.1 r)
theorem EF.toW (h : EF G l te ρ c (fun ds c' => Q (.lst ds) c')) : EW G l te ρ c Q := fun S σ H e QV kt => h S σ H e QV fun ds c' p vs H' q e' ke hp hl r => by
  have eO := e'.open_ e.bxS
  refine kt (.lst ds) c' _ H' q eO ke (Rep.lst (fun z => ?_) hl (Reps.mv (mv_sub fun a z => sx_add.mpr (.inl z)) _ _ r))
  rcases z with z | ⟨_, z⟩
  · exact e.dom p z hp
  · exact e'.out p z (.inr rfl)
theorem EF.mono {QF QF' : List D → Nat → Prop} (h : EF G l te ρ c QF) (k : ∀ d c', QF d c' → QF' d c') : EF G l te ρ c QF' := fun S σ H e QV kt => h S σ H e QV fun ds c' p vs H' q => kt ds c' p vs H' (k ds c' q)
theorem EF.lend {QF : List D → Nat → Prop} (h : EF G true te ρ c QF) : EF G l te ρ c QF := fun S σ H e QV kt => h S σ H e QV fun ds c' p vs H' q e' ke hp hl r => kt ds c' p vs H' q e' ke hp hl (Reps.mv (mv_sub fun _ z => sx_le z) _ _ r)
theorem EF.flat {QF : List D → Nat → Prop} (h : EF G false te ρ c (fun ds c' => (∀ d ∈ ds, d.flat = true) ∧ QF ds c')) : EF G l te ρ c QF := fun S σ H e QV kt => h S σ H e QV fun ds c' p vs H' q e' ke hp hl r => kt ds c' p vs H' q.2 e' ke hp hl (Reps.flat_any q.1 r)
theorem TW.mono {QT QT' : Bool → Nat → Prop} (h : TW G tt ρ c QT) (k : ∀ b c', QT b c' → QT' b c') : TW G tt ρ c QT' := fun S σ H e QV kt => h S σ H e QV fun b c' H' q => kt b c' H' (k b c' q)

/-! ### names and constants -/
theorem EW.var (h : ρ[i]? = some (.val d)) (q : Q d c) : EW G l (tVar i) ρ c Q := fun S σ H e QV kt => by
  obtain ⟨v, hv, r⟩ := e.sl i _ h
  have hl : i < σ.length := by rw [e.len]; exact (List.getElem?_eq_some_iff.mp h).1
  refine ⟨v, ?_, kt.ret q e r.weak⟩
  rw [List.getD_eq_getElem?_getD, List.getElem?_eq_getElem hl] at hv
  rw [List.getElem?_eq_getElem hl]
  exact congrArg some (by simpa using hv)
theorem slot_ref {S σ H p w} (e : EnvR G S H σ ρ c) (h : ρ[i]? = some (.own p w)) : σ[i]? = some (some (.ref p)) := by
  obtain ⟨hv, r⟩ := e.sl i _ h
  have hl : i < σ.length := by rw [e.len]; exact (List.getElem?_eq_some_iff.mp h).1
  rw [List.getD_eq_getElem?_getD, List.getElem?_eq_getElem hl] at hv
  rw [List.getElem?_eq_getElem hl]
  exact congrArg some (by simpa using hv)
theorem slot_box {S σ H} (e : EnvR G S H σ ρ c) (h : ρ[i]? = some .box) : ∃ b, G.bx = some b ∧ σ[i]? = some (some (.ref b)) := by
  obtain ⟨b, hb, hv⟩ := e.sl i _ h
  have hl : i < σ.length := by rw [e.len]; exact (List.getElem?_eq_some_iff.mp h).1
  rw [List.getD_eq_getElem?_getD, List.getElem?_eq_getElem hl] at hv
  refine ⟨b, hb, ?_⟩
  rw [List.getElem?_eq_getElem hl]
  exact congrArg some (by simpa using hv)
theorem EW.varOwn {p ds} (h : ρ[i]? = some (.own p (.lst ds))) (q : Q (.lst ds) c) : EW G false (tVar i) ρ c Q := fun S σ H e QV kt => by
  obtain ⟨_, vs, h1, h2⟩ := e.sl i _ h
  refine ⟨_, slot_ref e h, kt.ret q e (Rep.lst (fun z => ?_) h1 (Reps.mv (mv_sub fun _ z => sx_le z) _ _ h2))⟩
  rcases z with z | ⟨z, _⟩
  · exact e.out p ⟨i, _, h, by simp [adr]⟩ z
  · cases z
theorem EW.cint {n : Int} (q : Q (.int n) c) : EW G l (tC (.int n)) ρ c Q := fun S σ H e QV kt => kt.ret q e Rep.int
theorem EW.cstr {n : Str} (q : Q (.str n) c) : EW G l (tC (.str n)) ρ c Q := fun S σ H e QV kt => kt.ret q e Rep.str
theorem EW.cbl {n : Bool} (q : Q (.bl n) c) : EW G l (tC (.bl n)) ρ c Q := fun S σ H e QV kt => kt.ret q e Rep.bl
theorem EW.cnon (q : Q .non c) : EW G l (tC .non) ρ c Q := fun S σ H e QV kt => kt.ret q e Rep.non
theorem EW.cty {n : String} (q : Q (.ty n) c) : EW G l (tC (.ty n)) ρ c Q := fun S σ H e QV kt => kt.ret q e Rep.ty

/-! ### operators -/
def RW2 (G : Ctx) (l : Bool) (r : R2) (x y : D) (ρ : Env) (c : Nat) (Q : D → Nat → Prop) : Prop :=
  ∀ S σ H, EnvR G S H σ ρ c → ∀ u w, Rep G.K (Sx S ρ l) H x u → Rep G.K (Sx S ρ l) H y w → ∀ QV : VK, Kt G l S σ ρ H Q QV → r u w H QV
def RWF (G : Ctx) (l : Bool) (r : R2) (x y : D) (ρ : Env) (c : Nat) (Q : List D → Nat → Prop) : Prop :=
  ∀ S σ H, EnvR G S H σ ρ c → ∀ u w, Rep G.K (Sx S ρ l) H x u → Rep G.K (Sx S ρ l) H y w → ∀ QV : VK, (∀ ds c' p vs H', Q ds c' → EnvR G (addS S p) H' σ ρ c' → KeepE G H H' → H p = none → H' p = some (.lst vs) → Reps G.K (Sx (addS S p) ρ l) H' ds vs → QV (.ref p) H') → r u w H QV
theorem EW.op {r : R2} (h : EW G l ta ρ c (fun x c1 => EW G l tb ρ c1 (fun y c2 => RW2 G l r x y ρ c2 Q))) : EW G l (tOp r ta tb) ρ c Q := fun S σ H e QV kt =>
  h S σ H e _ fun x c1 u H1 q1 e1 k1 r1 => q1 S σ H1 e1 _ fun y c2 w H2 q2 e2 k2 r2 => q2 S σ H2 e2 u w (Rep.mv (e1.mvE k2) _ _ r1) r2 QV ((kt.keep k1).keep k2)
theorem EF.op {r : R2} {QF : List D → Nat → Prop} (h : EW G l ta ρ c (fun x c1 => EW G l tb ρ c1 (fun y c2 => RWF G l r x y ρ c2 QF))) : EF G l (tOp r ta tb) ρ c QF := fun S σ H e QV kt =>
  h S σ H e _ fun x c1 u H1 q1 e1 k1 r1 => q1 S σ H1 e1 _ fun y c2 w H2 q2 e2 k2 r2 => q2 S σ H2 e2 u w (Rep.mv (e1.mvE k2) _ _ r1) r2 QV fun ds c' p vs H' q e' ke hp hl r => kt ds c' p vs H' q e' ((k1.trans k2).trans ke) (by
    cases z : H p with
    | none => rfl
    | some o =>
      by_cases nb : G.bx = some p
      · exact absurd hp (e2.bxH p nb)
      · rw [(k1.trans k2) p o z nb] at hp; cases hp) hl r
theorem RW2.ii {f : Int → Int → Int} {x y : Int} (q : Q (.int (f x y)) c) : RW2 G l (rI0 fun i j => .int (f i j)) (.int x) (.int y) ρ c Q := fun S σ H e u w ru rw QV kt => ⟨x, y, ru.int_inv, rw.int_inv, kt.ret q e Rep.int⟩
theorem RW2.ib {f : Int → Int → Bool} {x y : Int} (q : Q (.bl (f x y)) c) : RW2 G l (rI0 fun i j => .bl (f i j)) (.int x) (.int y) ρ c Q := fun S σ H e u w ru rw QV kt => ⟨x, y, ru.int_inv, rw.int_inv, kt.ret q e Rep.bl⟩
theorem RW2.ci {C : Int → Int → Prop} {f : Int → Int → Int} {x y : Int} (hc : C x y) (q : Q (.int (f x y)) c) : RW2 G l (rI C fun i j => .int (f i j)) (.int x) (.int y) ρ c Q := fun S σ H e u w ru rw QV kt => ⟨x, y, ru.int_inv, rw.int_inv, hc, kt.ret q e Rep.int⟩
theorem RW2.eqi {x y : Int} (q : Q (.bl (decide (x = y))) c) : RW2 G l rEq (.int x) (.int y) ρ c Q := fun S σ H e u w ru rw QV kt => by
  cases ru.int_inv; cases rw.int_inv
  refine ⟨rfl, ?_⟩
  have : decide (V.int x = V.int y) = decide (x = y) := by simp
  rw [this]; exact kt.ret q e Rep.bl
theorem RW2.eqs {x y : Str} (q : Q (.bl (decide (x = y))) c) : RW2 G l rEq (.str x) (.str y) ρ c Q := fun S σ H e u w ru rw QV kt => by
  cases ru.str_inv; cases rw.str_inv
  refine ⟨rfl, ?_⟩
  have : decide (V.str x = V.str y) = decide (x = y) := by simp
  rw [this]; exact kt.ret q e Rep.bl
theorem RW2.eqb {x y : Bool} (q : Q (.bl (decide (x = y))) c) : RW2 G l rEq (.bl x) (.bl y) ρ c Q := fun S σ H e u w ru rw QV kt => by
  cases ru.bl_inv; cases rw.bl_inv
  refine ⟨rfl, ?_⟩
  have : decide (V.bl x = V.bl y) = decide (x = y) := by simp
  rw [this]; exact kt.ret q e Rep.bl
theorem RW2.nei {x y : Int} (q : Q (.bl (!decide (x = y))) c) : RW2 G l rNe (.int x) (.int y) ρ c Q := fun S σ H e u w ru rw QV kt => by
  cases ru.int_inv; cases rw.int_inv
  refine ⟨rfl, ?_⟩
  have : decide (V.int x = V.int y) = decide (x = y) := by simp
  rw [this]; exact kt.ret q e Rep.bl
theorem RW2.nes {x y : Str} (q : Q (.bl (!decide (x = y))) c) : RW2 G l rNe (.str x) (.str y) ρ c Q := fun S σ H e u w ru rw QV kt => by
  cases ru.str_inv; cases rw.str_inv
  refine ⟨rfl, ?_⟩
  have : decide (V.str x = V.str y) = decide (x = y) := by simp
  rw [this]; exact kt.ret q e Rep.bl
theorem RW2.neb {x y : Bool} (q : Q (.bl (!decide (x = y))) c) : RW2 G l rNe (.bl x) (.bl y) ρ c Q := fun S σ H e u w ru rw QV kt => by
  cases ru.bl_inv; cases rw.bl_inv
  refine ⟨rfl, ?_⟩
  have : decide (V.bl x = V.bl y) = decide (x = y) := by simp
  rw [this]; exact kt.ret q e Rep.bl
def rAddStr : R2 := fun x y H Q => ∃ i j, x = .str i ∧ y = .str j ∧ i.length + j.length ≤ sizeLine ∧ Q (.str (i ++ j)) H
theorem op_addStr {X : Cx} : OpR X (binaryOp .Add) rAddStr := op_add_str
theorem RW2.adds {x y : Str} (hl : x.length + y.length ≤ sizeLine) (q : Q (.str (x ++ y)) c) : RW2 G l rAddStr (.str x) (.str y) ρ c Q := fun S σ H e u w ru rw QV kt =>
  ⟨x, y, ru.str_inv, rw.str_inv, hl, kt.ret q e Rep.str⟩
/-- is None, is not None -/
def isNon : D → Bool
  | .non => true
  | _ => false
theorem Rep.isNon {K S H} : ∀ {d : D} {v : V}, Rep K S H d v → decide (v = .non) = isNon d
  | .non, _, h => by rw [h.non_inv]; rfl
  | .bl _, _, h => by rw [h.bl_inv]; rfl
  | .int _, _, h => by rw [h.int_inv]; rfl
  | .str _, _, h => by rw [h.str_inv]; rfl
  | .ty _, _, h => by rw [h.ty_inv]; rfl
  | .lst _, _, h => by obtain ⟨a, _, rfl, _⟩ := h.lst_inv; rfl
  | .tup _, _, h => by obtain ⟨a, _, rfl, _⟩ := h.tup_inv; rfl
  | .dic _ _, _, h => by obtain ⟨a, _, rfl, _⟩ := h.dic_inv; rfl
  | .scr _, _, h => by obtain ⟨a, rfl, _⟩ := h.scr_inv; rfl
def rIsN : R2 := fun x y H Q => y = .non ∧ Q (.bl (decide (x = .non))) H
def rNotN : R2 := fun x y H Q => y = .non ∧ Q (.bl (!decide (x = .non))) H
theorem op_isN1 {X : Cx} : OpR X (compareOp .Is) rIsN := op_isN
theorem op_notN1 {X : Cx} : OpR X (compareOp .IsNot) rNotN := op_notN
theorem RW2.isN {x : D} (q : Q (.bl (isNon x)) c) : RW2 G l rIsN x .non ρ c Q := fun S σ H e u w ru rw QV kt => ⟨rw.non_inv, by rw [ru.isNon]; exact kt.ret q e Rep.bl⟩
theorem RW2.notN {x : D} (q : Q (.bl (!isNon x)) c) : RW2 G l rNotN x .non ρ c Q := fun S σ H e u w ru rw QV kt => ⟨rw.non_inv, by rw [ru.isNon]; exact kt.ret q e Rep.bl⟩
theorem RW2.isB {x y : Bool} (q : Q (.bl (decide (x = y))) c) : RW2 G l rIsB (.bl x) (.bl y) ρ c Q := fun S σ H e u w ru rw QV kt => ⟨x, y, ru.bl_inv, rw.bl_inv, kt.ret q e Rep.bl⟩
theorem RW2.notB {x y : Bool} (q : Q (.bl (!decide (x = y))) c) : RW2 G l rNotB (.bl x) (.bl y) ρ c Q := fun S σ H e u w ru rw QV kt => ⟨x, y, ru.bl_inv, rw.bl_inv, kt.ret q e Rep.bl⟩
/-- items -/
theorem atI_rep {K S H} {ds : List D} {vs : List V} {n : Int} (r : Reps K S H ds vs) (h : atI ds n = some d) : ∃ v, atI vs n = some v ∧ Rep K S H d v := by
  unfold atI at h ⊢
  rw [r.length]
  cases e : ixN ds.length n with
  | none => rw [e] at h; cases h
  | some k =>
    rw [e] at h
    exact r.get h
theorem RW2.ixL {ds : List D} {n : Int} (h : atI ds n = some d) (q : Q d c) : RW2 G l (rIxL G.K) (.lst ds) (.int n) ρ c Q := fun S σ H e u w ru rw QV kt => by
  obtain ⟨a, vs, rfl, _, ha, r⟩ := ru.lst_inv
  obtain ⟨v, hv, rv⟩ := atI_rep r h
  exact ⟨a, vs, n, v, rfl, rw.int_inv, .of ha, hv, kt.ret q e rv⟩
theorem RW2.ixT {ds : List D} {n : Int} (h : atI ds n = some d) (q : Q d c) : RW2 G l (rIxT G.K) (.tup ds) (.int n) ρ c Q := fun S σ H e u w ru rw QV kt => by
  obtain ⟨a, vs, rfl, ha, r⟩ := ru.tup_inv
  obtain ⟨v, hv, rv⟩ := atI_rep r h
  exact ⟨a, vs, n, v, rfl, rw.int_inv, ha.sq, hv, kt.ret q e rv⟩
theorem RW2.ixScr {ds : List Int} {n k : Int} (h : atI ds n = some k) (q : Q (.int k) c) : RW2 G l (rIxL G.K) (.scr ds) (.int n) ρ c Q := fun S σ H e u w ru rw QV kt => by
  obtain ⟨a, rfl, ha⟩ := ru.scr_inv
  refine ⟨a, _, n, .int k, rfl, rw.int_inv, ha.sq, ?_, kt.ret q e Rep.int⟩
  unfold atI at h ⊢
  rw [List.length_map]
  cases e : ixN ds.length n with
  | none => rw [e] at h; cases h
  | some j =>
    rw [e] at h
    show (ds.map V.int)[j]? = some (V.int k)
    rw [List.getElem?_map, show ds[j]? = some k from h]; rfl
theorem RW2.ixS {z : Str} {n : Int} {k : Nat} (hz : z.length ≤ sizeLine) (h : atI z.cps.toList n = some k) (q : Q (.str ⟨#[k]⟩) c) : RW2 G l rIxS (.str z) (.int n) ρ c Q := fun S σ H e u w ru rw QV kt =>
  ⟨z, n, k, ru.str_inv, rw.int_inv, hz, h, kt.ret q e Rep.str⟩
/-- any of the three -/
theorem RW2.ix {x : D} {n : Int} (h : RW2 G l (rIxL G.K) x (.int n) ρ c Q ∨ RW2 G l (rIxT G.K) x (.int n) ρ c Q ∨ RW2 G l rIxS x (.int n) ρ c Q) : RW2 G l (rIx G.K) x (.int n) ρ c Q := fun S σ H e u w ru rw QV kt => by
  rcases h with h | h | h
  · exact .inl (h S σ H e u w ru rw QV kt)
  · exact .inr (.inl (h S σ H e u w ru rw QV kt))
  · exact .inr (.inr (h S σ H e u w ru rw QV kt))
/-- an item of an owned list: never the list itself -/
theorem EW.ixOwn (h : ∃ p ds, ρ[i]? = some (.own p (.lst ds)) ∧ EW G l tb ρ c (fun y c2 => ∃ n d, y = .int n ∧ atI ds n = some d ∧ Q d c2)) : EW G l (tOp (rIx G.K) (tVar i) tb) ρ c Q := fun S σ H e QV kt => by
  obtain ⟨p, ds, h, hb⟩ := h
  refine ⟨_, slot_ref e h, hb S σ H e _ fun y c2 w H2 q e2 k2 r2 => ?_⟩
  obtain ⟨n, d, rfl, ha, q⟩ := q
  obtain ⟨_, vs, h1, h2⟩ := e2.sl i _ h
  obtain ⟨v, hv, rv⟩ := atI_rep h2 ha
  exact .inl ⟨p, vs, n, v, rfl, r2.int_inv, .of h1, hv, (kt.keep k2).ret q e2 rv.weak⟩
theorem new_cell {S H σ p vs} (e : EnvR G S H σ ρ c) (hp : H p = none) {ds : List D} (r : Reps G.K (Sx S ρ l) H ds vs) :
    EnvR G (addS S p) (upd H p (.lst vs)) σ ρ c ∧ KeepE G H (upd H p (.lst vs)) ∧ (upd H p (.lst vs)) p = some (.lst vs) ∧ Reps G.K (Sx (addS S p) ρ l) (upd H p (.lst vs)) ds vs :=
  ⟨e.shut hp, KeepE.new hp, upd_same, Reps.mv (fun a o h n => ⟨by rw [upd_ne (ne_of_none h hp)]; exact h, fun z => (sx_add.mp z).elim n (ne_of_none h hp)⟩) _ _ r⟩
theorem RWF.cat {ds es : List D} {QF : List D → Nat → Prop} (hz : ds.length + es.length ≤ sizeLine) (q : QF (ds ++ es) c) : RWF G l rCat (.lst ds) (.lst es) ρ c QF := fun S σ H e u w ru rw QV kt => by
  obtain ⟨a, vs, rfl, _, ha, r⟩ := ru.lst_inv
  obtain ⟨b, ws, rfl, _, hb, r2⟩ := rw.lst_inv
  refine ⟨a, b, vs, ws, rfl, rfl, ha, hb, by rw [r.length, r2.length]; exact hz, fun p hp => ?_⟩
  obtain ⟨e', k', h', r'⟩ := new_cell e hp (r.append r2)
  exact kt _ c p _ _ q e' k' hp h' r'
theorem Reps.rep {K S H} {ds : List D} {vs : List V} (r : Reps K S H ds vs) : ∀ n : Nat, Reps K S H (List.replicate n ds).flatten (List.replicate n vs).flatten
  | 0 => Reps.nil
  | n + 1 => by rw [List.replicate_succ, List.replicate_succ, List.flatten_cons, List.flatten_cons]; exact r.append (Reps.rep r n)
theorem RWF.rep {ds : List D} {n : Int} {QF : List D → Nat → Prop} (h1 : -(2 ^ 63) ≤ n) (h2 : n < 2 ^ 63) (hz : ds.length * n.toNat ≤ sizeLine) (q : QF (List.replicate n.toNat ds).flatten c) : RWF G l rRep (.lst ds) (.int n) ρ c QF := fun S σ H e u w ru rw QV kt => by
  obtain ⟨a, vs, rfl, _, ha, r⟩ := ru.lst_inv
  refine ⟨a, n, vs, rfl, rw.int_inv, ha, h1, h2, by rw [r.length]; exact hz, fun p hp => ?_⟩
  obtain ⟨e', k', h', r'⟩ := new_cell e hp (r.rep n.toNat)
  exact kt _ c p _ _ q e' k' hp h' r'
theorem RW2.ofF {r : R2} {x y : D} (h : RWF G l r x y ρ c (fun ds c' => Q (.lst ds) c')) : RW2 G l r x y ρ c Q := fun S σ H e u w ru rw QV kt => h S σ H e u w ru rw QV fun ds c' p vs H' q e' ke hp hl r => by
  have eO := e'.open_ e.bxS
  refine kt (.lst ds) c' _ H' q eO ke (Rep.lst (fun z => ?_) hl (Reps.mv (mv_sub fun a z => sx_add.mpr (.inl z)) _ _ r))
  rcases z with z | ⟨_, z⟩
  · exact e.dom p z hp
  · exact e'.out p z (.inr rfl)
theorem EW.neg (h : EW G l ta ρ c (fun x c1 => ∃ n, x = .int n ∧ Q (.int (-n)) c1)) : EW G l (tUn (rU fun i => .int (-i)) ta) ρ c Q := fun S σ H e QV kt =>
  h S σ H e _ fun x c1 u H1 q1 e1 k1 r1 => by
    obtain ⟨n, rfl, q⟩ := q1
    exact ⟨n, r1.int_inv, (kt.keep k1).ret q e1 Rep.int⟩

/-! ### arguments, displays -/
theorem AW.nil {QA : List D → Nat → Prop} (q : QA [] c) : AW G l tNil ρ c QA := fun S σ H e QV kt => kt [] c [] H q e KeepE.refl Reps.nil
theorem AW.cons {QA : List D → Nat → Prop} (h : EW G l te ρ c (fun x c1 => AW G l tr ρ c1 (fun xs c2 => QA (x :: xs) c2))) : AW G l (tCons te tr) ρ c QA := fun S σ H e QV kt =>
  h S σ H e _ fun x c1 u H1 q1 e1 k1 r1 => q1 S σ H1 e1 _ fun xs c2 vs H2 q2 e2 k2 r2 => kt (x :: xs) c2 (u :: vs) H2 q2 e2 (k1.trans k2) (Reps.cons (Rep.mv (e1.mvE k2) _ _ r1) r2)
theorem EF.lst {QF : List D → Nat → Prop} (h : AW G l tr ρ c (fun ds c1 => ds.length ≤ sizeLine ∧ QF ds c1)) : EF G l (tLst tr) ρ c QF := fun S σ H e QV kt =>
  h S σ H e _ fun ds c1 vs H1 q1 e1 k1 r1 => ⟨by rw [r1.length]; exact q1.1, fun p hp => by
    obtain ⟨e', k', h', r'⟩ := new_cell e1 hp r1
    exact kt ds c1 p _ _ q1.2 e' (k1.trans k') (by
      cases z : H p with
      | none => rfl
      | some o =>
        by_cases nb : G.bx = some p
        · exact absurd hp (e1.bxH p nb)
        · rw [k1 p o z nb] at hp; cases hp) h' r'⟩
theorem EnvR.adH {S H σ} (e : EnvR G S H σ ρ c) : ∀ a, Ad ρ a → H a ≠ none := fun a ⟨i, s, h, ha⟩ z => by
  have q := e.sl i s h
  cases s with
  | no => simp [adr] at ha
  | val d => simp [adr] at ha
  | box => simp [adr] at ha
  | own p w =>
    obtain ⟨_, q⟩ := q
    cases w with
    | lst ds => obtain ⟨vs, q, _⟩ := q; simp [adr] at ha; subst ha; rw [z] at q; cases q
    | dic ks ds => obtain ⟨vs, q, _⟩ := q; simp [adr] at ha; subst ha; rw [z] at q; cases q
    | rows rs =>
      obtain ⟨q1, q2⟩ := q
      simp only [adr, List.mem_cons, List.mem_map] at ha
      rcases ha with ha | ⟨r, hr, ha⟩
      · subst ha; rw [z] at q1; cases q1
      · subst ha
        obtain ⟨vs, q3, _⟩ := q2 r hr
        rw [z] at q3; cases q3
theorem EnvR.sxH {S H σ} (e : EnvR G S H σ ρ c) : ∀ a, Sx S ρ l a → H a ≠ none := fun a h => by
  rcases h with h | ⟨_, h⟩
  · exact e.dom a h
  · exact e.adH a h
theorem EW.tup (h : AW G l tr ρ c (fun ds c1 => ds.length ≤ sizeLine ∧ Q (.tup ds) c1)) : EW G l (tTup tr) ρ c Q := fun S σ H e QV kt =>
  h S σ H e _ fun ds c1 vs H1 q1 e1 k1 r1 => ⟨by rw [r1.length]; exact q1.1, fun p hp => by
    refine kt (.tup ds) c1 _ _ q1.2 (e1.new hp) (k1.trans (KeepE.new hp)) (Rep.tup (.inl ⟨fun z => e1.sxH p z hp, .inl upd_same⟩) (Reps.mv (mv_upd hp) _ _ r1))⟩

/-! ### tests -/
theorem TW.test {QT : Bool → Nat → Prop} (h : EW G false te ρ c (fun d c' => ∃ b, d = .bl b ∧ QT b c')) : TW G (tTest te) ρ c QT := fun S σ H e QV kt => h S σ H e _ fun d c' v H' q e' ke r => by
  obtain ⟨b, rfl, q⟩ := q
  exact ⟨b, r.bl_inv, kt b c' H' q e' ke⟩
theorem TW.tB {QT : Bool → Nat → Prop} (h : EW G false te ρ c (fun d c' => ∃ b, d = .bl b ∧ QT b c')) : TW G (tB te) ρ c QT := fun S σ H e QV kt => h S σ H e _ fun d c' v H' q e' ke r => by
  obtain ⟨b, rfl, q⟩ := q
  exact ⟨b, r.bl_inv, kt b c' H' q e' ke⟩
theorem TW.and {QT : Bool → Nat → Prop} (h : TW G tt ρ c (fun b c1 => (b = true → TW G tu ρ c1 QT) ∧ (b = false → QT false c1))) : TW G (tAnd tt tu) ρ c QT := fun S σ H e QV kt => h S σ H e _ fun b c1 H1 q e1 k1 => by
  cases b with
  | true => exact (q.1 rfl) S σ H1 e1 QV fun b c' H' q e' ke => kt b c' H' q e' (k1.trans ke)
  | false => exact kt false c1 H1 (q.2 rfl) e1 k1
theorem TW.or {QT : Bool → Nat → Prop} (h : TW G tt ρ c (fun b c1 => (b = true → QT true c1) ∧ (b = false → TW G tu ρ c1 QT))) : TW G (tOr tt tu) ρ c QT := fun S σ H e QV kt => h S σ H e _ fun b c1 H1 q e1 k1 => by
  cases b with
  | true => exact kt true c1 H1 (q.1 rfl) e1 k1
  | false => exact (q.2 rfl) S σ H1 e1 QV fun b c' H' q e' ke => kt b c' H' q e' (k1.trans ke)
theorem TW.not {QT : Bool → Nat → Prop} (h : TW G tt ρ c (fun b c1 => QT (!b) c1)) : TW G (tNot tt) ρ c QT := fun S σ H e QV kt => h S σ H e _ fun b c1 H1 q e1 k1 => kt (!b) c1 H1 q e1 k1
theorem TW.yes {QT : Bool → Nat → Prop} (q : QT true c) : TW G tYes ρ c QT := fun S σ H e QV kt => kt true c H q e KeepE.refl
theorem EW.ite (h : TW G tt ρ c (fun b c1 => (b = true → EW G l ta ρ c1 Q) ∧ (b = false → EW G l tb ρ c1 Q))) : EW G l (tIf tt ta tb) ρ c Q := fun S σ H e QV kt => h S σ H e _ fun b c1 H1 q e1 k1 => by
  cases b with
  | true => exact (q.1 rfl) S σ H1 e1 QV (kt.keep k1)
  | false => exact (q.2 rfl) S σ H1 e1 QV (kt.keep k1)
theorem EW.andV (h : EW G l ta ρ c (fun d c1 => ∃ b, d = .bl b ∧ (b = true → EW G l tb ρ c1 Q) ∧ (b = false → Q (.bl false) c1))) : EW G l (tAndV ta tb) ρ c Q := fun S σ H e QV kt => h S σ H e _ fun d c1 v H1 q e1 k1 r => by
  obtain ⟨b, rfl, q1, q2⟩ := q
  refine ⟨b, r.bl_inv, ?_⟩
  cases b with
  | true => exact (q1 rfl) S σ H1 e1 QV (kt.keep k1)
  | false => exact (kt.keep k1).ret (q2 rfl) e1 Rep.bl
theorem EW.orV (h : EW G l ta ρ c (fun d c1 => ∃ b, d = .bl b ∧ (b = true → Q (.bl true) c1) ∧ (b = false → EW G l tb ρ c1 Q))) : EW G l (tOrV ta tb) ρ c Q := fun S σ H e QV kt => h S σ H e _ fun d c1 v H1 q e1 k1 r => by
  obtain ⟨b, rfl, q1, q2⟩ := q
  refine ⟨b, r.bl_inv, ?_⟩
  cases b with
  | true => exact (kt.keep k1).ret (q1 rfl) e1 Rep.bl
  | false => exact (q2 rfl) S σ H1 e1 QV (kt.keep k1)
theorem EW.notV (h : EW G l ta ρ c (fun d c1 => ∃ b, d = .bl b ∧ Q (.bl (!b)) c1)) : EW G l (tNotV ta) ρ c Q := fun S σ H e QV kt => h S σ H e _ fun d c1 v H1 q e1 k1 r => by
  obtain ⟨b, rfl, q1⟩ := q
  exact ⟨b, r.bl_inv, (kt.keep k1).ret q1 e1 Rep.bl⟩

/-! ### built-ins -/
def RCW (G : Ctx) (l : Bool) (r : List V → Hp → VK → Prop) (xs : List D) (ρ : Env) (c : Nat) (Q : D → Nat → Prop) : Prop :=
  ∀ S σ H, EnvR G S H σ ρ c → ∀ vs, Reps G.K (Sx S ρ l) H xs vs → ∀ QV : VK, Kt G l S σ ρ H Q QV → r vs H QV
def RCF (G : Ctx) (l : Bool) (r : List V → Hp → VK → Prop) (xs : List D) (ρ : Env) (c : Nat) (Q : List D → Nat → Prop) : Prop :=
  ∀ S σ H, EnvR G S H σ ρ c → ∀ vs, Reps G.K (Sx S ρ l) H xs vs → ∀ QV : VK, (∀ ds c' p vs H', Q ds c' → EnvR G (addS S p) H' σ ρ c' → KeepE G H H' → H p = none → H' p = some (.lst vs) → Reps G.K (Sx (addS S p) ρ l) H' ds vs → QV (.ref p) H') → r vs H QV
theorem EW.cb {r} (h : AW G l tr ρ c (fun xs c1 => RCW G l r xs ρ c1 Q)) : EW G l (tCB r tr) ρ c Q := fun S σ H e QV kt =>
  h S σ H e _ fun xs c1 vs H1 q1 e1 k1 r1 => q1 S σ H1 e1 vs r1 QV (kt.keep k1)
theorem none_back {S σ H H1 p} (e1 : EnvR G S H1 σ ρ c) (k1 : KeepE G H H1) (hp : H1 p = none) : H p = none := by
  cases z : H p with
  | none => rfl
  | some o =>
    by_cases nb : G.bx = some p
    · exact absurd hp (e1.bxH p nb)
    · rw [k1 p o z nb] at hp; cases hp
theorem EF.cb {r} {QF : List D → Nat → Prop} (h : AW G l tr ρ c (fun xs c1 => RCF G l r xs ρ c1 QF)) : EF G l (tCB r tr) ρ c QF := fun S σ H e QV kt =>
  h S σ H e _ fun xs c1 vs H1 q1 e1 k1 r1 => q1 S σ H1 e1 vs r1 QV fun ds c' p ws H' q e' ke hp hl rr => kt ds c' p ws H' q e' (k1.trans ke) (none_back e1 k1 hp) hl rr
theorem RCW.ofF {r} {xs : List D} (h : RCF G l r xs ρ c (fun ds c' => Q (.lst ds) c')) : RCW G l r xs ρ c Q := fun S σ H e vs rv QV kt => h S σ H e vs rv QV fun ds c' p vs H' q e' ke hp hl r => by
  have eO := e'.open_ e.bxS
  refine kt (.lst ds) c' _ H' q eO ke (Rep.lst (fun z => ?_) hl (Reps.mv (mv_sub fun a z => sx_add.mpr (.inl z)) _ _ r))
  rcases z with z | ⟨_, z⟩
  · exact e.dom p z hp
  · exact e'.out p z (.inr rfl)
end
end Q
namespace Q
open PySem PySem.Spec PyProof.Rows L2

section
variable {G : Ctx} {l : Bool} {ρ : Env} {c c1 : Nat} {te ta tb : TE} {tt tu : TT} {tr : TA} {ts t u : TS} {Q Q' : D → Nat → Prop} {d : D} {i j : Nat} {W : DW}
theorem Gd.ret {S H σ v} {D0 : Ends} (g : Gd G S ρ H W D0) (q : W.rt d c) (e : EnvR G S H σ ρ c) (r : Rep G.K (Sx S ρ true) H d v) : D0.rt v H := g.rt d c ρ σ v H q e Keep.refl r
theorem Gd.next {S H σ} {D0 : Ends} (g : Gd G S ρ H W D0) (q : W.nx ρ c) (e : EnvR G S H σ ρ c) : D0.nx σ H := g.nx ρ c σ H q e Keep.refl

theorem SW.seq (h : SW G t ρ c { W with nx := fun ρ1 c1 => SW G u ρ1 c1 W }) : SW G (tSeq t u) ρ c W := fun S σ H e D0 g =>
  h S σ H e { D0 with nx := u D0 } ⟨fun ρ' c' σ' H' q e' k => q S σ' H' e' D0 (g.keep k e'.bxH), g.rt, g.bk, g.ct⟩
theorem SW.next (q : W.nx ρ c) : SW G tNext ρ c W := fun S σ H e D0 g => g.next q e
theorem SW.brk (q : W.bk ρ c) : SW G tBreak ρ c W := fun S σ H e D0 g => g.bk ρ c σ H q e Keep.refl
theorem SW.cont (q : W.ct ρ c) : SW G tCont ρ c W := fun S σ H e D0 g => g.ct ρ c σ H q e Keep.refl
theorem SW.ret (h : EW G true te ρ c W.rt) : SW G (tRet te) ρ c W := fun S σ H e D0 g => h S σ H e _ fun d c' v H' q e' k r => g.rt d c' ρ σ v H' q e' k.keep r
theorem SW.retN (q : W.rt .non c) : SW G tRetN ρ c W := fun S σ H e D0 g => g.ret q e Rep.non
theorem SW.ite (h : TW G tt ρ c (fun b c1 => (b = true → SW G t ρ c1 W) ∧ (b = false → SW G u ρ c1 W))) : SW G (tIfS tt t u) ρ c W := fun S σ H e D0 g => h S σ H e _ fun b c1 H1 q e1 k1 => by
  cases b with
  | true => exact (q.1 rfl) S σ H1 e1 D0 (g.keep k1.keep e1.bxH)
  | false => exact (q.2 rfl) S σ H1 e1 D0 (g.keep k1.keep e1.bxH)
theorem SW.drop (h : EW G false te ρ c (fun _ c1 => W.nx ρ c1)) : SW G (tDrop te) ρ c W := fun S σ H e D0 g => h S σ H e _ fun d c' v H' q e' k r => g.nx ρ c' σ H' q e' k.keep
theorem keepE_set {S H H' σ} (e : EnvR G S H σ ρ c) {s : Slot} (hs : adr s = []) (k : KeepE G H H') : Keep G ρ (ρ.set i s) H H' := ⟨fun a o h _ n => k a o h n, fun a h => .inl (by
  obtain ⟨j, t, h, ha⟩ := h
  rcases set_inv h with ⟨_, rfl, _⟩ | ⟨_, h⟩
  · rw [hs] at ha; cases ha
  · exact ⟨j, t, h, ha⟩)⟩
theorem keepE_own {H H'} {p w} (hs : adr (.own p w) = [p]) (hp : H p = none) (k : KeepE G H H') : Keep G ρ (ρ.set i (.own p w)) H H' := ⟨fun a o h _ n => k a o h n, fun a h => by
  obtain ⟨j, t, h, ha⟩ := h
  rcases set_inv h with ⟨_, rfl, _⟩ | ⟨_, h⟩
  · rw [hs] at ha
    have : a = p := by simpa using ha
    rw [this]; exact .inr hp
  · exact .inl ⟨j, t, h, ha⟩⟩
theorem SW.asg (h : EW G true te ρ c (fun d c1 => W.nx (ρ.set i (.val d)) c1)) : SW G (tAsg te (gName i)) ρ c W := fun S σ H e D0 g => h S σ H e _ fun d c' v H' q e' k r =>
  g.nx _ c' _ H' q (e'.setN (s := .val d) rfl ⟨v, rfl, r⟩) (keepE_set e rfl k)
theorem own_lst {S H σ p vs ds} (e : EnvR G (addS S p) H σ ρ c) (hp : H p = some (.lst vs)) (r : Reps G.K (Sx (addS S p) ρ true) H ds vs) : OwnR G.K (Sx (addS S p) ρ true) H p (.lst ds) := ⟨vs, hp, r⟩
theorem SW.asgF (h : EF G true te ρ c (fun ds c1 => ∀ p, W.nx (ρ.set i (.own p (.lst ds))) c1)) : SW G (tAsg te (gName i)) ρ c W := fun S σ H e D0 g => h S σ H e _ fun ds c' p vs H' q e' k hp hl r =>
  g.nx _ c' _ H' (q p) (e'.setOwn e.bxS (fun z => e.dom p z hp) rfl ⟨vs, hl, r⟩) (keepE_own rfl hp k)
/-- an owned list is owned no more: from now on it is data -/
theorem SW.freeze {p ds} (i : Nat) (hi : ρ[i]? = some (.own p (.lst ds))) (h : SW G t (ρ.set i (.val (.lst ds))) c W) : SW G t ρ c W := fun S σ H e D0 g => by
  obtain ⟨_, vs, h1, h2⟩ := e.sl i _ hi
  have hA : ∀ a, Ad (ρ.set i (.val (.lst ds))) a → Ad ρ a := fun a ⟨j, t, h, ha⟩ => by
    rcases set_inv h with ⟨_, rfl, _⟩ | ⟨_, h⟩
    · cases ha
    · exact ⟨j, t, h, ha⟩
  have hn : ¬ Ad (ρ.set i (.val (.lst ds))) p := fun ⟨j, t, h, ha⟩ => by
    rcases set_inv h with ⟨_, rfl, _⟩ | ⟨hn, h⟩
    · cases ha
    · exact hn (e.sep i j _ t p hi h (by simp [adr]) ha)
  have m : Mv (Sx S ρ true) H (Sx S (ρ.set i (.val (.lst ds))) true) H := mv_sub fun a z => by
    rcases z with z | ⟨z, q⟩
    · exact .inl z
    · exact .inr ⟨z, hA a q⟩
  have rp : Rep G.K (Sx S (ρ.set i (.val (.lst ds))) true) H (.lst ds) (.ref p) := Rep.lst (fun z => by
    rcases z with z | ⟨_, z⟩
    · exact e.out p ⟨i, _, hi, by simp [adr]⟩ z
    · exact hn z) h1 (Reps.mv m _ _ h2)
  have e2 : EnvR G S H σ (ρ.set i (.val (.lst ds))) c := by
    refine ⟨by rw [List.length_set]; exact e.len, fun j t h => ?_, fun j t h => ?_, fun j k t u a hj hk ha hb => ?_, fun a ha => e.out a (hA a ha), e.dom, e.box⟩
    · rcases set_inv h with ⟨rfl, rfl, hl⟩ | ⟨hn, h⟩
      · obtain ⟨hv, _⟩ := e.sl i _ hi
        exact ⟨_, hv, rp⟩
      · have q := e.sl j t h
        cases t with
        | no => trivial
        | val d => obtain ⟨v, h1, h2⟩ := q; exact ⟨v, h1, Rep.mv m _ _ h2⟩
        | own p' w => obtain ⟨h1, h2⟩ := q; exact ⟨h1, h2.mv m fun a ha o ho => ho⟩
        | box => exact q
    · rcases set_inv h with ⟨_, rfl, _⟩ | ⟨_, h⟩
      · exact List.nodup_nil
      · exact e.nd j t h
    · rcases set_inv hj with ⟨_, rfl, _⟩ | ⟨_, hj⟩
      · cases ha
      · rcases set_inv hk with ⟨_, rfl, _⟩ | ⟨_, hk⟩
        · cases hb
        · exact e.sep j k t u a hj hk ha hb
  exact h S σ H e2 D0 (g.keep ⟨fun _ _ h _ _ => h, fun a h => .inl (hA a h)⟩ e.bxH)
/-- a name let go -/
theorem SW.forget (i : Nat) (h : SW G t (ρ.set i .no) c W) : SW G t ρ c W := fun S σ H e D0 g => by
  have hA : ∀ a, Ad (ρ.set i .no) a → Ad ρ a := fun a ⟨j, t, h, ha⟩ => by
    rcases set_inv h with ⟨_, rfl, _⟩ | ⟨_, h⟩
    · cases ha
    · exact ⟨j, t, h, ha⟩
  have m : Mv (Sx S ρ true) H (Sx S (ρ.set i .no) true) H := mv_sub fun a z => by
    rcases z with z | ⟨z, q⟩
    · exact .inl z
    · exact .inr ⟨z, hA a q⟩
  have e2 : EnvR G S H σ (ρ.set i .no) c := by
    refine ⟨by rw [List.length_set]; exact e.len, fun j t h => ?_, fun j t h => ?_, fun j k t u a hj hk ha hb => ?_, fun a ha => e.out a (hA a ha), e.dom, e.box⟩
    · rcases set_inv h with ⟨rfl, rfl, hl⟩ | ⟨hn, h⟩
      · trivial
      · have q := e.sl j t h
        cases t with
        | no => trivial
        | val d => obtain ⟨v, h1, h2⟩ := q; exact ⟨v, h1, Rep.mv m _ _ h2⟩
        | own p' w => obtain ⟨h1, h2⟩ := q; exact ⟨h1, h2.mv m fun a ha o ho => ho⟩
        | box => exact q
    · rcases set_inv h with ⟨_, rfl, _⟩ | ⟨_, h⟩
      · exact List.nodup_nil
      · exact e.nd j t h
    · rcases set_inv hj with ⟨_, rfl, _⟩ | ⟨_, hj⟩
      · cases ha
      · rcases set_inv hk with ⟨_, rfl, _⟩ | ⟨_, hk⟩
        · cases hb
        · exact e.sep j k t u a hj hk ha hb
  exact h S σ H e2 D0 (g.keep ⟨fun _ _ h _ _ => h, fun a h => .inl (hA a h)⟩ e.bxH)
/-- what is owned changes in its own cell -/
theorem EnvR.write {S H σ p w w' o} (e : EnvR G S H σ ρ c) (hi : ρ[i]? = some (.own p w)) (h1 : adr (.own p w) = [p]) (h2 : adr (.own p w') = [p]) (hw : OwnR G.K (Sx S ρ true) (upd H p o) p w') (ho : ∀ a u, H a = some u → a ≠ p → (upd H p o) a = some u := fun a u h n => by rw [upd_ne n]; exact h) :
    EnvR G S (upd H p o) σ (ρ.set i (.own p w')) c ∧ Keep G ρ (ρ.set i (.own p w')) H (upd H p o) := by
  have hA : ∀ a, Ad (ρ.set i (.own p w')) a ↔ Ad ρ a := fun a => by
    constructor
    · rintro ⟨j, t, h, ha⟩
      rcases set_inv h with ⟨rfl, rfl, _⟩ | ⟨_, h⟩
      · exact ⟨i, _, hi, by rw [h1]; rw [h2] at ha; exact ha⟩
      · exact ⟨j, t, h, ha⟩
    · rintro ⟨j, t, h, ha⟩
      by_cases ij : i = j
      · subst ij
        rw [hi] at h; cases h
        refine ⟨i, .own p w', List.getElem?_set_self (List.getElem?_eq_some_iff.mp hi).1, ?_⟩
        rw [h2]; rw [h1] at ha; exact ha
      · exact ⟨j, t, by rw [List.getElem?_set_ne ij]; exact h, ha⟩
  have hp : Ad ρ p := ⟨i, _, hi, by rw [h1]; simp⟩
  have eS : Sx S (ρ.set i (.own p w')) true = Sx S ρ true := by
    funext a; unfold Sx; rw [propext (hA a)]
  have m : Mv (Sx S ρ true) H (Sx S ρ true) (upd H p o) := fun a u h n => ⟨ho a u h fun z => n (.inr ⟨rfl, z ▸ hp⟩), n⟩
  refine ⟨⟨by rw [List.length_set]; exact e.len, fun j t h => ?_, fun j t h => ?_, fun j k t u a hj hk ha hb => ?_, fun a ha => e.out a ((hA a).mp ha), fun a h z => ?_, fun b hb => ?_⟩, ⟨fun a u h n _ => ho a u h fun z => n (z ▸ hp), fun a h => .inl ((hA a).mp h)⟩⟩
  · rw [eS]
    rcases set_inv h with ⟨rfl, rfl, hl⟩ | ⟨hn, h⟩
    · exact ⟨(e.sl i _ hi).1, hw⟩
    · have q := e.sl j t h
      cases t with
      | no => trivial
      | val d => obtain ⟨v, h1, h2⟩ := q; exact ⟨v, h1, Rep.mv m _ _ h2⟩
      | own p' w2 =>
        obtain ⟨q1, q2⟩ := q
        exact ⟨q1, q2.mv m fun a ha u hu => ho a u hu fun z => hn (e.sep i j _ _ p hi h (by rw [h1]; simp) (z ▸ ha))⟩
      | box => exact q
  · rcases set_inv h with ⟨_, rfl, _⟩ | ⟨_, h⟩
    · rw [h2]; exact List.nodup_cons.mpr ⟨by simp, List.nodup_nil⟩
    · exact e.nd j t h
  · have red : ∀ {j : Nat} {t : Slot} {a : Addr}, (ρ.set i (.own p w'))[j]? = some t → a ∈ adr t → ∃ t', ρ[j]? = some t' ∧ a ∈ adr t' := fun {j t a} h ha => by
      rcases set_inv h with ⟨rfl, rfl, _⟩ | ⟨_, h⟩
      · exact ⟨_, hi, by rw [h1]; rw [h2] at ha; exact ha⟩
      · exact ⟨t, h, ha⟩
    obtain ⟨t', q1, q2⟩ := red hj ha
    obtain ⟨u', q3, q4⟩ := red hk hb
    exact e.sep j k t' u' a q1 q3 q2 q4
  · by_cases q : a = p
    · rw [q, upd_same] at z; cases z
    · rw [upd_ne q] at z; exact e.dom a h z
  · obtain ⟨b1, x, y, b2, b3⟩ := e.box b hb
    exact ⟨b1, x, y, ho b _ b2 fun z => e.out p hp (z ▸ b1), b3⟩
theorem own_write {S H σ p ds es} {ws : List V} (e : EnvR G S H σ ρ c) (hi : ρ[i]? = some (.own p (.lst ds))) (r : Reps G.K (Sx S ρ true) H es ws) :
    EnvR G S (upd H p (.lst ws)) σ (ρ.set i (.own p (.lst es))) c ∧ Keep G ρ (ρ.set i (.own p (.lst es))) H (upd H p (.lst ws)) := by
  have hp : Ad ρ p := ⟨i, _, hi, by simp [adr]⟩
  have m : Mv (Sx S ρ true) H (Sx S ρ true) (upd H p (.lst ws)) := fun a u h n => ⟨by rw [upd_ne fun z => n (.inr ⟨rfl, by rw [z]; exact hp⟩)]; exact h, n⟩
  exact e.write (w' := .lst es) (o := .lst ws) hi rfl rfl ⟨_, upd_same, Reps.mv m _ _ r⟩
/-- xs.append(e), xs owned -/
theorem SW.app (h : ∃ p ds, ρ[i]? = some (.own p (.lst ds)) ∧ ds.length < sizeLine ∧ EW G true te ρ c (fun d c1 => W.nx (ρ.set i (.own p (.lst (ds ++ [d])))) c1)) : SW G (tDrop (tBM G.K "list" rAppend (tVar i) (tCons te tNil))) ρ c W := fun S σ H e D0 g => by
  obtain ⟨p, ds, hi, hz, h⟩ := h
  obtain ⟨_, vs0, h0, _⟩ := e.sl i _ hi
  refine ⟨_, slot_ref e hi, .inl ⟨rfl, _, .of h0⟩, h S σ H e _ fun d c' v H' q e' k r => ?_⟩
  obtain ⟨_, vs, h1, h2⟩ := e'.sl i _ hi
  refine ⟨p, vs, v, rfl, rfl, h1, by rw [h2.length]; exact hz, ?_⟩
  obtain ⟨e2, k2⟩ := own_write (ws := vs ++ [v]) e' hi (h2.append (Reps.cons r Reps.nil))
  exact g.nx _ c' σ _ q e2 (k.keep.trans k2 e'.bxH)
/-- xs[k] = e, xs owned -/
theorem SW.store (h : ∃ p ds, ρ[i]? = some (.own p (.lst ds)) ∧ EW G true te ρ c (fun d c1 => EW G true tb ρ c1 (fun y c2 => ∃ n k, y = .int n ∧ ixN ds.length n = some k ∧ W.nx (ρ.set i (.own p (.lst (ds.set k d)))) c2))) : SW G (tAsg te (gSub (tVar i) tb rSetL)) ρ c W := fun S σ H e D0 g => by
  obtain ⟨p, ds, hi, h⟩ := h
  refine h S σ H e _ fun d c1 v H1 q1 e1 k1 r1 => ⟨_, slot_ref e1 hi, q1 S σ H1 e1 _ fun y c2 w H2 q2 e2 k2 r2 => ?_⟩
  obtain ⟨n, k, rfl, hk, q⟩ := q2
  obtain ⟨_, vs, h1, h2⟩ := e2.sl i _ hi
  refine ⟨p, vs, n, k, rfl, r2.int_inv, h1, by rw [h2.length]; exact hk, ?_⟩
  obtain ⟨e3, k3⟩ := own_write (ws := vs.set k v) e2 hi (h2.set k (Rep.mv (e1.mvE k2) _ _ r1))
  exact g.nx _ c2 σ _ q e3 ((k1.trans k2).keep.trans k3 e2.bxH)
def rGetIx (K : Frag) : V → V → Hp → VK → Prop := rIxL K
/-- xs[k] op= e, xs owned, ints -/
theorem SW.augS {f : Int → Int → Int} (h : ∃ p ds, ρ[i]? = some (.own p (.lst ds)) ∧ EW G true tb ρ c (fun y c1 => ∃ n k a, y = .int n ∧ ixN ds.length n = some k ∧ ds[k]? = some (.int a) ∧ EW G true te ρ c1 (fun d c2 => ∃ b, d = .int b ∧ W.nx (ρ.set i (.own p (.lst (ds.set k (.int (f a b)))))) c2))) :
    SW G (tAugS (tVar i) tb te (rIxL G.K) (ipI f) rSetL) ρ c W := fun S σ H e D0 g => by
  obtain ⟨p, ds, hi, h⟩ := h
  refine ⟨_, slot_ref e hi, h S σ H e _ fun y c1 w H1 q1 e1 k1 r1 => ?_⟩
  obtain ⟨n, k, a, rfl, hk, ha, q1⟩ := q1
  obtain ⟨_, vs, h1, h2⟩ := e1.sl i _ hi
  obtain ⟨v, hv, rv⟩ := h2.get ha
  refine ⟨p, vs, n, v, rfl, r1.int_inv, .of h1, ?_, q1 S σ H1 e1 _ fun d c2 u H2 q2 e2 k2 r2 => ?_⟩
  · unfold atI; rw [h2.length, hk]; exact hv
  · obtain ⟨b, rfl, q⟩ := q2
    obtain ⟨_, vs2, h3, h4⟩ := e2.sl i _ hi
    refine ⟨a, b, rv.int_inv, r2.int_inv, p, vs2, n, k, rfl, r1.int_inv, h3, by rw [h4.length]; exact hk, ?_⟩
    obtain ⟨e3, k3⟩ := own_write (ws := vs2.set k (.int (f a b))) e2 hi (h4.set k (Rep.int (i := f a b)))
    exact g.nx _ c2 σ _ q e3 ((k1.trans k2).keep.trans k3 e2.bxH)
/-- x op= e, ints -/
theorem SW.aug {f : Int → Int → Int} (h : ∃ a, ρ[i]? = some (.val (.int a)) ∧ EW G true te ρ c (fun d c1 => ∃ b, d = .int b ∧ W.nx (ρ.set i (.val (.int (f a b)))) c1)) : SW G (tAug i te (ipI f)) ρ c W := fun S σ H e D0 g => by
  obtain ⟨a, hi, h⟩ := h
  obtain ⟨v, hv, r⟩ := e.sl i _ hi
  have hl : i < σ.length := by rw [e.len]; exact (List.getElem?_eq_some_iff.mp hi).1
  have hs : σ[i]? = some (some v) := by
    rw [List.getD_eq_getElem?_getD, List.getElem?_eq_getElem hl] at hv
    rw [List.getElem?_eq_getElem hl]
    exact congrArg some (by simpa using hv)
  refine ⟨v, hs, h S σ H e _ fun d c1 u H1 q1 e1 k1 r1 => ?_⟩
  obtain ⟨b, rfl, q⟩ := q1
  refine ⟨a, b, r.int_inv, r1.int_inv, g.nx _ c1 _ H1 q (e1.setN (s := .val (.int (f a b))) rfl ⟨_, rfl, Rep.int⟩) (keepE_set e rfl k1)⟩
/-- a, b = e1, e2 -/
theorem SW.parVV (h : EW G true ta ρ c (fun d c1 => EW G true tb ρ c1 (fun d' c2 => W.nx ((ρ.set i (.val d)).set j (.val d')) c2))) : SW G (tPar i j (tCons ta (tCons tb tNil))) ρ c W := fun S σ H e D0 g =>
  h S σ H e _ fun d c1 v H1 q1 e1 k1 r1 => q1 S σ H1 e1 _ fun d' c2 v' H2 q2 e2 k2 r2 => ⟨v, v', rfl, by
    have e3 := e2.setN (i := i) (s := .val d) rfl ⟨v, rfl, Rep.mv (e1.mvE k2) _ _ r1⟩
    have r3 : Rep G.K (Sx S (ρ.set i (.val d)) true) H2 d' v' := Rep.mv (e2.mv (keep_setN (s := .val d) rfl)) _ _ r2
    exact g.nx _ c2 _ H2 q2 (e3.setN (s := .val d') rfl ⟨v', rfl, r3⟩) (((k1.trans k2).keep.trans (keep_setN (s := .val d) rfl) e2.bxH).trans (keep_setN (s := .val d') rfl) e2.bxH)⟩
theorem SW.parVF (h : EW G true ta ρ c (fun d c1 => EF G true tb ρ c1 (fun ds c2 => ∀ p, W.nx ((ρ.set i (.val d)).set j (.own p (.lst ds))) c2))) : SW G (tPar i j (tCons ta (tCons tb tNil))) ρ c W := fun S σ H e D0 g =>
  h S σ H e _ fun d c1 v H1 q1 e1 k1 r1 => q1 S σ H1 e1 _ fun ds c2 p vs H2 q2 e2 k2 hp hl r2 => ⟨v, _, rfl, by
    have m12 : Mv (Sx S ρ true) H1 (Sx (addS S p) ρ true) H2 := fun a u h n => ⟨k2 a u h (e1.nb (sx_of n)), fun z => (sx_add.mp z).elim n (ne_of_none h hp)⟩
    have e3 := e2.setN (i := i) (s := .val d) rfl ⟨v, rfl, Rep.mv m12 _ _ r1⟩
    have m3 : Mv (Sx (addS S p) ρ true) H2 (Sx (addS S p) (ρ.set i (.val d)) true) H2 := e2.mv (keep_setN (s := .val d) rfl)
    have np : ¬ S p := fun z => e1.dom p z hp
    have e4 := e3.setOwn (i := j) (w := .lst ds) e.bxS np rfl ⟨vs, hl, Reps.mv m3 _ _ r2⟩
    have hp0 : H p = none := none_back e1 k1 hp
    refine g.nx _ c2 _ H2 (q2 p) e4 ⟨fun a o h _ n => k2 a o (k1 a o h n) n, fun a h => ?_⟩
    obtain ⟨j', t, h, ha⟩ := h
    rcases set_inv h with ⟨_, rfl, _⟩ | ⟨_, h⟩
    · simp [adr] at ha; rw [ha]; exact .inr hp0
    · rcases set_inv h with ⟨_, rfl, _⟩ | ⟨_, h⟩
      · cases ha
      · exact .inl ⟨j', t, h, ha⟩⟩
theorem SW.parFV (h : EF G true ta ρ c (fun ds c1 => EW G true tb ρ c1 (fun d c2 => ∀ p, W.nx ((ρ.set i (.own p (.lst ds))).set j (.val d)) c2))) : SW G (tPar i j (tCons ta (tCons tb tNil))) ρ c W := fun S σ H e D0 g =>
  h S σ H e _ fun ds c1 p vs H1 q1 e1 k1 hp hl r1 => by
    refine q1 (addS S p) σ H1 e1 _ fun d c2 v H2 q2 e2 k2 r2 => ⟨_, v, rfl, ?_⟩
    have np : ¬ S p := fun z => e.dom p z hp
    have hl2 : H2 p = some (.lst vs) := k2 p _ hl (fun z => np (e.bxS p z))
    have e3 := e2.setOwn (i := i) (w := .lst ds) e.bxS np rfl ⟨vs, hl2, Reps.mv (e1.mvE k2) _ _ r1⟩
    have m4 : Mv (Sx (addS S p) ρ true) H2 (Sx S (ρ.set i (.own p (.lst ds))) true) H2 := mv_sub fun a z => by
      rcases z with z | ⟨z, k, t, h, ha⟩
      · exact .inl (.inl z)
      · rcases set_inv h with ⟨_, rfl, _⟩ | ⟨hn, h⟩
        · simp [adr] at ha; rw [ha]; exact .inl (.inr rfl)
        · exact .inr ⟨z, k, t, h, ha⟩
    have e4 := e3.setN (i := j) (s := .val d) rfl ⟨v, rfl, Rep.mv m4 _ _ r2⟩
    refine g.nx _ c2 _ H2 (q2 p) e4 ⟨fun a o h _ n => k2 a o (k1 a o h n) n, fun a h => ?_⟩
    obtain ⟨j', t, h, ha⟩ := h
    rcases set_inv h with ⟨_, rfl, _⟩ | ⟨_, h⟩
    · cases ha
    · rcases set_inv h with ⟨_, rfl, _⟩ | ⟨_, h⟩
      · simp [adr] at ha; rw [ha]; exact .inr hp
      · exact .inl ⟨j', t, h, ha⟩
end
end Q
namespace Q
open PySem PySem.Spec PyProof.Rows L2

/-! ### what is walked -/
def Rl (cm : Bool) (G : Ctx) (X : AS) (H1 : Hp) : AS → Hp → Prop := fun S' H' => (cm = true → KeepE G H1 H') ∧ Mv X H1 S' H' ∧ ∀ a, S' a → H' a ≠ none
structure ItR (K : Frag) (R : AS → Hp → Prop) (ds : List D) (J : It) : Prop where
  go : ∀ i S' H', i < ds.length → R S' H' → J.go i H'
  stop : ∀ S' H', R S' H' → J.stop ds.length H'
  yld : ∀ i d S' H' x H'', ds[i]? = some d → R S' H' → J.yld i H' x H'' → (∀ a o, H' a = some o → H'' a = some o) ∧ Rep K S' H'' d x
def IW (cm : Bool) (G : Ctx) (wi : TI) (ρ : Env) (c : Nat) (Q : List D → Nat → Prop) : Prop :=
  ∀ S σ H, EnvR G S H σ ρ c → ∀ R : It → Hp → Prop, (∀ ds c' J H', Q ds c' → EnvR G S H' σ ρ c' → KeepE G H H' → ItR G.K (Rl cm G (Sx S ρ true) H') ds J → R J H') → wi σ H R
def enumD (ds : List D) : List D := ds.zipIdx.map fun p => .tup [.int (p.2 : Nat), p.1]
def zipD (as bs : List D) : List D := List.zipWith (fun a b => .tup [a, b]) as bs
theorem enumD_get {ds : List D} {i : Nat} {d : D} (h : (enumD ds)[i]? = some d) : ∃ e, ds[i]? = some e ∧ d = .tup [.int (i : Nat), e] := by
  unfold enumD at h
  rw [List.getElem?_map, List.getElem?_zipIdx] at h
  cases q : ds[i]? with
  | none => rw [q] at h; simp at h
  | some e => rw [q] at h; simp at h; exact ⟨e, rfl, h.symm⟩
theorem enumD_length {ds : List D} : (enumD ds).length = ds.length := by unfold enumD; rw [List.length_map, List.length_zipIdx]
theorem zipD_get {as bs : List D} {i : Nat} {d : D} (h : (zipD as bs)[i]? = some d) : ∃ a b, as[i]? = some a ∧ bs[i]? = some b ∧ d = .tup [a, b] := by
  unfold zipD at h
  rw [List.getElem?_zipWith] at h
  cases qa : as[i]? with
  | none => rw [qa] at h; simp at h
  | some a =>
    cases qb : bs[i]? with
    | none => rw [qa, qb] at h; simp at h
    | some b => rw [qa, qb] at h; simp at h; exact ⟨a, b, rfl, rfl, h.symm⟩
theorem zipD_length {as bs : List D} : (zipD as bs).length = min as.length bs.length := by unfold zipD; rw [List.length_zipWith]
def rngD (lo : Int) (n : Nat) : List D := (List.range n).map fun (i : Nat) => D.int (lo + (i : Int))
theorem rngD_get {lo : Int} {n i : Nat} {d : D} (h : (rngD lo n)[i]? = some d) : i < n ∧ d = .int (lo + i) := by
  unfold rngD at h
  rw [List.getElem?_map] at h
  by_cases hi : i < n
  · rw [List.getElem?_range hi] at h; simp at h; exact ⟨hi, h.symm⟩
  · rw [List.getElem?_eq_none (by simpa using hi)] at h; simp at h
theorem rngD_length {lo : Int} {n : Nat} : (rngD lo n).length = n := by unfold rngD; rw [List.length_map, List.length_range]

section
variable {cm : Bool} {G : Ctx} {l : Bool} {ρ : Env} {c c1 : Nat} {te ta tb : TE} {tt tu : TT} {tr : TA} {Q Q' : D → Nat → Prop} {QF : List D → Nat → Prop} {d : D} {i j : Nat} {W : DW}
theorem itr_list {K : Frag} {R : AS → Hp → Prop} {ds : List D} {a : Addr} (h : ∀ S' H', R S' H' → ∃ xs, SqL K H' a xs ∧ Reps K S' H' ds xs) : ItR K R ds (Itl K a) where
  go := fun i S' H' hi r => by
    obtain ⟨xs, h1, h2⟩ := h S' H' r
    obtain ⟨v, hv, _⟩ := h2.get (List.getElem?_eq_getElem hi)
    exact ⟨xs, v, h1, hv⟩
  stop := fun S' H' r => by
    obtain ⟨xs, h1, h2⟩ := h S' H' r
    exact ⟨xs, h1, Nat.le_of_eq h2.length⟩
  yld := fun i d S' H' x H'' hd r y => by
    obtain ⟨xs, h1, h2⟩ := h S' H' r
    obtain ⟨rfl, y⟩ := y
    obtain ⟨v, hv, rv⟩ := h2.get hd
    have := (y xs h1).symm.trans hv
    cases this
    exact ⟨fun _ _ h => h, rv⟩
theorem itr_tup {K : Frag} {R : AS → Hp → Prop} {ds : List D} {a : Addr} (h : ∀ S' H', R S' H' → ∃ xs, SqT K H' a xs ∧ Reps K S' H' ds xs) : ItR K R ds (Itt K a) where
  go := fun i S' H' hi r => by
    obtain ⟨xs, h1, h2⟩ := h S' H' r
    obtain ⟨v, hv, _⟩ := h2.get (List.getElem?_eq_getElem hi)
    exact ⟨xs, v, h1, hv⟩
  stop := fun S' H' r => by
    obtain ⟨xs, h1, h2⟩ := h S' H' r
    exact ⟨xs, h1, Nat.le_of_eq h2.length⟩
  yld := fun i d S' H' x H'' hd r y => by
    obtain ⟨xs, h1, h2⟩ := h S' H' r
    obtain ⟨rfl, y⟩ := y
    obtain ⟨v, hv, rv⟩ := h2.get hd
    have := (y xs h1).symm.trans hv
    cases this
    exact ⟨fun _ _ h => h, rv⟩
theorem itr_enum {K : Frag} {R : AS → Hp → Prop} {ds : List D} {a : Addr} (hdom : ∀ S' H', R S' H' → ∀ a, S' a → H' a ≠ none) (h : ∀ S' H', R S' H' → ∃ xs, SqL K H' a xs ∧ Reps K S' H' ds xs) : ItR K R (enumD ds) (Ite K a) where
  go := fun i S' H' hi r => by
    obtain ⟨xs, h1, h2⟩ := h S' H' r
    rw [enumD_length] at hi
    obtain ⟨v, hv, _⟩ := h2.get (List.getElem?_eq_getElem hi)
    exact ⟨xs, v, h1, hv⟩
  stop := fun S' H' r => by
    obtain ⟨xs, h1, h2⟩ := h S' H' r
    exact ⟨xs, h1, by rw [enumD_length]; exact Nat.le_of_eq h2.length⟩
  yld := fun i d S' H' x H'' hd r y => by
    obtain ⟨xs, h1, h2⟩ := h S' H' r
    obtain ⟨T, x1, rfl, nT, rfl, y⟩ := y
    obtain ⟨e, he, rfl⟩ := enumD_get hd
    obtain ⟨v, hv, rv⟩ := h2.get he
    have := (y xs h1).symm.trans hv
    cases this
    refine ⟨fun b o hb => by rw [upd_ne (ne_of_none hb nT)]; exact hb, Rep.tup (.inl ⟨fun z => hdom S' H' r T z nT, .inl upd_same⟩) (Reps.cons Rep.int (Reps.cons (Rep.mv (mv_upd nT) _ _ rv) Reps.nil))⟩
theorem itr_zip {K : Frag} {R : AS → Hp → Prop} {as bs : List D} {a b : Addr} (hdom : ∀ S' H', R S' H' → ∀ a, S' a → H' a ≠ none) (h : ∀ S' H', R S' H' → ∃ xs, SqL K H' a xs ∧ Reps K S' H' as xs) (h' : ∀ S' H', R S' H' → ∃ xs, SqL K H' b xs ∧ Reps K S' H' bs xs) : ItR K R (zipD as bs) (Itz K a b) where
  go := fun i S' H' hi r => by
    obtain ⟨xs, h1, h2⟩ := h S' H' r
    obtain ⟨ys, h3, h4⟩ := h' S' H' r
    rw [zipD_length] at hi
    obtain ⟨v, hv, _⟩ := h2.get (List.getElem?_eq_getElem (show i < as.length by omega))
    obtain ⟨w, hw, _⟩ := h4.get (List.getElem?_eq_getElem (show i < bs.length by omega))
    exact ⟨xs, ys, v, w, h1, h3, hv, hw⟩
  stop := fun S' H' r => by
    obtain ⟨xs, h1, h2⟩ := h S' H' r
    obtain ⟨ys, h3, h4⟩ := h' S' H' r
    refine ⟨xs, ys, h1, h3, ?_⟩
    rw [zipD_length, h2.length, h4.length]
    omega
  yld := fun i d S' H' x H'' hd r y => by
    obtain ⟨xs, h1, h2⟩ := h S' H' r
    obtain ⟨ys, h3, h4⟩ := h' S' H' r
    obtain ⟨T, x1, x2, rfl, nT, rfl, y1, y2⟩ := y
    obtain ⟨e, f, he, hf, rfl⟩ := zipD_get hd
    obtain ⟨v, hv, rv⟩ := h2.get he
    obtain ⟨w, hw, rw⟩ := h4.get hf
    have := (y1 xs h1).symm.trans hv
    cases this
    have := (y2 ys h3).symm.trans hw
    cases this
    refine ⟨fun b o hb => by rw [upd_ne (ne_of_none hb nT)]; exact hb, Rep.tup (.inl ⟨fun z => hdom S' H' r T z nT, .inl upd_same⟩) (Reps.cons (Rep.mv (mv_upd nT) _ _ rv) (Reps.cons (Rep.mv (mv_upd nT) _ _ rw) Reps.nil))⟩
theorem itr_rng {K : Frag} {R : AS → Hp → Prop} {lo : Int} {n : Nat} : ItR K R (rngD lo n) (Itr lo n) where
  go := fun i S' H' hi r => by rw [rngD_length] at hi; exact hi
  stop := fun S' H' r => Nat.le_of_eq rngD_length.symm
  yld := fun i d S' H' x H'' hd r y => by
    obtain ⟨rfl, rfl⟩ := y
    obtain ⟨_, rfl⟩ := rngD_get hd
    exact ⟨fun _ _ h => h, Rep.int⟩
theorem rl_lst {K : Frag} {X : AS} {H1 : Hp} {ds : List D} {a : Addr} {vs : List V} (n : ¬ X a) (h : H1 a = some (.lst vs)) (r : Reps K X H1 ds vs) : ∀ S' H', Rl cm G X H1 S' H' → ∃ xs, SqL K H' a xs ∧ Reps K S' H' ds xs := fun S' H' q =>
  ⟨vs, .of (q.2.1 a _ h n).1, Reps.mv q.2.1 _ _ r⟩
theorem IW.list {QI : List D → Nat → Prop} (h : EW G true te ρ c (fun d c1 => ∃ ds, d = .lst ds ∧ QI ds c1)) : IW cm G (iList G.K te) ρ c QI := fun S σ H e R k => h S σ H e _ fun d c1 v H1 q e1 k1 r => by
  obtain ⟨ds, rfl, q⟩ := q
  obtain ⟨a, vs, rfl, n, ha, rr⟩ := r.lst_inv
  exact ⟨a, rfl, ⟨vs, .of ha⟩, k ds c1 _ H1 q e1 k1 (itr_list (rl_lst n ha rr))⟩
theorem IW.listOwn {QI : List D → Nat → Prop} (h : ∃ p ds, ρ[i]? = some (.own p (.lst ds)) ∧ QI ds c) : IW true G (iList G.K (tVar i)) ρ c QI := fun S σ H e R k => by
  obtain ⟨p, ds, hi, q⟩ := h
  obtain ⟨_, vs, h1, h2⟩ := e.sl i _ hi
  refine ⟨_, slot_ref e hi, p, rfl, ⟨vs, .of h1⟩, k ds c _ H q e KeepE.refl (itr_list fun S' H' r => ⟨vs, .of (r.1 rfl p _ h1 fun z => e.out p ⟨i, _, hi, by simp [adr]⟩ (e.bxS p z)), Reps.mv r.2.1 _ _ h2⟩)⟩
theorem IW.scr {QI : List D → Nat → Prop} (h : EW G true te ρ c (fun d c1 => ∃ ns, d = .scr ns ∧ QI (ns.map D.int) c1)) : IW cm G (iList G.K te) ρ c QI := fun S σ H e R k => h S σ H e _ fun d c1 v H1 q e1 k1 r => by
  obtain ⟨ns, rfl, q⟩ := q
  obtain ⟨a, rfl, ha⟩ := r.scr_inv
  exact ⟨a, rfl, ⟨_, ha.sq⟩, k _ c1 _ H1 q e1 k1 (itr_list fun S' H' r => ⟨_, (ha.mv r.2.1).sq, Reps.ints⟩)⟩
theorem IW.tup {QI : List D → Nat → Prop} (h : EW G true te ρ c (fun d c1 => ∃ ds, d = .tup ds ∧ QI ds c1)) : IW cm G (iTup G.K te) ρ c QI := fun S σ H e R k => h S σ H e _ fun d c1 v H1 q e1 k1 r => by
  obtain ⟨ds, rfl, q⟩ := q
  obtain ⟨a, vs, rfl, ha, rr⟩ := r.tup_inv
  exact ⟨a, rfl, ⟨vs, ha.sq⟩, k ds c1 _ H1 q e1 k1 (itr_tup fun S' H' r => ⟨vs, (ha.mv r.2.1).sq, Reps.mv r.2.1 _ _ rr⟩)⟩
theorem IW.rng1 {QI : List D → Nat → Prop} (h : AW G true tr ρ c (fun ds c1 => ∃ n : Int, ds = [.int n] ∧ -(2 ^ 62) ≤ n ∧ n < 2 ^ 62 ∧ QI (rngD 0 n.toNat) c1)) : IW cm G (iRng1 tr) ρ c QI := fun S σ H e R k => h S σ H e _ fun ds c1 vs H1 q e1 k1 r => by
  obtain ⟨n, rfl, h1, h2, q⟩ := q
  exact ⟨n, Reps.ints_inv (ns := [n]) r, h1, h2, k _ c1 _ H1 q e1 k1 itr_rng⟩
theorem IW.rng2 {QI : List D → Nat → Prop} (h : AW G true tr ρ c (fun ds c1 => ∃ m n : Int, ds = [.int m, .int n] ∧ (-(2 ^ 62) ≤ m ∧ m < 2 ^ 62 ∧ -(2 ^ 62) ≤ n ∧ n < 2 ^ 62) ∧ QI (rngD m (n - m).toNat) c1)) : IW cm G (iRng2 tr) ρ c QI := fun S σ H e R k => h S σ H e _ fun ds c1 vs H1 q e1 k1 r => by
  obtain ⟨m, n, rfl, h1, q⟩ := q
  exact ⟨m, n, Reps.ints_inv (ns := [m, n]) r, h1, k _ c1 _ H1 q e1 k1 itr_rng⟩
theorem rl_dom {X : AS} {H1 : Hp} : ∀ S' H', Rl cm G X H1 S' H' → ∀ a, S' a → H' a ≠ none := fun _ _ q => q.2.2
theorem IW.enum {QI : List D → Nat → Prop} (h : AW G true tr ρ c (fun xs c1 => ∃ ds, xs = [.lst ds] ∧ QI (enumD ds) c1)) : IW cm G (iEnum G.K tr) ρ c QI := fun S σ H e R k => h S σ H e _ fun xs c1 vs H1 q e1 k1 r => by
  obtain ⟨ds, rfl, q⟩ := q
  obtain ⟨v, ws, rfl, r1, r2⟩ := r.cons_inv
  obtain ⟨a, ws2, rfl, n, ha, rr⟩ := r1.lst_inv
  exact ⟨a, ws2, by rw [r2.nil_inv], .of ha, k _ c1 _ H1 q e1 k1 (itr_enum rl_dom (rl_lst n ha rr))⟩
theorem IW.enumOwn {QI : List D → Nat → Prop} (h : ∃ p ds, ρ[i]? = some (.own p (.lst ds)) ∧ QI (enumD ds) c) : IW true G (iEnum G.K (tCons (tVar i) tNil)) ρ c QI := fun S σ H e R k => by
  obtain ⟨p, ds, hi, q⟩ := h
  obtain ⟨_, vs, h1, h2⟩ := e.sl i _ hi
  refine ⟨_, slot_ref e hi, p, vs, rfl, .of h1, k _ c _ H q e KeepE.refl (itr_enum rl_dom fun S' H' r => ⟨vs, .of (r.1 rfl p _ h1 fun z => e.out p ⟨i, _, hi, by simp [adr]⟩ (e.bxS p z)), Reps.mv r.2.1 _ _ h2⟩)⟩
theorem IW.zip {QI : List D → Nat → Prop} (h : AW G true tr ρ c (fun xs c1 => ∃ as bs, xs = [.lst as, .lst bs] ∧ QI (zipD as bs) c1)) : IW cm G (iZip G.K tr) ρ c QI := fun S σ H e R k => h S σ H e _ fun xs c1 vs H1 q e1 k1 r => by
  obtain ⟨as, bs, rfl, q⟩ := q
  obtain ⟨v, ws, rfl, r1, r2⟩ := r.cons_inv
  obtain ⟨v2, ws2, rfl, r3, r4⟩ := r2.cons_inv
  obtain ⟨a, vs1, rfl, n, ha, rr⟩ := r1.lst_inv
  obtain ⟨b, vs2, rfl, n2, hb, rr2⟩ := r3.lst_inv
  exact ⟨a, b, vs1, vs2, by rw [r4.nil_inv], .of ha, .of hb, k _ c1 _ H1 q e1 k1 (itr_zip rl_dom (rl_lst n ha rr) (rl_lst n2 hb rr2))⟩
theorem itz_zipT {K : Frag} {R : AS → Hp → Prop} {as bs : List D} {a b : Addr} (hdom : ∀ S' H', R S' H' → ∀ a, S' a → H' a ≠ none) (h : ∀ S' H', R S' H' → ∃ xs, SqT K H' a xs ∧ Reps K S' H' as xs) (h' : ∀ S' H', R S' H' → ∃ xs, SqT K H' b xs ∧ Reps K S' H' bs xs) : ItR K R (zipD as bs) (RZ.ItzT K a b) where
  go := fun i S' H' hi r => by
    obtain ⟨xs, h1, h2⟩ := h S' H' r
    obtain ⟨ys, h3, h4⟩ := h' S' H' r
    rw [zipD_length] at hi
    obtain ⟨v, hv, _⟩ := h2.get (List.getElem?_eq_getElem (show i < as.length by omega))
    obtain ⟨w, hw, _⟩ := h4.get (List.getElem?_eq_getElem (show i < bs.length by omega))
    exact ⟨xs, ys, v, w, h1, h3, hv, hw⟩
  stop := fun S' H' r => by
    obtain ⟨xs, h1, h2⟩ := h S' H' r
    obtain ⟨ys, h3, h4⟩ := h' S' H' r
    refine ⟨xs, ys, h1, h3, ?_⟩
    rw [zipD_length, h2.length, h4.length]
    omega
  yld := fun i d S' H' x H'' hd r y => by
    obtain ⟨xs, h1, h2⟩ := h S' H' r
    obtain ⟨ys, h3, h4⟩ := h' S' H' r
    obtain ⟨T, x1, x2, rfl, nT, rfl, y1, y2⟩ := y
    obtain ⟨e, f, he, hf, rfl⟩ := zipD_get hd
    obtain ⟨v, hv, rv⟩ := h2.get he
    obtain ⟨w, hw, rw⟩ := h4.get hf
    have := (y1 xs h1).symm.trans hv
    cases this
    have := (y2 ys h3).symm.trans hw
    cases this
    refine ⟨fun b o hb => by rw [upd_ne (ne_of_none hb nT)]; exact hb, Rep.tup (.inl ⟨fun z => hdom S' H' r T z nT, .inl upd_same⟩) (Reps.cons (Rep.mv (mv_upd nT) _ _ rv) (Reps.cons (Rep.mv (mv_upd nT) _ _ rw) Reps.nil))⟩
/-- zip of two lists, or of two tuples -/
theorem IW.zipA {QI : List D → Nat → Prop} (h : AW G true tr ρ c (fun xs c1 => ∃ as bs, (xs = [.lst as, .lst bs] ∨ xs = [.tup as, .tup bs]) ∧ QI (zipD as bs) c1)) : IW cm G (RZ.iZipA G.K tr) ρ c QI := fun S σ H e R k => h S σ H e _ fun xs c1 vs H1 q e1 k1 r => by
  obtain ⟨as, bs, rfl | rfl, q⟩ := q
  · obtain ⟨v, ws, rfl, r1, r2⟩ := r.cons_inv
    obtain ⟨v2, ws2, rfl, r3, r4⟩ := r2.cons_inv
    obtain ⟨a, vs1, rfl, n, ha, rr⟩ := r1.lst_inv
    obtain ⟨b, vs2, rfl, n2, hb, rr2⟩ := r3.lst_inv
    exact ⟨a, b, vs1, vs2, by rw [r4.nil_inv], .inl ⟨.of ha, .of hb, k _ c1 _ H1 q e1 k1 (itr_zip rl_dom (rl_lst n ha rr) (rl_lst n2 hb rr2))⟩⟩
  · obtain ⟨v, ws, rfl, r1, r2⟩ := r.cons_inv
    obtain ⟨v2, ws2, rfl, r3, r4⟩ := r2.cons_inv
    obtain ⟨a, vs1, rfl, ha, rr⟩ := r1.tup_inv
    obtain ⟨b, vs2, rfl, hb, rr2⟩ := r3.tup_inv
    exact ⟨a, b, vs1, vs2, by rw [r4.nil_inv], .inr ⟨ha.sq, hb.sq, k _ c1 _ H1 q e1 k1 (itz_zipT rl_dom (fun S' H' r => ⟨_, (ha.mv r.2.1).sq, Reps.mv r.2.1 _ _ rr⟩) (fun S' H' r => ⟨_, (hb.mv r.2.1).sq, Reps.mv r.2.1 _ _ rr2⟩))⟩⟩

/-! ### targets -/
theorem wipe_set {σ : L2.St} {i : Nat} {o : Option V} : ∀ {vs : List Nat}, i ∈ vs → wipe (σ.set i o) vs = wipe σ vs
  | [], h => by cases h
  | v :: vs, h => by
    unfold wipe
    by_cases hv : i ∈ vs
    · rw [wipe_set hv]
    · have e : i = v := (List.mem_cons.mp h).resolve_right hv
      subst e
      -- the wiped slots commute with the one that is set
      have cm : ∀ ws : List Nat, i ∉ ws → wipe (σ.set i o) ws = (wipe σ ws).set i o := by
        intro ws
        induction ws with
        | nil => intro _; rfl
        | cons w ws ih =>
          intro hn
          unfold wipe
          rw [ih (fun z => hn (List.mem_cons_of_mem _ z))]
          rw [List.set_comm _ _ (show i ≠ w from fun z => hn (by simp [z]))]
      rw [cm vs hv, List.set_set]
def GW (G : Ctx) (g : TG) (is : List Nat) (d : D) (ρ : Env) (k : Env → Prop) : Prop :=
  ∀ S σ H c v, EnvR G S H σ ρ c → Rep G.K (Sx S ρ true) H d v → ∀ R : L2.St → Hp → Prop, (∀ ρ' σ', k ρ' → EnvR G S H σ' ρ' c → Keep G ρ ρ' H H → (∀ vs, (∀ i ∈ is, i ∈ vs) → wipe σ' vs = wipe σ vs) → R σ' H) → g v σ H R
theorem GW.name {k : Env → Prop} (q : k (ρ.set i (.val d))) : GW G (gName i) [i] d ρ k := fun S σ H c v e r R h =>
  h _ _ q (e.setN (s := .val d) rfl ⟨v, rfl, r⟩) (keep_setN (s := .val d) rfl) fun vs hv => wipe_set (hv i (by simp))
theorem GW.tup2 {g1 g2 : TG} {is1 is2 : List Nat} {a b : D} {k : Env → Prop} (h : GW G g1 is1 a ρ fun ρ1 => GW G g2 is2 b ρ1 k) : GW G (gTup G.K 2 (gCons g1 (gCons g2 gNil))) (is1 ++ is2) (.tup [a, b]) ρ k := fun S σ H c v e r R hk => by
  obtain ⟨p, vs, rfl, hp, rr⟩ := r.tup_inv
  obtain ⟨w1, ws, rfl, r1, r2⟩ := rr.cons_inv
  obtain ⟨w2, ws2, rfl, r3, r4⟩ := r2.cons_inv
  cases r4.nil_inv
  refine ⟨p, _, rfl, hp.sq, rfl, w1, _, rfl, h S σ H c w1 e r1 _ fun ρ1 σ1 q1 e1 k1 s1 => ⟨w2, [], rfl, q1 S σ1 H c w2 e1 (Rep.mv (e.mv k1) _ _ r3) _ fun ρ2 σ2 q2 e2 k2 s2 => ⟨rfl, hk ρ2 σ2 q2 e2 (k1.trans k2 e1.bxH) fun vs hv => ?_⟩⟩⟩
  rw [s2 vs fun i hi => hv i (List.mem_append_right _ hi), s1 vs fun i hi => hv i (List.mem_append_left _ hi)]
theorem GW.tup3 {g1 g2 g3 : TG} {is1 is2 is3 : List Nat} {a b b3 : D} {k : Env → Prop} (h : GW G g1 is1 a ρ fun ρ1 => GW G g2 is2 b ρ1 fun ρ2 => GW G g3 is3 b3 ρ2 k) : GW G (gTup G.K 3 (gCons g1 (gCons g2 (gCons g3 gNil)))) (is1 ++ (is2 ++ is3)) (.tup [a, b, b3]) ρ k := fun S σ H c v e r R hk => by
  obtain ⟨p, vs, rfl, hp, rr⟩ := r.tup_inv
  obtain ⟨w1, ws, rfl, r1, r2⟩ := rr.cons_inv
  obtain ⟨w2, ws2, rfl, r3, r4⟩ := r2.cons_inv
  obtain ⟨w3, ws3, rfl, r5, r6⟩ := r4.cons_inv
  cases r6.nil_inv
  refine ⟨p, _, rfl, hp.sq, rfl, w1, _, rfl, h S σ H c w1 e r1 _ fun ρ1 σ1 q1 e1 k1 s1 => ⟨w2, _, rfl, q1 S σ1 H c w2 e1 (Rep.mv (e.mv k1) _ _ r3) _ fun ρ2 σ2 q2 e2 k2 s2 => ⟨w3, [], rfl, q2 S σ2 H c w3 e2 (Rep.mv (e1.mv k2) _ _ (Rep.mv (e.mv k1) _ _ r5)) _ fun ρ3 σ3 q3 e3 k3 s3 => ⟨rfl, hk ρ3 σ3 q3 e3 ((k1.trans k2 e1.bxH).trans k3 e2.bxH) fun vs hv => ?_⟩⟩⟩⟩
  rw [s3 vs fun i hi => hv i (List.mem_append_right _ (List.mem_append_right _ hi)), s2 vs fun i hi => hv i (List.mem_append_right _ (List.mem_append_left _ hi)), s1 vs fun i hi => hv i (List.mem_append_left _ hi)]

theorem GW.nm2 {i j : Nat} {a b : D} {k : Env → Prop} (q : k ((ρ.set i (.val a)).set j (.val b))) : GW G (gTup G.K 2 (gCons (gName i) (gCons (gName j) gNil))) [i, j] (.tup [a, b]) ρ k := GW.tup2 (is1 := [i]) (is2 := [j]) (GW.name (GW.name q))
theorem GW.nm3 {i j m : Nat} {a b b3 : D} {k : Env → Prop} (q : k (((ρ.set i (.val a)).set j (.val b)).set m (.val b3))) : GW G (gTup G.K 3 (gCons (gName i) (gCons (gName j) (gCons (gName m) gNil)))) [i, j, m] (.tup [a, b, b3]) ρ k := GW.tup3 (is1 := [i]) (is2 := [j]) (is3 := [m]) (GW.name (GW.name (GW.name q)))
/-! ### loops -/
theorem SW.for_ {wi : TI} {g : TG} {tb : TS} {is : List Nat} (h : IW false G wi ρ c (fun ds c1 => ∃ Pv : Nat → Env → Nat → Prop, Pv 0 ρ c1 ∧
    (∀ i d ρ1 c2, ds[i]? = some d → Pv i ρ1 c2 → GW G g is d ρ1 fun ρ2 => SW G tb ρ2 c2 { W with nx := Pv (i + 1), ct := Pv (i + 1), bk := W.nx }) ∧ ∀ ρ1 c2, Pv ds.length ρ1 c2 → W.nx ρ1 c2)) : SW G (tFor wi g tb) ρ c W := fun S σ H e D0 gd =>
  h S σ H e _ fun ds c1 J H1 q e1 k1 it => by
    obtain ⟨Pv, h0, hs, hd⟩ := q
    have gd1 := gd.keep k1.keep e1.bxH
    refine ⟨fun i m σ' H' => ∃ ρ' c', Pv i ρ' c' ∧ EnvR G S H' σ' ρ' c' ∧ Keep G ρ ρ' H1 H' ∧ i ≤ ds.length ∧ m = ds.length - i, ⟨ds.length, ρ, c1, h0, e1, Keep.refl, Nat.zero_le _, rfl⟩, ?_⟩
    rintro i m σ' H' ⟨ρ', c', p, e', k', hi, rfl⟩
    have rl : Rl false G (Sx S ρ true) H1 (Sx S ρ' true) H' := ⟨(fun z => nomatch z), e1.mv k', e'.sxH⟩
    by_cases hlt : i < ds.length
    · refine .inr ⟨it.go i _ _ hlt rl, fun σ2 H2 => ∃ ρ2 c2, Pv (i + 1) ρ2 c2 ∧ EnvR G S H2 σ2 ρ2 c2 ∧ Keep G ρ ρ2 H1 H2, fun σ2 H2 ⟨ρ2, c2, p2, e2, k2⟩ => ⟨ds.length - (i + 1), by omega, ρ2, c2, p2, e2, k2, hlt, rfl⟩, fun x H2 y => ?_⟩
      obtain ⟨ex, rx⟩ := it.yld i _ _ _ x H2 (List.getElem?_eq_getElem hlt) rl y
      have ke : KeepE G H' H2 := fun a o h _ => ex a o h
      have e2 := e'.keepE ke (e'.box.ex ex)
      refine hs i _ ρ' c' (List.getElem?_eq_getElem hlt) p S σ' H2 c' x e2 rx _ fun ρ3 σ3 q3 e3 k3 _ => ?_
      have kk : Keep G ρ ρ3 H1 H2 := (k'.trans ke.keep e'.bxH).trans k3 e2.bxH
      refine q3 S σ3 H2 e3 _ ⟨fun ρ4 c4 σ4 H4 p4 e4 k4 => ⟨ρ4, c4, p4, e4, kk.trans k4 e3.bxH⟩, fun d c4 ρ4 σ4 v H4 p4 e4 k4 r4 => gd1.rt d c4 ρ4 σ4 v H4 p4 e4 (kk.trans k4 e3.bxH) r4, fun ρ4 c4 σ4 H4 p4 e4 k4 => gd1.nx ρ4 c4 σ4 H4 p4 e4 (kk.trans k4 e3.bxH), fun ρ4 c4 σ4 H4 p4 e4 k4 => ⟨ρ4, c4, p4, e4, kk.trans k4 e3.bxH⟩⟩
    · have ei : i = ds.length := by omega
      subst ei
      exact .inl ⟨it.stop _ _ rl, gd1.nx ρ' c' σ' H' (hd ρ' c' p) e' k'⟩
theorem SW.while_ {tb : TS} (Pv : Nat → Env → Nat → Prop) (m0 : Nat) (h0 : Pv m0 ρ c) (hs : ∀ m ρ1 c1, Pv m ρ1 c1 → TW G tt ρ1 c1 (fun b c2 => (b = true → SW G tb ρ1 c2 { W with nx := fun ρ2 c3 => ∃ m', m' < m ∧ Pv m' ρ2 c3, ct := fun ρ2 c3 => ∃ m', m' < m ∧ Pv m' ρ2 c3, bk := W.nx }) ∧ (b = false → W.nx ρ1 c2))) : SW G (tWhile tt tb) ρ c W := fun S σ H e D0 gd => by
  refine ⟨fun m σ' H' => ∃ ρ' c', Pv m ρ' c' ∧ EnvR G S H' σ' ρ' c' ∧ Keep G ρ ρ' H H', ⟨m0, ρ, c, h0, e, Keep.refl⟩, ?_⟩
  rintro m σ' H' ⟨ρ', c', p, e', k'⟩
  refine hs m ρ' c' p S σ' H' e' _ fun b c2 H2 q e2 k2 => ?_
  have kk : Keep G ρ ρ' H H2 := k'.trans k2.keep e'.bxH
  cases b with
  | true =>
    refine ⟨fun σ3 H3 => ∃ ρ3 c3, (∃ m', m' < m ∧ Pv m' ρ3 c3) ∧ EnvR G S H3 σ3 ρ3 c3 ∧ Keep G ρ ρ3 H H3, fun σ3 H3 ⟨ρ3, c3, ⟨m', lt, p3⟩, e3, k3⟩ => ⟨m', lt, ρ3, c3, p3, e3, k3⟩, ?_⟩
    exact (q.1 rfl) S σ' H2 e2 _ ⟨fun ρ4 c4 σ4 H4 p4 e4 k4 => ⟨ρ4, c4, p4, e4, kk.trans k4 e2.bxH⟩, fun d c4 ρ4 σ4 v H4 p4 e4 k4 r4 => gd.rt d c4 ρ4 σ4 v H4 p4 e4 (kk.trans k4 e2.bxH) r4, fun ρ4 c4 σ4 H4 p4 e4 k4 => gd.nx ρ4 c4 σ4 H4 p4 e4 (kk.trans k4 e2.bxH), fun ρ4 c4 σ4 H4 p4 e4 k4 => ⟨ρ4, c4, p4, e4, kk.trans k4 e2.bxH⟩⟩
  | false => exact gd.nx ρ' c2 σ' H2 (q.2 rfl) e2 kk

/-! ### comprehensions -/
def wipeE (ρ : Env) : List Nat → Env
  | [] => ρ
  | v :: vs => (wipeE ρ vs).set v .no
def ownsNo : Slot → Bool
  | .own _ _ => false
  | _ => true
theorem ownsNo_adr {s : Slot} (h : ownsNo s = true) : adr s = [] := by
  cases s <;> first | rfl | cases h
theorem EnvR.wipe {G S H σ ρ c} (e : EnvR G S H σ ρ c) : ∀ vs : List Nat, EnvR G S H (L2.wipe σ vs) (wipeE ρ vs) c
  | [] => e
  | v :: vs => (EnvR.wipe e vs).setN (s := .no) (o := none) rfl trivial
theorem ad_wipe {ρ : Env} : ∀ (vs : List Nat), (vs.all fun v => ownsNo (ρ.getD v .no)) = true → ∀ a, Ad ρ a → Ad (wipeE ρ vs) a
  | [], _, a, h => h
  | v :: vs, hv, a, h => by
    simp only [List.all_cons, Bool.and_eq_true] at hv
    obtain ⟨i, s, h1, h2⟩ := h
    have key : ∀ vs : List Nat, (vs.all fun v => ownsNo (ρ.getD v .no)) = true → (wipeE ρ vs)[i]? = some s := by
      intro vs
      induction vs with
      | nil => intro _; exact h1
      | cons w ws ih =>
        intro hw
        simp only [List.all_cons, Bool.and_eq_true] at hw
        have hne : w ≠ i := fun z => by
          subst z
          have := ownsNo_adr hw.1
          rw [List.getD_eq_getElem?_getD, h1] at this
          have q : adr s = [] := this
          rw [q] at h2; cases h2
        unfold wipeE
        rw [List.getElem?_set_ne hne]
        exact ih hw.2
    exact ⟨i, s, key (v :: vs) (by simp only [List.all_cons, Bool.and_eq_true]; exact hv), h2⟩
theorem ad_unwipe {ρ : Env} : ∀ (vs : List Nat) (a : Addr), Ad (wipeE ρ vs) a → Ad ρ a
  | [], a, h => h
  | v :: vs, a, h => by
    obtain ⟨i, s, h1, h2⟩ := h
    unfold wipeE at h1
    rcases set_inv h1 with ⟨_, rfl, _⟩ | ⟨_, h1⟩
    · cases h2
    · exact ad_unwipe vs a ⟨i, s, h1, h2⟩
theorem wipe_wipe (σ : L2.St) (vs : List Nat) : L2.wipe (L2.wipe σ vs) vs = L2.wipe σ vs := by
  have idem : ∀ us : List Nat, (∀ u ∈ us, u ∈ vs) → L2.wipe (L2.wipe σ vs) us = L2.wipe σ vs := by
    intro us
    induction us with
    | nil => intro _; rfl
    | cons u us ih =>
      intro hu
      show (L2.wipe (L2.wipe σ vs) us).set u none = L2.wipe σ vs
      rw [ih fun u' h' => hu u' (List.mem_cons_of_mem _ h')]
      apply List.ext_getElem?
      intro k
      by_cases hk : u = k
      · subst hk
        by_cases hl : u < (L2.wipe σ vs).length
        · rw [List.getElem?_set_self hl]
          have key : ∀ ws : List Nat, u ∈ ws → (L2.wipe σ ws)[u]? = some none ∨ ¬ u < σ.length := by
            intro ws
            induction ws with
            | nil => intro h; cases h
            | cons w ws ih2 =>
              intro hm
              by_cases hul : u < σ.length
              · refine .inl ?_
                show ((L2.wipe σ ws).set w none)[u]? = some none
                by_cases huw : w = u
                · subst huw
                  rw [List.getElem?_set_self (by rw [wipe_length]; exact hul)]
                · rw [List.getElem?_set_ne huw]
                  rcases ih2 ((List.mem_cons.mp hm).resolve_left fun z => huw z.symm) with q | q
                  · exact q
                  · exact absurd hul q
              · exact .inr hul
          rcases key vs (hu u (by simp)) with q | q
          · exact q.symm
          · rw [wipe_length] at hl; exact absurd hl q
        · rw [List.getElem?_eq_none (by simpa using hl), List.getElem?_eq_none (by simpa using hl)]
      · rw [List.getElem?_set_ne hk]
  exact idem vs fun _ h => h
theorem EF.lc {wi : TI} {g : TG} {vs : List Nat} (hw : (vs.all fun v => ownsNo (ρ.getD v .no)) = true) (h : IW true G wi ρ c (fun ds c1 => ∃ Pv : Nat → List D → Nat → Prop, Pv 0 [] c1 ∧
    (∀ i d acc c2, ds[i]? = some d → Pv i acc c2 → GW G g vs d (wipeE ρ vs) fun ρ2 => wipeE ρ2 vs = wipeE ρ vs ∧ TW G tt ρ2 c2 (fun b c3 => (b = true → EW G l te ρ2 c3 (fun y c4 => acc.length < sizeLine ∧ Pv (i + 1) (acc ++ [y]) c4)) ∧ (b = false → Pv (i + 1) acc c3))) ∧
    ∀ acc c2, Pv ds.length acc c2 → QF acc c2)) : EF G l (tLc wi g tt te vs) ρ c QF := fun S σ H e QV kt =>
  h S σ H e _ fun ds c1 J H1 q e1 k1 it D hD => by
    obtain ⟨Pv, h0, hs, hd⟩ := q
    have hD0 : H D = none := none_back e1 k1 hD
    have nbD : G.bx ≠ some D := fun z => e1.bxH D z hD
    refine ⟨fun i m H' => ∃ acc c' ws, Pv i acc c' ∧ EnvR G (addS S D) H' σ ρ c' ∧ KeepE G H1 H' ∧ H' D = some (.lst ws) ∧ Reps G.K (Sx (addS S D) ρ l) H' acc ws ∧ i ≤ ds.length ∧ m = ds.length - i,
      ⟨ds.length, [], c1, [], h0, e1.shut hD, KeepE.new hD, upd_same, Reps.nil, Nat.zero_le _, rfl⟩, ?_⟩
    rintro i m H' ⟨acc, c', ws, p, e', k', hD', rr, hi, rfl⟩
    have mvD : Mv (Sx S ρ true) H1 (Sx (addS S D) ρ true) H' := fun a o h n => ⟨k' a o h (e1.nb (sx_of n)), fun z => (sx_add.mp z).elim n (ne_of_none h hD)⟩
    have rl : Rl true G (Sx S ρ true) H1 (Sx (addS S D) ρ true) H' := ⟨fun _ => k', mvD, e'.sxH⟩
    by_cases hlt : i < ds.length
    · refine .inr ⟨it.go i _ _ hlt rl, fun H2 => ∃ acc2 c2 ws2, Pv (i + 1) acc2 c2 ∧ EnvR G (addS S D) H2 σ ρ c2 ∧ KeepE G H1 H2 ∧ H2 D = some (.lst ws2) ∧ Reps G.K (Sx (addS S D) ρ l) H2 acc2 ws2, fun H2 ⟨a2, c2, w2, p2, e2, k2, d2, r2⟩ => ⟨ds.length - (i + 1), by omega, a2, c2, w2, p2, e2, k2, d2, r2, hlt, rfl⟩, fun x H2 y => ?_⟩
      obtain ⟨ex, rx⟩ := it.yld i _ _ _ x H2 (List.getElem?_eq_getElem hlt) rl y
      have ke : KeepE G H' H2 := fun a o h _ => ex a o h
      have e2 := e'.keepE ke (e'.box.ex ex)
      have ew := e2.wipe vs
      have rx2 : Rep G.K (Sx (addS S D) (wipeE ρ vs) true) H2 ds[i] x := Rep.mv (mv_sub fun a z => by
        rcases z with z | ⟨z, q⟩
        · exact .inl z
        · exact .inr ⟨z, ad_unwipe vs a q⟩) _ _ rx
      refine hs i _ acc c' (List.getElem?_eq_getElem hlt) p (addS S D) _ H2 c' x ew rx2 _ fun ρ3 σ3 q3 e3 k3 s3 => ⟨?_, ?_⟩
      · rw [s3 vs fun _ h => h]
        exact wipe_wipe σ vs
      · obtain ⟨hwe, q3⟩ := q3
        have adS : ∀ a, Ad ρ a → Ad ρ3 a := fun a ha => ad_unwipe vs a (by rw [hwe]; exact ad_wipe vs hw a ha)
        refine q3 (addS S D) σ3 H2 e3 _ fun b c3 H3 q4 e4 k4 => ?_
        cases b with
        | false =>
          have kk : KeepE G H' H3 := ke.trans k4
          refine ⟨acc, c3, ws, q4.2 rfl, e'.keepE kk e4.box, k'.trans kk, kk D _ hD' nbD, Reps.mv (e'.mvE kk) _ _ rr⟩
        | true =>
          refine (q4.1 rfl) (addS S D) σ3 H3 e4 _ fun y c4 v H4 q5 e5 k5 r5 => ?_
          have kk : KeepE G H' H4 := (ke.trans k4).trans k5
          have e6 := e'.keepE kk e5.box
          have hD4 : H4 D = some (.lst ws) := kk D _ hD' nbD
          have r6 : Reps G.K (Sx (addS S D) ρ l) H4 acc ws := Reps.mv (e'.mvE kk) _ _ rr
          have r7 : Rep G.K (Sx (addS S D) ρ l) H4 y v := Rep.mv (mv_sub fun a z => by
            rcases z with z | ⟨z, q⟩
            · exact .inl z
            · exact .inr ⟨z, adS a q⟩) _ _ r5
          have mu : Mv (Sx (addS S D) ρ l) H4 (Sx (addS S D) ρ l) (upd H4 D (.lst (ws ++ [v]))) := fun a o h n => ⟨by rw [upd_ne fun z => n (.inl (.inr z))]; exact h, n⟩
          have mu2 : Mv (Sx (addS S D) ρ true) H4 (Sx (addS S D) ρ true) (upd H4 D (.lst (ws ++ [v]))) := fun a o h n => ⟨by rw [upd_ne fun z => n (.inl (.inr z))]; exact h, n⟩
          refine ⟨ws, hD4, by rw [r6.length]; exact q5.1, acc ++ [y], c4, ws ++ [v], q5.2, ?_, ?_, upd_same, Reps.mv mu _ _ (r6.append (Reps.cons r7 Reps.nil))⟩
          · refine ⟨e6.len, fun i s h => ?_, e6.nd, e6.sep, e6.out, fun a h z => ?_, fun b hb => ?_⟩
            · have q := e6.sl i s h
              cases s with
              | no => trivial
              | val d => obtain ⟨v, h1, h2⟩ := q; exact ⟨v, h1, Rep.mv mu2 _ _ h2⟩
              | own p' w =>
                obtain ⟨h1, h2⟩ := q
                exact ⟨h1, h2.mv mu2 fun a ha o ho => by rw [upd_ne fun z => e6.out a ⟨i, _, h, ha⟩ (.inr z)]; exact ho⟩
              | box => exact q
            · by_cases q : a = D
              · rw [q, upd_same] at z; cases z
              · rw [upd_ne q] at z; exact e6.dom a h z
            · obtain ⟨b1, x, y, b2, b3⟩ := e6.box b hb
              exact ⟨b1, x, y, by rw [upd_ne fun z => nbD (by rw [hb, z])]; exact b2, b3⟩
          · exact fun a o h n => by
              have := (k'.trans kk) a o h n
              rw [upd_ne (ne_of_none h hD)]; exact this
    · have ei : i = ds.length := by omega
      subst ei
      exact .inl ⟨it.stop _ _ rl, kt acc c' D ws H' (hd acc c' p) e' (k1.trans k') hD0 hD' rr⟩

/-! ### calls -/
abbrev PV := List D → (D → Prop) → Prop
abbrev PB := Nat → List D → (D → Nat → Prop) → Prop
abbrev PF := List D → (List D → Prop) → Prop
abbrev PBF := Nat → List D → (List D → Nat → Prop) → Prop
def spV (K : Frag) (ps : PV) : Sp := fun vs H Q _ => ∃ S ds P, (∀ a, S a → H a ≠ none) ∧ Reps K S H ds vs ∧ ps ds P ∧ ∀ d, P d → ∀ v H', (∀ a o, H a = some o → H' a = some o) → Rep K S H' d v → Q v H'
def spF (K : Frag) (ps : PF) : Sp := fun vs H Q _ => ∃ S ds P, (∀ a, S a → H a ≠ none) ∧ Reps K S H ds vs ∧ ps ds P ∧ ∀ es, P es → ∀ p ws H', (∀ a o, H a = some o → H' a = some o) → H p = none → H' p = some (.lst ws) → Reps K (addS S p) H' es ws → Q (.ref p) H'
def spB (K : Frag) (ps : PB) : Sp := fun vs H Q _ => ∃ S b c ds ws P, vs = .ref b :: ws ∧ (∀ a, S a → H a ≠ none) ∧ BoxR ⟨K, some b⟩ S H c ∧ Reps K S H ds ws ∧ ps c ds P ∧ ∀ d c', P d c' → ∀ v H', KeepE ⟨K, some b⟩ H H' → BoxR ⟨K, some b⟩ S H' c' → Rep K S H' d v → Q v H'
def spBF (K : Frag) (ps : PBF) : Sp := fun vs H Q _ => ∃ S b c ds ws P, vs = .ref b :: ws ∧ (∀ a, S a → H a ≠ none) ∧ BoxR ⟨K, some b⟩ S H c ∧ Reps K S H ds ws ∧ ps c ds P ∧ ∀ es c', P es c' → ∀ p zs H', KeepE ⟨K, some b⟩ H H' → BoxR ⟨K, some b⟩ S H' c' → H p = none → H' p = some (.lst zs) → Reps K (addS S p) H' es zs → Q (.ref p) H'
theorem EW.callV {ps : PV} {E : XK} (h : AW G l tr ρ c (fun ds c1 => ps ds (fun d => Q d c1))) : EW G l (tCall (spV G.K ps) [] E tr) ρ c Q := fun S σ H e QV kt => h S σ H e _ fun ds c1 vs H1 q e1 k1 r => by
  rw [List.append_nil]
  exact ⟨Sx S ρ l, ds, _, e1.sxH, r, q, fun d hq v H' ex rv => (kt.keep k1) d c1 v H' hq (e1.keepE (fun a o h _ => ex a o h) (e1.box.ex ex)) (fun a o h _ => ex a o h) rv⟩
theorem sx_addS {S : AS} {p : Addr} : Sx (addS S p) ρ l = addS (Sx S ρ l) p := by
  funext a; exact propext sx_add
theorem EF.callF {ps : PF} {E : XK} (h : AW G l tr ρ c (fun ds c1 => ps ds (fun es => QF es c1))) : EF G l (tCall (spF G.K ps) [] E tr) ρ c QF := fun S σ H e QV kt => h S σ H e _ fun ds c1 vs H1 q e1 k1 r => by
  rw [List.append_nil]
  refine ⟨Sx S ρ l, ds, _, e1.sxH, r, q, fun es hq p ws H' ex hp hl rv => ?_⟩
  have e2 := e1.keepE (fun a o h _ => ex a o h) (e1.box.ex ex)
  refine kt es c1 p ws H' hq ?_ (k1.trans fun a o h _ => ex a o h) (none_back e1 k1 hp) hl (by rw [sx_addS]; exact rv)
  exact e1.shutTo hp hl (fun a o h _ => ex a o h) (e1.box.ex ex)
theorem boxr_to {S S' : AS} {H : Hp} {b : Addr} (hb : G.bx = some b) (h : BoxR G S H c) (hs : S b → S' b) : BoxR ⟨G.K, some b⟩ S' H c := fun b' e => by
  cases e
  obtain ⟨h1, h2⟩ := h b hb
  exact ⟨hs h1, h2⟩
theorem boxr_from {S S' : AS} {H : Hp} {b : Addr} (hb : G.bx = some b) (h : BoxR ⟨G.K, some b⟩ S' H c) (hs : S b) : BoxR G S H c := fun b' e => by
  rw [hb] at e; cases e
  obtain ⟨_, h2⟩ := h b rfl
  exact ⟨hs, h2⟩
theorem keepE_to {H H' : Hp} {b : Addr} (hb : G.bx = some b) (k : KeepE ⟨G.K, some b⟩ H H') : KeepE G H H' := fun a o h n => k a o h (by rw [← hb]; exact n)
theorem EW.callB {ps : PB} {E : XK} (hi : ρ[i]? = some .box) (h : AW G l tr ρ c (fun ds c1 => ps c1 ds (fun d c2 => Q d c2))) : EW G l (tCall (spB G.K ps) [] E (tCons (tVar i) tr)) ρ c Q := fun S σ H e QV kt => by
  obtain ⟨b, hb, hs⟩ := slot_box e hi
  refine ⟨_, hs, h S σ H e _ fun ds c1 vs H1 q e1 k1 r => ?_⟩
  show spB G.K ps (.ref b :: vs ++ []) H1 QV E
  rw [List.append_nil]
  refine ⟨Sx S ρ l, b, c1, ds, vs, _, rfl, e1.sxH, boxr_to hb e1.box .inl, r, q, fun d c2 hq v H' ex bx rv => ?_⟩
  have kE := keepE_to hb ex
  exact (kt.keep k1) d c2 v H' hq (e1.keepE kE (boxr_from hb bx (e1.bxS b hb))) kE rv
theorem EF.callBF {ps : PBF} {E : XK} (hi : ρ[i]? = some .box) (h : AW G l tr ρ c (fun ds c1 => ps c1 ds (fun es c2 => QF es c2))) : EF G l (tCall (spBF G.K ps) [] E (tCons (tVar i) tr)) ρ c QF := fun S σ H e QV kt => by
  obtain ⟨b, hb, hs⟩ := slot_box e hi
  refine ⟨_, hs, h S σ H e _ fun ds c1 vs H1 q e1 k1 r => ?_⟩
  show spBF G.K ps (.ref b :: vs ++ []) H1 QV E
  rw [List.append_nil]
  refine ⟨Sx S ρ l, b, c1, ds, vs, _, rfl, e1.sxH, boxr_to hb e1.box .inl, r, q, fun es c2 hq p zs H' ex bx hp hl rv => ?_⟩
  have kE := keepE_to hb ex
  exact kt es c2 p zs H' hq (e1.shutTo hp hl kE (boxr_from hb bx (e1.bxS b hb))) (k1.trans kE) (none_back e1 k1 hp) hl (by rw [sx_addS]; exact rv)
end

/-! ### bodies -/
theorem start_env {K : Frag} {bx : Option Addr} {S : AS} {H : Hp} {N : List Str} {vs : List V} {ds : List D} {sl : List Slot} {c : Nat} (hd : ∀ a, S a → H a ≠ none) (hb : BoxR ⟨K, bx⟩ S H c) (hn : sl.length = vs.length) (hN : vs.length ≤ N.length)
    (hsl : ∀ (i : Nat) (s : Slot), sl[i]? = some s → SlotR ⟨K, bx⟩ S H s vs[i]?) (hown : ∀ s ∈ sl, adr s = []) : EnvR ⟨K, bx⟩ S H (L2.start N vs) (sl ++ List.replicate (N.length - sl.length) .no) c := by
  have hA : ∀ a, ¬ Ad (sl ++ List.replicate (N.length - sl.length) .no) a := fun a ⟨i, s, h, ha⟩ => by
    have hm := List.mem_of_getElem? h
    rcases List.mem_append.mp hm with q | q
    · rw [hown s q] at ha; cases ha
    · have := List.eq_of_mem_replicate q
      subst this; cases ha
  have eS : Sx S (sl ++ List.replicate (N.length - sl.length) .no) true = S := by
    funext a; apply propext
    constructor
    · rintro (h | ⟨_, h⟩)
      · exact h
      · exact absurd h (hA a)
    · exact .inl
  refine ⟨?_, fun i s h => ?_, fun i s h => ?_, fun i j s t a h _ ha _ => absurd ⟨i, s, h, ha⟩ (hA a), fun a h => absurd h (hA a), hd, hb⟩
  · unfold L2.start
    rw [List.length_append, List.length_append, List.length_map, List.length_replicate, List.length_replicate, hn]
  · rw [eS]
    by_cases hi : i < sl.length
    · rw [List.getElem?_append_left hi] at h
      have q := hsl i s h
      have : (L2.start N vs).getD i none = vs[i]? := by
        unfold L2.start
        rw [List.getD_eq_getElem?_getD, List.getElem?_append_left (by rw [List.length_map]; omega), List.getElem?_map]
        cases vs[i]? <;> rfl
      rw [this]; exact q
    · rw [List.getElem?_append_right (by omega)] at h
      have := List.eq_of_mem_replicate (List.mem_of_getElem? h)
      subst this; trivial
  · by_cases hh : ∃ a, a ∈ adr s
    · obtain ⟨a, ha⟩ := hh
      exact absurd ⟨i, s, h, ha⟩ (hA a)
    · have : adr s = [] := by
        cases e : adr s with
        | nil => rfl
        | cons a r => exact absurd ⟨a, by rw [e]; simp⟩ hh
      rw [this]; exact List.nodup_nil
theorem vals_slots {K : Frag} {bx : Option Addr} {S : AS} {H : Hp} {ds : List D} {vs : List V} (r : Reps K S H ds vs) : ∀ (i : Nat) (s : Slot), (ds.map Slot.val)[i]? = some s → SlotR ⟨K, bx⟩ S H s vs[i]? := fun i s h => by
  rw [List.getElem?_map] at h
  cases q : ds[i]? with
  | none => rw [q] at h; cases h
  | some d =>
    rw [q] at h
    cases h
    obtain ⟨v, hv, rv⟩ := r.get q
    exact ⟨v, hv, rv⟩
theorem vals_own {ds : List D} : ∀ s ∈ ds.map Slot.val, adr s = [] := fun s h => by
  obtain ⟨d, _, rfl⟩ := List.mem_map.mp h
  rfl
def env0 (n : Nat) (ds : List D) : Env := ds.map Slot.val ++ List.replicate (n - ds.length) .no
theorem runV {K : Frag} {ps : PV} {t : TS} {N : List Str} {vs : List V} {H : Hp} {Q : VK} {E : XK} {n : Nat} (hn : ∀ ds P, ps ds P → ds.length = n) (hN : n ≤ N.length) (h : ∀ ds P, ps ds P → SW ⟨K, none⟩ t (env0 N.length ds) 0 { nx := fun _ _ => P .non, rt := fun d _ => P d }) (hs : spV K ps vs H Q E) :
    t { nx := fun _ H' => Q .non H', rt := Q } (L2.start N vs) H := by
  obtain ⟨S, ds, P, hd, r, hp, hq⟩ := hs
  have sw := h ds P hp
  have hl : ds.length ≤ N.length := by rw [hn ds P hp]; exact hN
  have hA : ∀ a, ¬ Ad (env0 N.length ds) a := fun a ⟨i, s, h, ha⟩ => by
    have hm := List.mem_of_getElem? h
    rcases List.mem_append.mp hm with q | q
    · rw [vals_own s q] at ha; cases ha
    · have := List.eq_of_mem_replicate q
      subst this; cases ha
  have e : EnvR ⟨K, none⟩ S H (L2.start N vs) (env0 N.length ds) 0 := by
    have := start_env (K := K) (bx := none) (ds := ds) (N := N) (c := 0) hd (fun b z => nomatch z) (sl := ds.map .val) (by rw [List.length_map, r.length]) (by rw [r.length]; exact hl) (vals_slots r) vals_own
    rw [List.length_map] at this; exact this
  have ex : ∀ {ρ' H'}, Keep ⟨K, none⟩ (env0 N.length ds) ρ' H H' → ∀ a o, H a = some o → H' a = some o := fun k a o h => k.1 a o h (hA a) (fun z => nomatch z)
  refine sw S _ H e _ ⟨fun ρ' c' σ' H' q e' k => hq .non q .non H' (ex k) Rep.non, fun d c' ρ' σ' v H' q e' k rv => hq d q v H' (ex k) (Rep.mv (mv_sub fun a z => .inl z) _ _ rv), fun _ _ _ _ q => q.elim, fun _ _ _ _ q => q.elim⟩
def envB (n : Nat) (ds : List D) : Env := .box :: ds.map Slot.val ++ List.replicate (n - (ds.length + 1)) .no
theorem runB {K : Frag} {ps : PB} {t : TS} {N : List Str} {vs : List V} {H : Hp} {Q : VK} {E : XK} {n : Nat} (hn : ∀ c ds P, ps c ds P → ds.length + 1 = n) (hN : n ≤ N.length) (h : ∀ b c ds P, ps c ds P → SW ⟨K, some b⟩ t (envB N.length ds) c { nx := fun _ c' => P .non c', rt := P }) (hs : spB K ps vs H Q E) :
    t { nx := fun _ H' => Q .non H', rt := Q } (L2.start N vs) H := by
  obtain ⟨S, b, c, ds, ws, P, rfl, hd, bx, r, hp, hq⟩ := hs
  have sw := h b c ds P hp
  have hl : ds.length + 1 ≤ N.length := by rw [hn c ds P hp]; exact hN
  have hA : ∀ a, ¬ Ad (envB N.length ds) a := fun a ⟨i, s, h, ha⟩ => by
    have hm := List.mem_of_getElem? h
    rcases List.mem_append.mp hm with q | q
    · rcases List.mem_cons.mp q with q | q
      · subst q; cases ha
      · rw [vals_own s q] at ha; cases ha
    · have := List.eq_of_mem_replicate q
      subst this; cases ha
  have e : EnvR ⟨K, some b⟩ S H (L2.start N (.ref b :: ws)) (envB N.length ds) c := by
    have := start_env (K := K) (bx := some b) (ds := ds) (N := N) (c := c) (vs := .ref b :: ws) hd bx (sl := .box :: ds.map .val) (by rw [List.length_cons, List.length_cons, List.length_map, r.length]) (by rw [List.length_cons, r.length]; exact hl) (fun i s h => by
      cases i with
      | zero => cases h; exact ⟨b, rfl, rfl⟩
      | succ i => exact vals_slots r i s (by simpa using h)) (fun s hs => by
      rcases List.mem_cons.mp hs with q | q
      · subst q; rfl
      · exact vals_own s q)
    rw [List.length_cons, List.length_map] at this; exact this
  have ex : ∀ {ρ' H'}, Keep ⟨K, some b⟩ (envB N.length ds) ρ' H H' → KeepE ⟨K, some b⟩ H H' := fun k a o h n => k.1 a o h (hA a) n
  refine sw S _ H e _ ⟨fun ρ' c' σ' H' q e' k => hq .non c' q .non H' (ex k) e'.box Rep.non, fun d c' ρ' σ' v H' q e' k rv => hq d c' q v H' (ex k) e'.box (Rep.mv (mv_sub fun a z => .inl z) _ _ rv), fun _ _ _ _ q => q.elim, fun _ _ _ _ q => q.elim⟩
/-- where the body ends with a name's owned list, or a new list, handed back -/
structure DF where
  nx : Env → Nat → Prop
  rt : List D → Nat → Prop
/-- a body that hands back a new list -/
def SF (G : Ctx) (ts : TS) (ρ : Env) (c : Nat) (P : List D → Nat → Prop) : Prop :=
  ∀ S σ H, EnvR G S H σ ρ c → ∀ D0 : Ends, (∀ es c' p vs H', P es c' → (∀ a o, H a = some o → ¬ Ad ρ a → G.bx ≠ some a → H' a = some o) → BoxR G S H' c' → (H p = none ∨ Ad ρ p) → H' p = some (.lst vs) → Reps G.K (addS S p) H' es vs → D0.rt (.ref p) H') → ts D0 σ H
section
variable {G : Ctx} {l : Bool} {ρ : Env} {c c1 : Nat} {te ta tb : TE} {t u : TS} {P : List D → Nat → Prop} {i : Nat}
/-- statements, then the rest that hands back the list -/
theorem SF.seq (h : SW G t ρ c { nx := fun ρ1 c1 => SF G u ρ1 c1 P, rt := fun _ _ => False }) : SF G (tSeq t u) ρ c P := fun S σ H e D0 k =>
  h S σ H e { D0 with nx := u D0 } ⟨fun ρ' c' σ' H' q e' kk => q S σ' H' e' D0 fun es c2 p vs H2 q2 ex bx hp hl r => k es c2 p vs H2 q2 (fun a o h n nb => ex a o (kk.1 a o h n nb) (fun z => by
      rcases kk.2 a z with z | z
      · exact n z
      · rw [h] at z; cases z) nb) bx (by
      rcases hp with hp | hp
      · by_cases n : Ad ρ p
        · exact .inr n
        · cases z : H p with
          | none => exact .inl rfl
          | some o =>
            by_cases nb : G.bx = some p
            · exact absurd hp (e'.bxH p nb)
            · rw [kk.1 p o z n nb] at hp; cases hp
      · rcases kk.2 p hp with z | z
        · exact .inr z
        · exact .inl z) hl r, fun _ _ _ _ _ _ q => q.elim, fun _ _ _ _ q => q.elim, fun _ _ _ _ q => q.elim⟩
theorem SF.retOwn (h : ∃ p ds, ρ[i]? = some (.own p (.lst ds)) ∧ P ds c) : SF G (tRet (tVar i)) ρ c P := fun S σ H e D0 k => by
  obtain ⟨p, ds, hi, q⟩ := h
  obtain ⟨_, vs, h1, h2⟩ := e.sl i _ hi
  have hp : Ad ρ p := ⟨i, _, hi, by simp [adr]⟩
  exact ⟨_, slot_ref e hi, k ds c p vs H q (fun _ _ h _ _ => h) e.box (.inr hp) h1 (Reps.mv (mv_sub fun a z => by
    rcases z with z | z
    · exact .inl z
    · rw [z]; exact .inr ⟨rfl, hp⟩) _ _ h2)⟩
theorem SF.ret (h : EF G true te ρ c P) : SF G (tRet te) ρ c P := fun S σ H e D0 k => h S σ H e _ fun ds c' p vs H' q e' ke hp hl r => by
  refine k ds c' p vs H' q (fun a o h _ n => ke a o h n) (e'.open_ e.bxS).box (.inl hp) hl (Reps.mv (mv_sub fun a z => .inl z) _ _ r)
theorem SF.ite {tt : TT} (h : TW G tt ρ c (fun b c1 => (b = true → SF G t ρ c1 P) ∧ (b = false → SF G u ρ c1 P))) : SF G (tIfS tt t u) ρ c P := fun S σ H e D0 k => h S σ H e _ fun b c1 H1 q e1 k1 => by
  have kk : ∀ es c' p vs H', P es c' → (∀ a o, H1 a = some o → ¬ Ad ρ a → G.bx ≠ some a → H' a = some o) → BoxR G S H' c' → (H1 p = none ∨ Ad ρ p) → H' p = some (.lst vs) → Reps G.K (addS S p) H' es vs → D0.rt (.ref p) H' := fun es c' p vs H' q ex bx hp hl r =>
    k es c' p vs H' q (fun a o h n nb => ex a o (k1 a o h nb) n nb) bx (hp.imp (none_back e1 k1) id) hl r
  cases b with
  | true => exact (q.1 rfl) S σ H1 e1 D0 kk
  | false => exact (q.2 rfl) S σ H1 e1 D0 kk
end
theorem runF {K : Frag} {ps : PF} {t : TS} {N : List Str} {vs : List V} {H : Hp} {Q : VK} {E : XK} {n : Nat} (hn : ∀ ds P, ps ds P → ds.length = n) (hN : n ≤ N.length) (h : ∀ ds P, ps ds P → SF ⟨K, none⟩ t (env0 N.length ds) 0 (fun es _ => P es)) (hs : spF K ps vs H Q E) :
    t { nx := fun _ H' => Q .non H', rt := Q } (L2.start N vs) H := by
  obtain ⟨S, ds, P, hd, r, hp, hq⟩ := hs
  have sw := h ds P hp
  have hl : ds.length ≤ N.length := by rw [hn ds P hp]; exact hN
  have hA : ∀ a, ¬ Ad (env0 N.length ds) a := fun a ⟨i, s, h, ha⟩ => by
    have hm := List.mem_of_getElem? h
    rcases List.mem_append.mp hm with q | q
    · rw [vals_own s q] at ha; cases ha
    · have := List.eq_of_mem_replicate q
      subst this; cases ha
  have e : EnvR ⟨K, none⟩ S H (L2.start N vs) (env0 N.length ds) 0 := by
    have := start_env (K := K) (bx := none) (ds := ds) (N := N) (c := 0) hd (fun b z => nomatch z) (sl := ds.map .val) (by rw [List.length_map, r.length]) (by rw [r.length]; exact hl) (vals_slots r) vals_own
    rw [List.length_map] at this; exact this
  exact sw S _ H e _ fun es c' p ws H' q ex bx hp hl rr => hq es q p ws H' (fun a o h => ex a o h (hA a) (fun z => nomatch z)) (hp.resolve_right (hA p)) hl rr
theorem runBF {K : Frag} {ps : PBF} {t : TS} {N : List Str} {vs : List V} {H : Hp} {Q : VK} {E : XK} {n : Nat} (hn : ∀ c ds P, ps c ds P → ds.length + 1 = n) (hN : n ≤ N.length) (h : ∀ b c ds P, ps c ds P → SF ⟨K, some b⟩ t (envB N.length ds) c P) (hs : spBF K ps vs H Q E) :
    t { nx := fun _ H' => Q .non H', rt := Q } (L2.start N vs) H := by
  obtain ⟨S, b, c, ds, ws, P, rfl, hd, bx, r, hp, hq⟩ := hs
  have sw := h b c ds P hp
  have hl : ds.length + 1 ≤ N.length := by rw [hn c ds P hp]; exact hN
  have hA : ∀ a, ¬ Ad (envB N.length ds) a := fun a ⟨i, s, h, ha⟩ => by
    have hm := List.mem_of_getElem? h
    rcases List.mem_append.mp hm with q | q
    · rcases List.mem_cons.mp q with q | q
      · subst q; cases ha
      · rw [vals_own s q] at ha; cases ha
    · have := List.eq_of_mem_replicate q
      subst this; cases ha
  have e : EnvR ⟨K, some b⟩ S H (L2.start N (.ref b :: ws)) (envB N.length ds) c := by
    have := start_env (K := K) (bx := some b) (ds := ds) (N := N) (c := c) (vs := .ref b :: ws) hd bx (sl := .box :: ds.map .val) (by rw [List.length_cons, List.length_cons, List.length_map, r.length]) (by rw [List.length_cons, r.length]; exact hl) (fun i s h => by
      cases i with
      | zero => cases h; exact ⟨b, rfl, rfl⟩
      | succ i => exact vals_slots r i s (by simpa using h)) (fun s hs => by
      rcases List.mem_cons.mp hs with q | q
      · subst q; rfl
      · exact vals_own s q)
    rw [List.length_cons, List.length_map] at this; exact this
  exact sw S _ H e _ fun es c' p zs H' q ex bx hp hl rr => hq es c' q p zs H' (fun a o h n => ex a o h (hA a) n) bx (hp.resolve_right (hA p)) hl rr
theorem lenV {K ps vs H Q E} {n : Nat} (h : ∀ ds P, ps ds P → ds.length = n) (hs : spV K ps vs H Q E) : vs.length = n := by
  obtain ⟨S, ds, P, _, r, hp, _⟩ := hs
  rw [r.length]; exact h ds P hp
theorem lenF {K ps vs H Q E} {n : Nat} (h : ∀ ds P, ps ds P → ds.length = n) (hs : spF K ps vs H Q E) : vs.length = n := by
  obtain ⟨S, ds, P, _, r, hp, _⟩ := hs
  rw [r.length]; exact h ds P hp
theorem lenB {K ps vs H Q E} {n : Nat} (h : ∀ c ds P, ps c ds P → ds.length + 1 = n) (hs : spB K ps vs H Q E) : vs.length = n := by
  obtain ⟨S, b, c, ds, ws, P, rfl, _, _, r, hp, _⟩ := hs
  rw [List.length_cons, r.length]; exact h c ds P hp
theorem lenBF {K ps vs H Q E} {n : Nat} (h : ∀ c ds P, ps c ds P → ds.length + 1 = n) (hs : spBF K ps vs H Q E) : vs.length = n := by
  obtain ⟨S, b, c, ds, ws, P, rfl, _, _, r, hp, _⟩ := hs
  rw [List.length_cons, r.length]; exact h c ds P hp
end Q
namespace Q
open PySem PySem.Spec PyProof.Rows L2

/-! ### several rules in one: what the text's own words ask -/
section
variable {X : Cx}
def uAdd : R2 := fun x y H Q => rI0 (fun i j => .int (i + j)) x y H Q ∨ rAddStr x y H Q ∨ rCat x y H Q
theorem u_add : OpR X (binaryOp .Add) uAdd := op_add.or (op_addStr.or op_cat)
def uAddT (K : Frag) : R2 := fun x y H Q => uAdd x y H Q ∨ rCatA K x y H Q
theorem u_addT : OpR X (binaryOp .Add) (uAddT X.K) := u_add.or op_catA
def uMul : R2 := fun x y H Q => rI CMul (fun i j => .int (i * j)) x y H Q ∨ rRep x y H Q
theorem u_mul : OpR X (binaryOp .Mult) uMul := op_mul.or op_rep
def uEq (K : Frag) : R2 := fun x y H Q => rEq x y H Q ∨ rEqD K x y H Q
theorem u_eq (hu : X.A.units + 64 < cLine) : OpR X (compareOp .Eq) (uEq X.K) := op_eq.or (op_eqD hu)
def uNe (K : Frag) : R2 := fun x y H Q => rNe x y H Q ∨ rNeD K x y H Q
theorem u_ne (hu : X.A.units + 64 < cLine) : OpR X (compareOp .NotEq) (uNe X.K) := op_ne.or (op_neD hu)
theorem u_in : OpR X (compareOp .In) (rIn X.K false) := op_in_seq
theorem u_notin : OpR X (compareOp .NotIn) (rIn X.K true) := op_notIn_seq
def qTru (K : Frag) (ta : TE) : TT := fun σ H Q => ta σ H fun x H' => ∃ k, TruV K x H' k ∧ Q k H'
theorem pt_tru {e : Expr} {ta : TE} (ha : PE X e ta) (he : ∀ whole, isTrue e X.env whole = (do let v ← whole; standAt e.pos; holding [v] (truthy v))) : PT X e (qTru X.K ta) := pt_truth ha he
def uList (K : Frag) : List V → Hp → VK → Prop := fun xs H Q => ∃ p ys, xs = [.ref p] ∧ (SqL K H p ys ∨ SqT K H p ys) ∧ ∀ l, H l = none → Q (.ref l) (upd H l (.lst ys))
theorem u_list : CallR X (.type "list") (uList X.K) := call_list_of
def uTup (K : Frag) : List V → Hp → VK → Prop := fun xs H Q => ∃ p ys, xs = [.ref p] ∧ ((SqL K H p ys ∧ ∀ l, H l = none → Q (.ref l) (upd H l (.tup ys))) ∨ (SqT K H p ys ∧ Q (.ref p) H))
theorem u_tup : CallR X (.type "tuple") (uTup X.K) := call_tuple_of
def uLen (K : Frag) : List V → Hp → VK → Prop := fun xs H Q => ∃ x n, xs = [x] ∧ LenV K x H n ∧ Q (.int n) H
theorem u_len : CallR X (.builtin "len") (uLen X.K) := call_len
def uAbs : List V → Hp → VK → Prop := fun xs H Q => ∃ i, xs = [.int i] ∧ Q (.int (if i < 0 then -i else i)) H
theorem u_abs : CallR X (.builtin "abs") uAbs := call_abs
def uMax2 : List V → Hp → VK → Prop := fun xs H Q => ∃ i j, xs = [.int i, .int j] ∧ Q (.int (if j > i then j else i)) H
theorem u_max2 (hc : X.calm = true) : CallR X (.builtin "max") uMax2 := call_max2 hc
def uMin2 : List V → Hp → VK → Prop := fun xs H Q => ∃ i j, xs = [.int i, .int j] ∧ Q (.int (if j < i then j else i)) H
theorem u_min2 (hc : X.calm = true) : CallR X (.builtin "min") uMin2 := call_min2 hc
def uInt : List V → Hp → VK → Prop := fun xs H Q => (∃ i, xs = [.int i] ∧ Q (.int i) H) ∨ ∃ k, xs = [.bl k] ∧ Q (.int (if k then 1 else 0)) H
theorem u_int : CallR X (.type "int") uInt := call_int1
def uDict (K : Frag) : List V → Hp → VK → Prop := fun xs H Q => ∃ (a : Addr) (ps : List Addr) (kvs : List (Key × V)), xs = [.ref a] ∧ SqL K H a (ps.map V.ref) ∧ Paired (fun p kv => SqT K H p [kV kv.1, kv.2]) ps kvs ∧ ∀ p, H p = none → Q (.ref p) (upd H p (.dK (mergeK [] kvs)))
theorem u_dict (hc : X.calm = true) : CallR X (.type "dict") (uDict X.K) := call_dictP hc
def uSortedD : List V → Hp → VK → Prop := fun xs H Q => ∃ (a : Addr) (kvs : List (Key × V)) (ks : List Str), xs = [.ref a] ∧ Rd H a (.dK kvs) ∧ kvs.map (·.1) = ks.map Sum.inr ∧ ks.length < 64 ∧
    ∀ ys p, ys.Perm ks → sortedS ys = true → H p = none → Q (.ref p) (upd H p (.lst (ys.map V.str)))
theorem u_sortedD (hc : X.calm = true) : CallR X (.builtin "sorted") uSortedD := call_sortedD hc
def uIns : V → List V → Hp → VK → Prop := fun x vs H Q => ∃ (l : Addr) (xs : List V) (i : Int) (y : V), x = .ref l ∧ vs = [.int i, y] ∧ H l = some (.lst xs) ∧ xs.length < sizeLine ∧ 0 ≤ i ∧ i < 2 ^ 63 ∧
    Q .non (upd H l (.lst (xs.take i.toNat ++ [y] ++ xs.drop i.toNat)))
theorem u_insert : MtR X "list.insert" uIns := mt_insert
def uJoin (K : Frag) : V → List V → Hp → VK → Prop := fun x xs H Q => ∃ a p, ∃ ys : List Str, x = .str a ∧ xs = [.ref p] ∧ (SqL K H p (ys.map V.str) ∨ SqT K H p (ys.map V.str)) ∧
      (ys.map (·.length)).sum + ys.length * a.length ≤ 16777216 ∧ Q (.str (Txt.join a ys)) H
theorem u_join {o e : Expr} {to te : TE} {apos pos : Pos} (ho : PE X o to) (he : PE X e te) (hs : starEach [e] X.env = [(false, eval e X.env)] := by rfl) (hbase : attributeBase o "join" X.env (eval o X.env) = eval o X.env := by rfl) (hline : (apos.endLine == pos.line) = true := by rfl) :
    PE X (.Call (.Attribute o "join" apos) [e] [] pos) (tM1 (uJoin X.K) to te) := pe_join ho he hs hbase hline
theorem get_list : PGet X (rIxL X.K) := by
  intro pins s σ H o i ov iv Q I ro ri h
  obtain ⟨p, xs, n, z, rfl, rfl, hq, hz, q⟩ := h
  obtain rfl : ov = Value.ref p := ro
  obtain ⟨tk, rfl⟩ := ri
  obtain ⟨its, rv, pl, hlen⟩ := I.list hq
  obtain ⟨j, e1, e2, e3, e4, e5⟩ := atI_get hz
  obtain ⟨u, eu, ru⟩ := rv.get e2
  have ll := rv.length
  have fit := line63
  by_cases nn : 0 ≤ n
  · have jj : n.toNat = j := by
      rw [seqIndex_of nn e5] at e1
      exact Option.some.inj e1
    exact wpAny_getItem_list pl.isList nn (by omega) (by rw [jj]; simpa using eu) ⟨z, H, I, ru, q⟩
  · have jj : (n + (its.toArray.size : Int)).toNat = j := by
      rw [seqIndex_neg (by omega) e4] at e1
      rw [List.size_toArray, ← ll]
      exact Option.some.inj e1
    exact wpAny_getItem_list_neg pl.isList (by omega) (by rw [List.size_toArray] <;> omega) (by omega) (by rw [jj]; simpa using eu) ⟨z, H, I, ru, q⟩
end
theorem hu64 {A : Around} {k : Nat} (hr : Room k A) : A.units + 64 < cLine := by
  have := hr.units; omega
end Q
namespace Q
open PySem PySem.Spec PyProof.Rows L2

/-! ### data compared -/
mutual
def D.py : D → PyData
  | .non => .none
  | .bl b => .bool b
  | .int i => .int i
  | .str x => .str x
  | .ty _ => .none
  | .lst l => .list (pys l)
  | .tup l => .tuple (pys l)
  | .dic _ _ => .none
  | .scr _ => .none
def pys : List D → List PyData
  | [] => []
  | d :: ds => d.py :: pys ds
end
mutual
def D.plain : D → Bool
  | .non | .bl _ | .int _ | .str _ => true
  | .lst l => plains l
  | .tup l => plains l
  | _ => false
def plains : List D → Bool
  | [] => true
  | d :: ds => d.plain && plains ds
end
mutual
theorem Rep.dp {K : Frag} {S : AS} {H : Hp} : ∀ (d : D) (v : V), d.plain = true → Rep K S H d v → Dp K H v d.py
  | .non, _, _, h => by rw [h.non_inv]; simp only [D.py]; exact .non
  | .bl b, _, _, h => by rw [h.bl_inv]; simp only [D.py]; exact .bl b
  | .int i, _, _, h => by rw [h.int_inv]; simp only [D.py]; exact .int i
  | .str x, _, _, h => by rw [h.str_inv]; simp only [D.py]; exact .str x
  | .ty _, _, p, _ => by simp [D.plain] at p
  | .dic _ _, _, p, _ => by simp [D.plain] at p
  | .scr _, _, p, _ => by simp [D.plain] at p
  | .lst l, _, p, h => by
    obtain ⟨a, vs, rfl, _, ha, r⟩ := h.lst_inv
    simp only [D.py]
    exact .lst (.of ha) (Reps.dp l vs (by simpa only [D.plain] using p) r)
  | .tup l, _, p, h => by
    obtain ⟨a, vs, rfl, ha, r⟩ := h.tup_inv
    simp only [D.py]
    exact .tup ha.sq (Reps.dp l vs (by simpa only [D.plain] using p) r)
theorem Reps.dp {K : Frag} {S : AS} {H : Hp} : ∀ (ds : List D) (vs : List V), plains ds = true → Reps K S H ds vs → DpAll K H vs (pys ds)
  | [], _, _, h => by rw [h.nil_inv]; simp only [pys]; exact .nil
  | d :: ds, _, p, h => by
    obtain ⟨w, ws, rfl, h1, h2⟩ := h.cons_inv
    simp only [plains, Bool.and_eq_true] at p
    simp only [pys]
    exact .cons (Rep.dp d w p.1 h1) (Reps.dp ds ws p.2 h2)
end
/-- what may be compared by ==: no dict, depth at most 64 -/
def D.cmp (d : D) : Bool := d.plain && SeqAt.shaped d.py
theorem pys_map {α : Type} {f : α → D} : ∀ l : List α, pys (l.map f) = l.map fun a => (f a).py
  | [] => by simp [pys]
  | a :: l => by rw [List.map_cons, List.map_cons, pys, pys_map l]
theorem plains_all : ∀ {l : List D}, plains l = l.all D.plain
  | [] => by simp [plains]
  | d :: l => by rw [plains, List.all_cons, plains_all]

section
variable {G : Ctx} {l : Bool} {ρ : Env} {c c1 : Nat} {te ta tb : TE} {tt tu : TT} {tr : TA} {Q Q' : D → Nat → Prop} {QF : List D → Nat → Prop} {d : D} {i j : Nat} {W : DW} {x y : D}
theorem cmp_of {d : D} (h : d.cmp = true) : d.plain = true ∧ SeqAt.shaped d.py = true := by
  unfold D.cmp at h
  simpa only [Bool.and_eq_true] using h
theorem RW2.uEqD (hx : x.cmp = true) (hy : y.cmp = true) (q : Q (.bl (PyData.eqv x.py y.py)) c) : RW2 G l (uEq G.K) x y ρ c Q := fun S σ H e u w ru rw QV kt =>
  .inr ⟨_, _, Rep.dp _ _ (cmp_of hx).1 ru, Rep.dp _ _ (cmp_of hy).1 rw, (cmp_of hx).2, (cmp_of hy).2, kt.ret q e Rep.bl⟩
theorem RW2.uNeD (hx : x.cmp = true) (hy : y.cmp = true) (q : Q (.bl (!PyData.eqv x.py y.py)) c) : RW2 G l (uNe G.K) x y ρ c Q := fun S σ H e u w ru rw QV kt =>
  .inr ⟨_, _, Rep.dp _ _ (cmp_of hx).1 ru, Rep.dp _ _ (cmp_of hy).1 rw, (cmp_of hx).2, (cmp_of hy).2, kt.ret q e Rep.bl⟩
theorem RW2.uEqi {x y : Int} (q : Q (.bl (decide (x = y))) c) : RW2 G l (uEq G.K) (.int x) (.int y) ρ c Q := fun S σ H e u w ru rw QV kt => .inl (RW2.eqi q S σ H e u w ru rw QV kt)
theorem RW2.uEqs {x y : Str} (q : Q (.bl (decide (x = y))) c) : RW2 G l (uEq G.K) (.str x) (.str y) ρ c Q := fun S σ H e u w ru rw QV kt => .inl (RW2.eqs q S σ H e u w ru rw QV kt)
theorem RW2.uEqb {x y : Bool} (q : Q (.bl (decide (x = y))) c) : RW2 G l (uEq G.K) (.bl x) (.bl y) ρ c Q := fun S σ H e u w ru rw QV kt => .inl (RW2.eqb q S σ H e u w ru rw QV kt)
theorem RW2.uNei {x y : Int} (q : Q (.bl (!decide (x = y))) c) : RW2 G l (uNe G.K) (.int x) (.int y) ρ c Q := fun S σ H e u w ru rw QV kt => .inl (RW2.nei q S σ H e u w ru rw QV kt)
theorem RW2.uNes {x y : Str} (q : Q (.bl (!decide (x = y))) c) : RW2 G l (uNe G.K) (.str x) (.str y) ρ c Q := fun S σ H e u w ru rw QV kt => .inl (RW2.nes q S σ H e u w ru rw QV kt)
theorem RW2.uNeb {x y : Bool} (q : Q (.bl (!decide (x = y))) c) : RW2 G l (uNe G.K) (.bl x) (.bl y) ρ c Q := fun S σ H e u w ru rw QV kt => .inl (RW2.neb q S σ H e u w ru rw QV kt)
theorem RW2.uAddi {x y : Int} (q : Q (.int (x + y)) c) : RW2 G l uAdd (.int x) (.int y) ρ c Q := fun S σ H e u w ru rw QV kt => .inl (RW2.ii (f := fun i j => i + j) q S σ H e u w ru rw QV kt)
theorem RW2.uAdds {x y : Str} (hl : x.length + y.length ≤ sizeLine) (q : Q (.str (x ++ y)) c) : RW2 G l uAdd (.str x) (.str y) ρ c Q := fun S σ H e u w ru rw QV kt => .inr (.inl (RW2.adds hl q S σ H e u w ru rw QV kt))
theorem RWF.uAddl {x y : List D} (hl : x.length + y.length ≤ sizeLine) (q : QF (x ++ y) c) : RWF G l uAdd (.lst x) (.lst y) ρ c QF := fun S σ H e u w ru rw QV kt => .inr (.inr (RWF.cat hl q S σ H e u w ru rw QV kt))
theorem RW2.uAddl {x y : List D} (hl : x.length + y.length ≤ sizeLine) (q : Q (.lst (x ++ y)) c) : RW2 G l uAdd (.lst x) (.lst y) ρ c Q := .ofF (RWF.uAddl hl q)
theorem RW2.uMuli {x y : Int} (hc : CMul x y) (q : Q (.int (x * y)) c) : RW2 G l uMul (.int x) (.int y) ρ c Q := fun S σ H e u w ru rw QV kt => .inl (RW2.ci (f := fun i j => i * j) hc q S σ H e u w ru rw QV kt)
theorem RWF.uMull {x : List D} {n : Int} (h1 : -(2 ^ 63) ≤ n) (h2 : n < 2 ^ 63) (hz : x.length * n.toNat ≤ sizeLine) (q : QF (List.replicate n.toNat x).flatten c) : RWF G l uMul (.lst x) (.int n) ρ c QF := fun S σ H e u w ru rw QV kt => .inr (RWF.rep h1 h2 hz q S σ H e u w ru rw QV kt)
theorem RW2.uMull {x : List D} {n : Int} (h1 : -(2 ^ 63) ≤ n) (h2 : n < 2 ^ 63) (hz : x.length * n.toNat ≤ sizeLine) (q : Q (.lst (List.replicate n.toNat x).flatten) c) : RW2 G l uMul (.lst x) (.int n) ρ c Q := .ofF (RWF.uMull h1 h2 hz q)
theorem RW2.uIxL {ds : List D} {n : Int} (h : atI ds n = some d) (q : Q d c) : RW2 G l (rIx G.K) (.lst ds) (.int n) ρ c Q := .ix (.inl (.ixL h q))
theorem RW2.uIxT {ds : List D} {n : Int} (h : atI ds n = some d) (q : Q d c) : RW2 G l (rIx G.K) (.tup ds) (.int n) ρ c Q := .ix (.inr (.inl (.ixT h q)))
theorem RW2.uIxScr {ds : List Int} {n k : Int} (h : atI ds n = some k) (q : Q (.int k) c) : RW2 G l (rIx G.K) (.scr ds) (.int n) ρ c Q := .ix (.inl (.ixScr h q))
theorem RW2.uIxS {z : Str} {n : Int} {k : Nat} (hz : z.length ≤ sizeLine) (h : atI z.cps.toList n = some k) (q : Q (.str ⟨#[k]⟩) c) : RW2 G l (rIx G.K) (.str z) (.int n) ρ c Q := .ix (.inr (.inr (.ixS hz h q)))

/-! ### truth -/
theorem TW.tru {QT : Bool → Nat → Prop} (h : EW G false te ρ c (fun d c' => ∃ b, d = .bl b ∧ QT b c')) : TW G (qTru G.K te) ρ c QT := fun S σ H e QV kt => h S σ H e _ fun d c' v H' q e' ke r => by
  obtain ⟨b, rfl, q⟩ := q
  rw [r.bl_inv]
  exact ⟨b, rfl, kt b c' H' q e' ke⟩

/-! ### built-ins of values -/
theorem reps1 {K S H vs} (r : Reps K S H [d] vs) : ∃ v, vs = [v] ∧ Rep K S H d v := by
  obtain ⟨w, ws, rfl, h1, h2⟩ := r.cons_inv
  rw [h2.nil_inv]; exact ⟨w, rfl, h1⟩
theorem reps2 {K S H vs} (r : Reps K S H [x, y] vs) : ∃ v w, vs = [v, w] ∧ Rep K S H x v ∧ Rep K S H y w := by
  obtain ⟨w, ws, rfl, h1, h2⟩ := r.cons_inv
  obtain ⟨w2, rfl, h3⟩ := reps1 h2
  exact ⟨w, w2, rfl, h1, h3⟩
def lenD : D → Option Nat
  | .lst l => some l.length
  | .tup l => some l.length
  | .scr l => some l.length
  | .str x => if x.length ≤ sizeLine then some x.length else none
  | _ => none
theorem RCW.len {n : Nat} (h : lenD x = some n) (q : Q (.int n) c) : RCW G l (uLen G.K) [x] ρ c Q := fun S σ H e vs r QV kt => by
  obtain ⟨v, rfl, rv⟩ := reps1 r
  refine ⟨v, n, rfl, ?_, kt.ret q e Rep.int⟩
  cases x with
  | lst ds => cases h; obtain ⟨a, ws, rfl, _, ha, rr⟩ := rv.lst_inv; exact .inl ⟨ws, .of ha, rr.length.symm⟩
  | tup ds => cases h; obtain ⟨a, ws, rfl, ha, rr⟩ := rv.tup_inv; exact .inr ⟨ws, ha.sq, rr.length.symm⟩
  | scr ns => cases h; obtain ⟨a, rfl, ha⟩ := rv.scr_inv; exact .inl ⟨_, ha.sq, by rw [List.length_map]⟩
  | str z =>
    rw [rv.str_inv]
    rw [show lenD (.str z) = if z.length ≤ sizeLine then some z.length else none from rfl] at h
    by_cases hz : z.length ≤ sizeLine
    · rw [if_pos hz] at h; cases h; exact ⟨hz, rfl⟩
    · rw [if_neg hz] at h; cases h
  | _ => cases h
theorem RCW.abs {n : Int} (q : Q (.int (if n < 0 then -n else n)) c) : RCW G l uAbs [.int n] ρ c Q := fun S σ H e vs r QV kt => by
  obtain ⟨v, rfl, rv⟩ := reps1 r
  exact ⟨n, by rw [rv.int_inv], kt.ret q e Rep.int⟩
theorem RCW.max2 {m n : Int} (q : Q (.int (if n > m then n else m)) c) : RCW G l uMax2 [.int m, .int n] ρ c Q := fun S σ H e vs r QV kt => by
  obtain ⟨v, w, rfl, r1, r2⟩ := reps2 r
  exact ⟨m, n, by rw [r1.int_inv, r2.int_inv], kt.ret q e Rep.int⟩
theorem RCW.min2 {m n : Int} (q : Q (.int (if n < m then n else m)) c) : RCW G l uMin2 [.int m, .int n] ρ c Q := fun S σ H e vs r QV kt => by
  obtain ⟨v, w, rfl, r1, r2⟩ := reps2 r
  exact ⟨m, n, by rw [r1.int_inv, r2.int_inv], kt.ret q e Rep.int⟩
theorem RCW.inti {n : Int} (q : Q (.int n) c) : RCW G l uInt [.int n] ρ c Q := fun S σ H e vs r QV kt => by
  obtain ⟨v, rfl, rv⟩ := reps1 r
  exact .inl ⟨n, by rw [rv.int_inv], kt.ret q e Rep.int⟩
theorem RCW.intb {b : Bool} (q : Q (.int (if b then 1 else 0)) c) : RCW G l uInt [.bl b] ρ c Q := fun S σ H e vs r QV kt => by
  obtain ⟨v, rfl, rv⟩ := reps1 r
  exact .inr ⟨b, by rw [rv.bl_inv], kt.ret q e Rep.int⟩
theorem lst_ints {K S H a vs} {ns : List Int} (ha : H a = some (.lst vs)) (r : Reps K S H (ns.map .int) vs) : SqL K H a (ns.map V.int) := by
  rw [Reps.ints_inv r] at ha; exact .of ha
theorem lst_bls {K S H a vs} {ns : List Bool} (ha : H a = some (.lst vs)) (r : Reps K S H (ns.map .bl) vs) : SqL K H a (ns.map V.bl) := by
  rw [Reps.bls_inv r] at ha; exact .of ha
theorem lst_strs {K S H a vs} {ns : List Str} (ha : H a = some (.lst vs)) (r : Reps K S H (ns.map .str) vs) : SqL K H a (ns.map V.str) := by
  rw [Reps.strs_inv r] at ha; exact .of ha
theorem RCW.sum {ns : List Int} (q : Q (.int ns.sum) c) : RCW G l (rSum G.K) [.lst (ns.map .int)] ρ c Q := fun S σ H e vs r QV kt => by
  obtain ⟨v, rfl, rv⟩ := reps1 r
  obtain ⟨a, ws, rfl, _, ha, rr⟩ := rv.lst_inv
  exact ⟨a, ns, rfl, lst_ints ha rr, kt.ret q e Rep.int⟩
theorem RCW.max {ns : List Int} (h0 : 0 < ns.length) (q : ∀ m, m ∈ ns → (∀ y ∈ ns, y ≤ m) → Q (.int m) c) : RCW G l (rMax G.K) [.lst (ns.map .int)] ρ c Q := fun S σ H e vs r QV kt => by
  obtain ⟨v, rfl, rv⟩ := reps1 r
  obtain ⟨a, ws, rfl, _, ha, rr⟩ := rv.lst_inv
  exact ⟨a, ns, rfl, lst_ints ha rr, h0, fun m hm hy => kt.ret (q m hm hy) e Rep.int⟩
theorem RCW.min {ns : List Int} (h0 : 0 < ns.length) (q : ∀ m, m ∈ ns → (∀ y ∈ ns, m ≤ y) → Q (.int m) c) : RCW G l (rMin G.K) [.lst (ns.map .int)] ρ c Q := fun S σ H e vs r QV kt => by
  obtain ⟨v, rfl, rv⟩ := reps1 r
  obtain ⟨a, ws, rfl, _, ha, rr⟩ := rv.lst_inv
  exact ⟨a, ns, rfl, lst_ints ha rr, h0, fun m hm hy => kt.ret (q m hm hy) e Rep.int⟩
theorem RCW.all {bs : List Bool} (q : Q (.bl (bs.all id)) c) : RCW G l (rAll G.K) [.lst (bs.map .bl)] ρ c Q := fun S σ H e vs r QV kt => by
  obtain ⟨v, rfl, rv⟩ := reps1 r
  obtain ⟨a, ws, rfl, _, ha, rr⟩ := rv.lst_inv
  exact ⟨a, bs, rfl, lst_bls ha rr, kt.ret q e Rep.bl⟩
theorem RCW.any {bs : List Bool} (q : Q (.bl (bs.any id)) c) : RCW G l (rAny G.K) [.lst (bs.map .bl)] ρ c Q := fun S σ H e vs r QV kt => by
  obtain ⟨v, rfl, rv⟩ := reps1 r
  obtain ⟨a, ws, rfl, _, ha, rr⟩ := rv.lst_inv
  exact ⟨a, bs, rfl, lst_bls ha rr, kt.ret q e Rep.bl⟩
theorem RCF.list {ds : List D} (h : x = .lst ds ∨ x = .tup ds) (q : QF ds c) : RCF G l (uList G.K) [x] ρ c QF := fun S σ H e vs r QV kt => by
  obtain ⟨v, rfl, rv⟩ := reps1 r
  rcases h with rfl | rfl
  · obtain ⟨a, ws, rfl, _, ha, rr⟩ := rv.lst_inv
    refine ⟨a, ws, rfl, .inl (.of ha), fun p hp => ?_⟩
    obtain ⟨e', k', h', r'⟩ := new_cell e hp rr
    exact kt ds c p _ _ q e' k' hp h' r'
  · obtain ⟨a, ws, rfl, ha, rr⟩ := rv.tup_inv
    refine ⟨a, ws, rfl, .inr ha.sq, fun p hp => ?_⟩
    obtain ⟨e', k', h', r'⟩ := new_cell e hp rr
    exact kt ds c p _ _ q e' k' hp h' r'
theorem RCW.tuple {ds : List D} (h : x = .lst ds ∨ x = .tup ds) (q : Q (.tup ds) c) : RCW G l (uTup G.K) [x] ρ c Q := fun S σ H e vs r QV kt => by
  obtain ⟨v, rfl, rv⟩ := reps1 r
  rcases h with rfl | rfl
  · obtain ⟨a, ws, rfl, _, ha, rr⟩ := rv.lst_inv
    refine ⟨a, ws, rfl, .inl ⟨.of ha, fun p hp => ?_⟩⟩
    exact kt (.tup ds) c _ _ q (e.new hp) (KeepE.new hp) (Rep.tup (.inl ⟨fun z => e.sxH p z hp, .inl upd_same⟩) (Reps.mv (mv_upd hp) _ _ rr))
  · obtain ⟨a, ws, rfl, ha, rr⟩ := rv.tup_inv
    exact ⟨a, ws, rfl, .inr ⟨ha.sq, kt.ret q e (Rep.tup ha rr)⟩⟩
theorem RCF.sortedI {ns : List Int} (q : ∀ ms : List Int, ms.Perm ns → ms.Pairwise (· ≤ ·) → QF (ms.map .int) c) : RCF G l (rSortedI G.K) [.lst (ns.map .int)] ρ c QF := fun S σ H e vs r QV kt => by
  obtain ⟨v, rfl, rv⟩ := reps1 r
  obtain ⟨a, ws, rfl, _, ha, rr⟩ := rv.lst_inv
  refine ⟨a, ns, rfl, lst_ints ha rr, fun ms p h1 h2 hp => ?_⟩
  obtain ⟨e', k', h', r'⟩ := new_cell (l := l) e hp (ds := ms.map .int) (vs := ms.map V.int) Reps.ints
  exact kt _ c p _ _ (q ms h1 h2) e' k' hp h' r'
theorem RCF.sortedS {ns : List Str} (h64 : ns.length < 64) (q : ∀ ms : List Str, ms.Perm ns → PyProof.Rows.sortedS ms = true → QF (ms.map .str) c) : RCF G l (rSortedS G.K) [.lst (ns.map .str)] ρ c QF := fun S σ H e vs r QV kt => by
  obtain ⟨v, rfl, rv⟩ := reps1 r
  obtain ⟨a, ws, rfl, _, ha, rr⟩ := rv.lst_inv
  refine ⟨a, ns, rfl, lst_strs ha rr, h64, fun ms p h1 h2 hp => ?_⟩
  obtain ⟨e', k', h', r'⟩ := new_cell (l := l) e hp (ds := ms.map .str) (vs := ms.map V.str) Reps.strs
  exact kt _ c p _ _ (q ms h1 h2) e' k' hp h' r'
def uSorted (K : Frag) : List V → Hp → VK → Prop := fun vs H Q => rSortedI K vs H Q ∨ rSortedS K vs H Q ∨ uSortedD vs H Q
theorem u_sorted {X : Cx} (hc : X.calm = true) : CallR X (.builtin "sorted") (uSorted X.K) := cr_sortedI.or (cr_sortedS.or (u_sortedD hc))
theorem RCF.uSortedi {ns : List Int} (q : ∀ ms : List Int, ms.Perm ns → ms.Pairwise (· ≤ ·) → QF (ms.map .int) c) : RCF G l (uSorted G.K) [.lst (ns.map .int)] ρ c QF := fun S σ H e vs r QV kt => .inl (RCF.sortedI q S σ H e vs r QV kt)
theorem RCF.uSorteds {ns : List Str} (h64 : ns.length < 64) (q : ∀ ms : List Str, ms.Perm ns → PyProof.Rows.sortedS ms = true → QF (ms.map .str) c) : RCF G l (uSorted G.K) [.lst (ns.map .str)] ρ c QF := fun S σ H e vs r QV kt => .inr (.inl (RCF.sortedS h64 q S σ H e vs r QV kt))
theorem RCF.uSortedd {ks : List Str} {ds : List D} (h64 : ks.length < 64) (q : ∀ ms : List Str, ms.Perm ks → PyProof.Rows.sortedS ms = true → QF (ms.map .str) c) : RCF G l (uSorted G.K) [.dic (ks.map Sum.inr) ds] ρ c QF := fun S σ H e vs r QV kt => .inr (.inr (by
  obtain ⟨v, rfl, rv⟩ := reps1 r
  obtain ⟨a, kvs, rfl, ⟨_, ha⟩, hk, rr⟩ := rv.dic_inv
  refine ⟨a, kvs, ks, rfl, ha, hk, h64, fun ms p h1 h2 hp => ?_⟩
  obtain ⟨e', k', h', r'⟩ := new_cell (l := l) e hp (ds := ms.map .str) (vs := ms.map V.str) Reps.strs
  exact kt _ c p _ _ (q ms h1 h2) e' k' hp h' r'))

/-! ### isinstance -/
def tyD : D → String
  | .non => "NoneType" | .bl _ => "bool" | .int _ => "int" | .str _ => "str" | .ty _ => "type" | .lst _ => "list" | .tup _ => "tuple" | .dic _ _ => "dict" | .scr _ => "list"
theorem Rep.tyx {K S H} : ∀ {d : D} {v : V}, (∀ n, d ≠ .ty n) → (∀ n, d ≠ .scr n) → Rep K S H d v → TyX K H v (.type (tyD d))
  | .non, _, _, _, h => by rw [h.non_inv]; exact .base .non
  | .bl b, _, _, _, h => by rw [h.bl_inv]; exact .base (.bl b)
  | .int i, _, _, _, h => by rw [h.int_inv]; exact .base (.int i)
  | .str x, _, _, _, h => by rw [h.str_inv]; exact .base (.str x)
  | .ty n, _, h, _, _ => absurd rfl (h n)
  | .scr n, _, _, h, _ => absurd rfl (h n)
  | .lst l, _, _, _, h => by obtain ⟨a, vs, rfl, _, ha, _⟩ := h.lst_inv; exact .base (.lst ha)
  | .tup l, _, _, _, h => by
    obtain ⟨a, vs, rfl, ha, _⟩ := h.tup_inv
    rcases ha.sq (H := H) with (ha | ⟨o, ha⟩) | ⟨o, its, n, hk, hc, _⟩
    · exact .base (.tup ha)
    · exact .fTuple ha
    · exact .kTuple hk hc
  | .dic ks l, _, _, _, h => by
    obtain ⟨a, kvs, rfl, ⟨_, ha⟩, _⟩ := h.dic_inv
    rcases ha with ha | ⟨o, ha⟩
    · exact .base (.dK ha)
    · exact .fDict ha
def isB (a b : String) : Bool := (kitB a b).getD false
theorem RCW.isi {n : String} (h1 : ∀ n, x ≠ .ty n) (h2 : ∀ n, x ≠ .scr n) {b : Bool} (hb : kitB (tyD x) n = some b) (q : Q (.bl b) c) : RCW G l (rIsi G.K) [x, .ty n] ρ c Q := fun S σ H e vs r QV kt => by
  obtain ⟨v, w, rfl, r1, r2⟩ := reps2 r
  exact ⟨v, w, _, _, b, rfl, by rw [r2.ty_inv]; exact .ty n, r1.tyx h1 h2, kit_ty hb, kt.ret q e Rep.bl⟩
theorem TQ.fresh_of {K S H a vs} (h : TQ K S H a vs) : SqT K H a vs := h.sq
end
end Q
namespace Q
open PySem PySem.Spec PyProof.Rows L2
section
variable {G : Ctx} {l : Bool} {ρ : Env} {c c1 : Nat} {te ta tb : TE} {tt tu : TT} {tr : TA} {Q Q' : D → Nat → Prop} {QF : List D → Nat → Prop} {d : D} {i j : Nat} {W : DW} {x y : D} {wi : TI} {g : TG} {vs : List Nat}
/-- [h(a) for a in as if p(a)]: nothing is drawn -/
theorem EF.lcFil {α β : Type} (as : List α) (k : α → D) (p : α → Bool) (h : α → β) (mk : β → D) (hw : (vs.all fun v => ownsNo (ρ.getD v .no)) = true)
    (H : IW true G wi ρ c (fun ds c1 => ds = as.map k ∧ as.length ≤ sizeLine ∧ (∀ a ∈ as, GW G g vs (k a) (wipeE ρ vs) fun ρ2 => wipeE ρ2 vs = wipeE ρ vs ∧ TW G tt ρ2 c1 (fun b c3 => b = p a ∧ c3 = c1 ∧ (b = true → EW G l te ρ2 c1 (fun y c4 => y = mk (h a) ∧ c4 = c1)))) ∧ QF (((as.filter p).map h).map mk) c1)) :
    EF G l (tLc wi g tt te vs) ρ c QF := by
  refine EF.lc hw fun S σ H0 e R k0 => H S σ H0 e R fun ds c' J H' q e' ke it => k0 ds c' J H' ?_ e' ke it
  obtain ⟨rfl, hl, hs, hq⟩ := q
  refine ⟨fun i acc c2 => acc = (((as.take i).filter p).map h).map mk ∧ c2 = c', ⟨by simp, rfl⟩, ?_, ?_⟩
  · rintro i d acc c2 hd ⟨rfl, rfl⟩
    rw [List.getElem?_map] at hd
    cases ea : as[i]? with
    | none => rw [ea] at hd; cases hd
    | some a =>
      rw [ea] at hd
      cases hd
      have hmem : a ∈ as := List.mem_of_getElem? ea
      have ht : as.take (i + 1) = as.take i ++ [a] := by rw [List.take_add_one, ea]; rfl
      have hlen : ((((as.take i).filter p).map h).map mk).length < sizeLine := by
        rw [List.length_map, List.length_map]
        have h1 := List.length_filter_le p (as.take i)
        have h2 : (as.take i).length ≤ i := by rw [List.length_take]; exact Nat.min_le_left _ _
        have h3 : i < as.length := (List.getElem?_eq_some_iff.mp ea).1
        omega
      intro S σ H0 c v e r R hR
      refine hs a hmem S σ H0 c v e r R fun ρ' σ' q e' k' s' => hR ρ' σ' ⟨q.1, q.2.mono fun b c3 qb => ?_⟩ e' k' s'
      obtain ⟨rfl, rfl, qe⟩ := qb
      refine ⟨fun hb => (qe hb).mono fun y c4 qy => ⟨hlen, ?_, qy.2⟩, fun hb => ⟨?_, rfl⟩⟩
      · rw [qy.1, ht, List.filter_append, List.filter_cons, if_pos hb, List.filter_nil, List.map_append, List.map_append]; rfl
      · rw [ht, List.filter_append, List.filter_cons, if_neg (by rw [hb]; decide), List.filter_nil, List.append_nil]
  · rintro acc c2 ⟨rfl, rfl⟩
    rw [List.length_map, List.take_length]
    exact hq
/-- .. without if -/
theorem EF.lcMap {α β : Type} (as : List α) (k : α → D) (h : α → β) (mk : β → D) (hw : (vs.all fun v => ownsNo (ρ.getD v .no)) = true)
    (H : IW true G wi ρ c (fun ds c1 => ds = as.map k ∧ as.length ≤ sizeLine ∧ (∀ a ∈ as, GW G g vs (k a) (wipeE ρ vs) fun ρ2 => wipeE ρ2 vs = wipeE ρ vs ∧ EW G l te ρ2 c1 (fun y c4 => y = mk (h a) ∧ c4 = c1)) ∧ QF ((as.map h).map mk) c1)) :
    EF G l (tLc wi g tYes te vs) ρ c QF := by
  refine EF.lcFil as k (fun _ => true) h mk hw fun S σ H0 e R k0 => H S σ H0 e R fun ds c' J H' q e' ke it => k0 ds c' J H' ?_ e' ke it
  obtain ⟨h1, h2, h3, h4⟩ := q
  refine ⟨h1, h2, fun a ha S σ H0 c v e r R hR => h3 a ha S σ H0 c v e r R fun ρ' σ' q e' k' s' => hR ρ' σ' ⟨q.1, TW.yes ⟨rfl, rfl, fun _ => q.2⟩⟩ e' k' s', ?_⟩
  have : as.filter (fun _ => true) = as := List.filter_eq_self.mpr fun _ _ => rfl
  rw [this]; exact h4
/-- where something is drawn: each item is as φ says, and so many draws at most -/
theorem EF.lcDraw (φ : D → D → Prop) (n : Nat) (hw : (vs.all fun v => ownsNo (ρ.getD v .no)) = true)
    (H : IW true G wi ρ c (fun ds c1 => ds.length ≤ sizeLine ∧ (∀ i d c2, ds[i]? = some d → c2 ≤ c1 + n * i → GW G g vs d (wipeE ρ vs) fun ρ2 => wipeE ρ2 vs = wipeE ρ vs ∧ EW G l te ρ2 c2 (fun y c4 => φ d y ∧ c4 ≤ c2 + n)) ∧ ∀ ys c2, Paired φ ds ys → c2 ≤ c1 + n * ds.length → QF ys c2)) :
    EF G l (tLc wi g tYes te vs) ρ c QF := by
  refine EF.lc hw fun S σ H0 e R k0 => H S σ H0 e R fun ds c' J H' q e' ke it => k0 ds c' J H' ?_ e' ke it
  obtain ⟨hl, hs, hq⟩ := q
  refine ⟨fun i acc c2 => Paired φ (ds.take i) acc ∧ c2 ≤ c' + n * i, ⟨by simpa using .nil, by omega⟩, ?_, ?_⟩
  · rintro i d acc c2 hd ⟨pa, hc⟩
    have hlt : i < ds.length := (List.getElem?_eq_some_iff.mp hd).1
    have ht : ds.take (i + 1) = ds.take i ++ [d] := by rw [List.take_add_one, hd]; rfl
    have hal : acc.length ≤ i := by
      have := Paired.length pa
      rw [List.length_take] at this
      omega
    intro S σ H0 c v e r R hR
    refine hs i d c2 hd hc S σ H0 c v e r R fun ρ' σ' q e' k' s' => hR ρ' σ' ⟨q.1, TW.yes ⟨fun _ => q.2.mono fun y c4 qy => ⟨by omega, ?_, ?_⟩, fun h => nomatch h⟩⟩ e' k' s'
    · rw [ht]; exact Paired.snoc pa qy.1
    · have := qy.2
      have e1 : n * (i + 1) = n * i + n := Nat.mul_succ n i
      omega
  · rintro acc c2 ⟨pa, hc⟩
    rw [List.take_length] at pa
    exact hq acc c2 pa hc
end
theorem le1000 {n : Nat} (h : n ≤ 1000) : n ≤ sizeLine := Nat.le_of_lt (small1000 h)
end Q
namespace Q
open PySem PySem.Spec PyProof.Rows L2
section
variable {G : Ctx} {l : Bool} {ρ : Env} {c c1 : Nat} {te ta tb : TE} {tt tu : TT} {tr : TA} {t u : TS} {Q Q' : D → Nat → Prop} {QF : List D → Nat → Prop} {d : D} {i j : Nat} {W : DW} {x y : D}

/-! ### slices -/
def OW (G : Ctx) (to : TO) (ρ : Env) (c : Nat) (Q : Option Int → Nat → Prop) : Prop :=
  ∀ S σ H, EnvR G S H σ ρ c → ∀ QV : Option Int → Hp → Prop, (∀ o c' H', Q o c' → EnvR G S H' σ ρ c' → KeepE G H H' → QV o H') → to σ H QV
theorem OW.none {QO : Option Int → Nat → Prop} (q : QO Option.none c) : OW G tNoPart ρ c QO := fun S σ H e QV kt => kt _ c H q e KeepE.refl
theorem OW.some {QO : Option Int → Nat → Prop} (h : EW G false te ρ c (fun d c1 => ∃ n, d = .int n ∧ QO (Option.some n) c1)) : OW G (tPart te) ρ c QO := fun S σ H e QV kt => h S σ H e _ fun d c1 v H1 q e1 k1 r => by
  obtain ⟨n, rfl, q⟩ := q
  exact ⟨n, r.int_inv, kt _ c1 H1 q e1 k1⟩
def cutD {α : Type} (xs : List α) (lo hi : Option Int) : List α := (xs.drop (HT.sIx xs.length 0 lo)).take (HT.sIx xs.length xs.length hi - HT.sIx xs.length 0 lo)
theorem Reps.cut {K S H} {ds : List D} {vs : List V} (r : Reps K S H ds vs) (lo hi : Option Int) : Reps K S H (cutD ds lo hi) (cutV vs lo hi) := by
  unfold cutD cutV
  rw [r.length]
  exact (r.drop _).take _
theorem EF.slice {to1 to2 : TO} (h : EW G l te ρ c (fun d c1 => OW G to1 ρ c1 (fun lo c2 => OW G to2 ρ c2 (fun hi c3 => ∃ ds, (d = .lst ds ∨ ∃ ns : List Int, d = .scr ns ∧ ds = ns.map .int) ∧ QF (cutD ds lo hi) c3)))) : EF G l (tSl (rSlL G.K) te to1 to2) ρ c QF := fun S σ H e QV kt =>
  h S σ H e _ fun d c1 v H1 q1 e1 k1 r1 => q1 S σ H1 e1 _ fun lo c2 H2 q2 e2 k2 => q2 S σ H2 e2 _ fun hi c3 H3 q3 e3 k3 => by
    obtain ⟨ds, hd, q⟩ := q3
    have r3 := Rep.mv (e1.mvE (l := l) (k2.trans k3)) _ _ r1
    have kk := (k1.trans k2).trans k3
    rcases hd with rfl | ⟨ns, rfl, rfl⟩
    · obtain ⟨a, vs, rfl, _, ha, rr⟩ := r3.lst_inv
      refine ⟨a, vs, rfl, .of ha, fun p hp => ?_⟩
      obtain ⟨e', k', h', r'⟩ := new_cell e3 hp (rr.cut lo hi)
      exact kt _ c3 p _ _ q e' (kk.trans k') (none_back e3 kk hp) h' r'
    · obtain ⟨a, rfl, ha⟩ := r3.scr_inv
      refine ⟨a, _, rfl, ha.sq, fun p hp => ?_⟩
      obtain ⟨e', k', h', r'⟩ := new_cell e3 hp (Reps.cut (K := G.K) (S := Sx S ρ l) (H := H3) (Reps.ints (ns := ns)) lo hi)
      exact kt _ c3 p _ _ q e' (kk.trans k') (none_back e3 kk hp) h' r'
theorem EF.rev (h : EW G l te ρ c (fun d c1 => ∃ ds, d = .lst ds ∧ QF ds.reverse c1)) : EF G l (tRevL G.K te) ρ c QF := fun S σ H e QV kt => h S σ H e _ fun d c1 v H1 q1 e1 k1 r1 => by
  obtain ⟨ds, rfl, q⟩ := q1
  obtain ⟨a, vs, rfl, _, ha, rr⟩ := r1.lst_inv
  refine ⟨a, vs, rfl, .of ha, fun p hp => ?_⟩
  obtain ⟨e', k', h', r'⟩ := new_cell e1 hp rr.reverse
  exact kt _ c1 p _ _ q e' (k1.trans k') (none_back e1 k1 hp) h' r'

/-! ### the box -/
theorem EW.box0 (hi : ρ[i]? = some .box) (q : ∀ n, Q (.int n) c) : EW G l (tOp (rIx G.K) (tVar i) (tC (.int 0))) ρ c Q := fun S σ H e QV kt => by
  obtain ⟨b, hb, hs⟩ := slot_box e hi
  obtain ⟨_, m, j, hh, _⟩ := e.box b hb
  exact ⟨_, hs, .inl ⟨b, _, 0, .int m, rfl, rfl, .of hh, atI_nat (j := 0) rfl, kt.ret (q m) e Rep.int⟩⟩
theorem EW.box1 (hi : ρ[i]? = some .box) (q : ∀ n : Int, 0 ≤ n → n < 2 ^ 50 → Q (.int n) c) : EW G l (tOp (rIx G.K) (tVar i) (tC (.int 1))) ρ c Q := fun S σ H e QV kt => by
  obtain ⟨b, hb, hs⟩ := slot_box e hi
  obtain ⟨_, m, j, hh, h1, h2⟩ := e.box b hb
  exact ⟨_, hs, .inl ⟨b, _, 1, .int j, rfl, rfl, .of hh, atI_nat (j := 1) rfl, kt.ret (q j h1 h2) e Rep.int⟩⟩
theorem EW.box2 (hi : ρ[i]? = some .box) (q : Q (.int c) c) : EW G l (tOp (rIx G.K) (tVar i) (tC (.int 2))) ρ c Q := fun S σ H e QV kt => by
  obtain ⟨b, hb, hs⟩ := slot_box e hi
  obtain ⟨_, m, j, hh, h1, h2⟩ := e.box b hb
  exact ⟨_, hs, .inl ⟨b, _, 2, .int c, rfl, rfl, .of hh, atI_nat (j := 2) rfl, kt.ret q e Rep.int⟩⟩
theorem box_write {S H σ b} {n m : Int} {c' : Nat} (e : EnvR G S H σ ρ c) (hb : G.bx = some b) (h1 : 0 ≤ m) (h2 : m < 2 ^ 50) : EnvR G S (upd H b (.lst [.int n, .int m, .int c'])) σ ρ c' ∧ KeepE G H (upd H b (.lst [.int n, .int m, .int c'])) := by
  have k : KeepE G H (upd H b (.lst [.int n, .int m, .int c'])) := fun a o h nb => by rw [upd_ne fun z => nb (by rw [hb, z])]; exact h
  refine ⟨e.keepE k fun b' h => ?_, k⟩
  rw [hb] at h; cases h
  exact ⟨(e.box b hb).1, n, m, upd_same, h1, h2⟩
theorem SW.box0 (hi : ρ[i]? = some .box) (h : EW G true te ρ c (fun d c1 => ∃ n, d = .int n ∧ W.nx ρ c1)) : SW G (tAsg te (gSub (tVar i) (tC (.int 0)) rSetL)) ρ c W := fun S σ H e D0 g => h S σ H e _ fun d c1 v H1 q1 e1 k1 r1 => by
  obtain ⟨n, rfl, q⟩ := q1
  obtain ⟨b, hb, hs⟩ := slot_box e1 hi
  obtain ⟨_, m, j, hh, h1, h2⟩ := e1.box b hb
  obtain ⟨e2, k2⟩ := box_write (n := n) (m := j) (c' := c1) e1 hb h1 h2
  refine ⟨_, hs, b, _, 0, 0, rfl, rfl, hh, rfl, ?_⟩
  rw [r1.int_inv]
  exact g.nx ρ c1 σ _ q e2 (k1.trans k2).keep
theorem SW.box2 (hi : ρ[i]? = some .box) (h : EW G true te ρ c (fun d c1 => ∃ n : Nat, d = .int n ∧ W.nx ρ n)) : SW G (tAsg te (gSub (tVar i) (tC (.int 2)) rSetL)) ρ c W := fun S σ H e D0 g => h S σ H e _ fun d c1 v H1 q1 e1 k1 r1 => by
  obtain ⟨n, rfl, q⟩ := q1
  obtain ⟨b, hb, hs⟩ := slot_box e1 hi
  obtain ⟨_, m, j, hh, h1, h2⟩ := e1.box b hb
  obtain ⟨e2, k2⟩ := box_write (n := m) (m := j) (c' := n) e1 hb h1 h2
  refine ⟨_, hs, b, _, 2, 2, rfl, rfl, hh, rfl, ?_⟩
  rw [r1.int_inv]
  exact g.nx ρ n σ _ q e2 (k1.trans k2).keep
/-- a new box: from here on it is THE box -/
theorem EnvR.mkBox {K S H σ p c0} {n m : Int} (e : EnvR ⟨K, none⟩ (addS S p) H σ ρ c0) (hp : H p = some (.lst [.int n, .int m, .int 0])) (h1 : 0 ≤ m) (h2 : m < 2 ^ 50) : EnvR ⟨K, some p⟩ (addS S p) H (σ.set i (some (.ref p))) (ρ.set i .box) 0 := by
  have e1 : EnvR ⟨K, some p⟩ (addS S p) H σ ρ 0 := by
    refine ⟨e.len, fun j s h => ?_, e.nd, e.sep, e.out, e.dom, fun b hb => ?_⟩
    · have q := e.sl j s h
      cases s with
      | no => trivial
      | val d => exact q
      | own p' w => exact q
      | box => obtain ⟨b, hb, _⟩ := q; cases hb
    · cases hb
      exact ⟨.inr rfl, n, m, hp, h1, h2⟩
  exact e1.setN (s := .box) rfl ⟨p, rfl, rfl⟩
theorem EnvR.dropBox {K S H σ p c0} (e : EnvR ⟨K, some p⟩ (addS S p) H σ ρ c0) (hbx : ∀ j, j ≠ i → ρ[j]? ≠ some .box) : EnvR ⟨K, none⟩ S H σ (ρ.set i .no) 0 := by
  have e1 := e.setN (i := i) (s := .no) (o := σ.getD i none) rfl trivial
  have es : σ.set i (σ.getD i none) = σ := by
    apply List.ext_getElem?
    intro k
    by_cases hk : i = k
    · subst hk
      by_cases hl : i < σ.length
      · rw [List.getElem?_set_self hl, List.getD_eq_getElem?_getD, List.getElem?_eq_getElem hl]; rfl
      · rw [List.getElem?_eq_none (by simpa using hl), List.getElem?_eq_none (by simpa using hl)]
    · rw [List.getElem?_set_ne hk]
  rw [es] at e1
  have e2 : EnvR ⟨K, none⟩ (addS S p) H σ (ρ.set i .no) 0 := by
    refine ⟨e1.len, fun j s h => ?_, e1.nd, e1.sep, e1.out, e1.dom, fun b hb => nomatch hb⟩
    have q := e1.sl j s h
    cases s with
    | no => trivial
    | val d => exact q
    | own p' w => exact q
    | box =>
      rcases set_inv h with ⟨_, h, _⟩ | ⟨hn, h⟩
      · cases h
      · exact absurd h (hbx j fun z => hn z.symm)
  exact e2.open_ fun b hb => nomatch hb
theorem SW.newBox {K : Frag} (h : EF ⟨K, none⟩ true te ρ c (fun ds c1 => ∃ n m : Int, ds = [.int n, .int m, .int 0] ∧ 0 ≤ m ∧ m < 2 ^ 50 ∧ ∀ p, SW ⟨K, some p⟩ u (ρ.set i .box) 0
      { nx := fun ρ' _ => (∀ j, j ≠ i → ρ'[j]? ≠ some .box) ∧ W.nx (ρ'.set i .no) 0, rt := fun d _ => W.rt d 0, bk := fun ρ' _ => (∀ j, j ≠ i → ρ'[j]? ≠ some .box) ∧ W.bk (ρ'.set i .no) 0, ct := fun ρ' _ => (∀ j, j ≠ i → ρ'[j]? ≠ some .box) ∧ W.ct (ρ'.set i .no) 0 })) :
    SW ⟨K, none⟩ (tSeq (tAsg te (gName i)) u) ρ c W := fun S σ H e D0 g => h S σ H e _ fun ds c1 p vs H1 q1 e1 k1 hp hl r1 => by
  obtain ⟨n, m, rfl, h1, h2, q⟩ := q1
  have hv : vs = [.int n, .int m, .int 0] := Reps.ints_inv (ns := [n, m, 0]) r1
  subst hv
  have hH : ∀ a, H a = none → H1 a ≠ none → a ≠ p → True := fun _ _ _ _ => trivial
  have conv : ∀ {ρ' H'}, Keep ⟨K, some p⟩ (ρ.set i .box) ρ' H1 H' → Keep ⟨K, none⟩ ρ (ρ'.set i .no) H H' := fun {ρ' H'} k => by
    have ad : ∀ a, Ad (ρ.set i .box) a → Ad ρ a := fun a ⟨j, t, h, ha⟩ => by
      rcases set_inv h with ⟨_, rfl, _⟩ | ⟨_, h⟩
      · cases ha
      · exact ⟨j, t, h, ha⟩
    have ad2 : ∀ a, Ad (ρ'.set i .no) a → Ad ρ' a := fun a ⟨j, t, h, ha⟩ => by
      rcases set_inv h with ⟨_, rfl, _⟩ | ⟨_, h⟩
      · cases ha
      · exact ⟨j, t, h, ha⟩
    refine ⟨fun a o h n _ => k.1 a o (k1 a o h fun z => nomatch z) (fun z => n (ad a z)) fun z => ?_, fun a h => ?_⟩
    · cases z
      rw [hp] at h; cases h
    · rcases k.2 a (ad2 a h) with z | z
      · exact .inl (ad a z)
      · refine .inr ?_
        cases zz : H a with
        | none => rfl
        | some o => rw [k1 a o zz (fun z => nomatch z)] at z; cases z
  refine q p (addS S p) _ H1 (e1.mkBox hl h1 h2) D0 ⟨fun ρ' c' σ' H' hq e' k => ?_, fun d c' ρ' σ' v H' hq e' k r => ?_, fun ρ' c' σ' H' hq e' k => ?_, fun ρ' c' σ' H' hq e' k => ?_⟩
  · exact g.nx _ 0 σ' H' hq.2 (e'.dropBox hq.1) (conv k)
  · -- a value handed back: told of the slots without the box
    have e3 : EnvR ⟨K, none⟩ S H' (σ'.map fun _ => none) (ρ'.map fun _ => Slot.no) 0 := by
      refine ⟨by rw [List.length_map, List.length_map]; exact e'.len, fun j s h => ?_, fun j s h => ?_, fun j k' s t a hj _ ha _ => ?_, fun a ⟨j, s, h, ha⟩ => ?_, fun a h => e'.dom a (.inl h), fun b hb => nomatch hb⟩
      all_goals
        first
          | (rw [List.getElem?_map] at h
             cases hx : ρ'[j]? with
             | none => rw [hx] at h; cases h
             | some s' => rw [hx] at h; cases h; first | trivial | exact List.nodup_nil | cases ha)
          | (rw [List.getElem?_map] at hj
             cases hx : ρ'[j]? with
             | none => rw [hx] at hj; cases hj
             | some s' => rw [hx] at hj; cases hj; cases ha)
    have nA : ∀ a, ¬ Ad (ρ'.map fun _ => Slot.no) a := fun a ⟨j, s, h, ha⟩ => by
      rw [List.getElem?_map] at h
      cases hx : ρ'[j]? with
      | none => rw [hx] at h; cases h
      | some s' => rw [hx] at h; cases h; cases ha
    refine g.rt d 0 _ _ v H' hq e3 ⟨(conv k).1, fun a h => absurd h (nA a)⟩ (Rep.mv (mv_sub fun a z => ?_) _ _ r)
    rcases z with z | ⟨_, z⟩
    · exact .inl (.inl z)
    · exact absurd z (nA a)
  · exact g.bk _ 0 σ' H' hq.2 (e'.dropBox hq.1) (conv k)
  · exact g.ct _ 0 σ' H' hq.2 (e'.dropBox hq.1) (conv k)

/-! ### what is owned: more -/
theorem SW.ext (h : ∃ p ds, ρ[i]? = some (.own p (.lst ds)) ∧ EW G true te ρ c (fun d c1 => ∃ es, d = .lst es ∧ ds.length + es.length ≤ sizeLine ∧ W.nx (ρ.set i (.own p (.lst (ds ++ es)))) c1)) : SW G (tDrop (tBM G.K "list" rExtend (tVar i) (tCons te tNil))) ρ c W := fun S σ H e D0 g => by
  obtain ⟨p, ds, hi, h⟩ := h
  obtain ⟨_, vs0, h0, _⟩ := e.sl i _ hi
  refine ⟨_, slot_ref e hi, .inl ⟨rfl, _, .of h0⟩, h S σ H e _ fun d c' v H' q e' k r => ?_⟩
  obtain ⟨es, rfl, hz, q⟩ := q
  obtain ⟨_, vs, h1, h2⟩ := e'.sl i _ hi
  obtain ⟨b, ws, rfl, _, hb, rr⟩ := r.lst_inv
  obtain ⟨e2, k2⟩ := own_write (ws := vs ++ ws) e' hi (h2.append rr)
  exact ⟨p, b, vs, ws, rfl, rfl, h1, hb, by rw [h2.length, rr.length]; exact hz, g.nx _ c' σ _ q e2 (k.keep.trans k2 e'.bxH)⟩
theorem SW.ins (h : ∃ p ds, ρ[i]? = some (.own p (.lst ds)) ∧ ds.length < sizeLine ∧ EW G true ta ρ c (fun y c1 => ∃ n : Int, y = .int n ∧ 0 ≤ n ∧ n < 2 ^ 63 ∧ EW G true te ρ c1 (fun d c2 => W.nx (ρ.set i (.own p (.lst (ds.take n.toNat ++ [d] ++ ds.drop n.toNat)))) c2))) : SW G (tDrop (tBM G.K "list" uIns (tVar i) (tCons ta (tCons te tNil)))) ρ c W := fun S σ H e D0 g => by
  obtain ⟨p, ds, hi, hz, h⟩ := h
  obtain ⟨_, vs0, h0, _⟩ := e.sl i _ hi
  refine ⟨_, slot_ref e hi, .inl ⟨rfl, _, .of h0⟩, h S σ H e _ fun y c1 w H1 q1 e1 k1 r1 => ?_⟩
  obtain ⟨n, rfl, n0, n1, q1⟩ := q1
  refine q1 S σ H1 e1 _ fun d c2 v H2 q2 e2 k2 r2 => ?_
  obtain ⟨_, vs, h1, h2⟩ := e2.sl i _ hi
  obtain ⟨e3, k3⟩ := own_write (ws := vs.take n.toNat ++ [v] ++ vs.drop n.toNat) e2 hi (((h2.take n.toNat).append (Reps.cons r2 Reps.nil)).append (h2.drop n.toNat))
  exact ⟨p, vs, n, v, rfl, by rw [r1.int_inv], h1, by rw [h2.length]; exact hz, n0, n1, g.nx _ c2 σ _ q2 e3 ((k1.trans k2).keep.trans k3 e2.bxH)⟩
theorem SW.popAt (h : ∃ p ds, ρ[i]? = some (.own p (.lst ds)) ∧ EW G true ta ρ c (fun y c1 => ∃ (n : Int) (k : Nat), y = .int n ∧ -(2 ^ 63) ≤ n ∧ n < 2 ^ 63 ∧ seqIndex? n ds.length = some k ∧ k < ds.length ∧ W.nx (ρ.set i (.own p (.lst (ds.eraseIdx k)))) c1)) : SW G (tDrop (tBM G.K "list" rPopAt (tVar i) (tCons ta tNil))) ρ c W := fun S σ H e D0 g => by
  obtain ⟨p, ds, hi, h⟩ := h
  obtain ⟨_, vs0, h0, _⟩ := e.sl i _ hi
  refine ⟨_, slot_ref e hi, .inl ⟨rfl, _, .of h0⟩, h S σ H e _ fun y c1 w H1 q1 e1 k1 r1 => ?_⟩
  obtain ⟨n, k, rfl, n0, n1, hs, hk, q⟩ := q1
  obtain ⟨_, vs, h1, h2⟩ := e1.sl i _ hi
  obtain ⟨e3, k3⟩ := own_write (ws := vs.eraseIdx k) e1 hi (h2.eraseIdx k)
  exact ⟨p, vs, n, k, vs[k]'(by rw [h2.length]; exact hk), rfl, by rw [r1.int_inv], h1, n0, n1, by rw [h2.length]; exact hs, List.getElem?_eq_getElem _, g.nx _ c1 σ _ q e3 (k1.keep.trans k3 e1.bxH)⟩

/-! ### a, b = .. by the tuple (where a name is a cell) -/
theorem SW.asgTup2 (h : EW G true ta ρ c (fun d c1 => EW G true tb ρ c1 (fun d' c2 => W.nx ((ρ.set i (.val d)).set j (.val d')) c2))) : SW G (tAsg (tTup (tCons ta (tCons tb tNil))) (gTup G.K 2 (gCons (gName i) (gCons (gName j) gNil)))) ρ c W := fun S σ H e D0 g =>
  h S σ H e _ fun d c1 v H1 q1 e1 k1 r1 => q1 S σ H1 e1 _ fun d' c2 v' H2 q2 e2 k2 r2 => ⟨(by show 2 ≤ sizeLine; decide), fun p hp => by
    have e3 := e2.new (o := .tup [v, v']) hp
    refine ⟨p, [v, v'], rfl, .of upd_same, rfl, v, [v'], rfl, v', [], rfl, rfl, ?_⟩
    have ra : Rep G.K (Sx S ρ true) (upd H2 p (.tup [v, v'])) d v := Rep.mv ((e1.mvE k2).trans (mv_upd hp)) _ _ r1
    have rb : Rep G.K (Sx S ρ true) (upd H2 p (.tup [v, v'])) d' v' := Rep.mv (mv_upd hp) _ _ r2
    have e4 := e3.setN (i := i) (s := .val d) rfl ⟨v, rfl, ra⟩
    have rb' := Rep.mv (e3.mv (keep_setN (i := i) (s := .val d) rfl)) _ _ rb
    exact g.nx _ c2 _ _ q2 (e4.setN (i := j) (s := .val d') rfl ⟨v', rfl, rb'⟩) ((((k1.trans k2).trans (KeepE.new hp)).keep.trans (keep_setN (s := .val d) rfl) e3.bxH).trans (keep_setN (s := .val d') rfl) e3.bxH)⟩
theorem SW.asgTup2F (h : EW G true ta ρ c (fun d c1 => EF G true tb ρ c1 (fun ds c2 => ∀ p, W.nx ((ρ.set i (.val d)).set j (.own p (.lst ds))) c2))) : SW G (tAsg (tTup (tCons ta (tCons tb tNil))) (gTup G.K 2 (gCons (gName i) (gCons (gName j) gNil)))) ρ c W := fun S σ H e D0 g =>
  h S σ H e _ fun d c1 v H1 q1 e1 k1 r1 => q1 S σ H1 e1 _ fun ds c2 p vs H2 q2 e2 k2 hp hl r2 => ⟨(by show 2 ≤ sizeLine; decide), fun pt hpt => by
    have hne : pt ≠ p := fun z => by rw [z, hl] at hpt; cases hpt
    have e2' : EnvR G (addS S p) (upd H2 pt (.tup [v, .ref p])) σ ρ c2 := e2.new hpt
    refine ⟨pt, [v, .ref p], rfl, .of upd_same, rfl, v, [.ref p], rfl, .ref p, [], rfl, rfl, ?_⟩
    have m12 : Mv (Sx S ρ true) H1 (Sx (addS S p) ρ true) H2 := fun a u h n => ⟨k2 a u h (e1.nb (sx_of n)), fun z => (sx_add.mp z).elim n (ne_of_none h hp)⟩
    have e3 := e2'.setN (i := i) (s := .val d) rfl ⟨v, rfl, Rep.mv (m12.trans (mv_upd hpt)) _ _ r1⟩
    have m3 : Mv (Sx (addS S p) ρ true) (upd H2 pt (.tup [v, .ref p])) (Sx (addS S p) (ρ.set i (.val d)) true) (upd H2 pt (.tup [v, .ref p])) := e2'.mv (keep_setN (s := .val d) rfl)
    have np : ¬ S p := fun z => e1.dom p z hp
    have e4 := e3.setOwn (i := j) (w := .lst ds) e.bxS np rfl ⟨vs, by rw [upd_ne hne.symm]; exact hl, Reps.mv ((mv_upd hpt).trans m3) _ _ r2⟩
    have hp0 : H p = none := none_back e1 k1 hp
    refine g.nx _ c2 _ _ (q2 p) e4 ⟨fun a o h _ n => (KeepE.new hpt) a o (k2 a o (k1 a o h n) n) n, fun a h => ?_⟩
    obtain ⟨j', t, h, ha⟩ := h
    rcases set_inv h with ⟨_, rfl, _⟩ | ⟨_, h⟩
    · simp [adr] at ha; rw [ha]; exact .inr hp0
    · rcases set_inv h with ⟨_, rfl, _⟩ | ⟨_, h⟩
      · cases ha
      · exact .inl ⟨j', t, h, ha⟩⟩
/-! ### join -/
theorem EW.join {to : TE} (h : EW G false to ρ c (fun d c1 => ∃ z, d = .str z ∧ EW G false te ρ c1 (fun d' c2 => ∃ ys : List Str, d' = .lst (ys.map .str) ∧ (ys.map (·.length)).sum + ys.length * z.length ≤ 16777216 ∧ Q (.str (Txt.join z ys)) c2))) : EW G l (tM1 (uJoin G.K) to te) ρ c Q := fun S σ H e QV kt => h S σ H e _ fun d c1 v H1 q1 e1 k1 r1 => by
  obtain ⟨z, rfl, q1⟩ := q1
  refine ⟨⟨z, r1.str_inv⟩, q1 S σ H1 e1 _ fun d' c2 v' H2 q2 e2 k2 r2 => ?_⟩
  obtain ⟨ys, rfl, hz, q⟩ := q2
  obtain ⟨a, ws, rfl, _, ha, rr⟩ := r2.lst_inv
  exact ⟨z, a, ys, r1.str_inv, rfl, .inl (lst_strs ha rr), hz, (kt.keep (k1.trans k2)).ret q e2 Rep.str⟩
end
end Q
namespace Q
open PySem PySem.Spec PyProof.Rows L2

/-! ### dicts: keys ints and texts -/
def kD : Key → D
  | .inl i => .int i
  | .inr s => .str s
theorem Rep.key {K S H} : ∀ {k : Key} {v : V}, Rep K S H (kD k) v → v = kV k
  | .inl _, _, h => h.int_inv
  | .inr _, _, h => h.str_inv
theorem Rep.ofKey {K S H} : ∀ {k : Key}, Rep K S H (kD k) (kV k)
  | .inl _ => Rep.int
  | .inr _ => Rep.str
def lookD : List Key → List D → Key → Option D
  | k :: ks, d :: ds, x => if k = x then some d else lookD ks ds x
  | _, _, _ => none
def putD (kvs : List (Key × D)) (k : Key) (d : D) : List (Key × D) :=
  if (kvs.any fun kv => decide (kv.1 = k)) = true then kvs.map (fun kv => if kv.1 = k then (kv.1, d) else kv) else kvs ++ [(k, d)]
def mergeD (prs : List (Key × D)) : List (Key × D) := prs.foldl (fun acc kv => putD acc kv.1 kv.2) []
section
variable {K : Frag} {S : AS} {H : Hp}
abbrev KR (K : Frag) (S : AS) (H : Hp) : List (Key × D) → List (Key × V) → Prop := Paired fun p q => p.1 = q.1 ∧ Rep K S H p.2 q.2
theorem KR.any {k : Key} : ∀ {l : List (Key × D)} {m : List (Key × V)}, KR K S H l m → (l.any fun kv => decide (kv.1 = k)) = (m.any fun kv => decide (kv.1 = k))
  | _, _, .nil => rfl
  | _, _, .cons h t => by rw [List.any_cons, List.any_cons, KR.any t, h.1]
theorem KR.put {k : Key} {d : D} {v : V} (r : Rep K S H d v) {l : List (Key × D)} {m : List (Key × V)} (h : KR K S H l m) : KR K S H (putD l k d) (putK m k v) := by
  unfold putD putK
  rw [KR.any h]
  by_cases q : (m.any fun kv => decide (kv.1 = k)) = true
  · rw [if_pos q, if_pos q]
    clear q
    induction h with
    | nil => exact .nil
    | cons a t ih =>
      rename_i x y l1 l2
      refine .cons ?_ ih
      dsimp only
      by_cases e : x.1 = k
      · rw [if_pos e, if_pos (a.1.symm.trans e)]; exact ⟨a.1, r⟩
      · rw [if_neg e, if_neg fun z => e (a.1.trans z)]; exact a
  · rw [if_neg q, if_neg q]
    exact Paired.snoc h ⟨rfl, r⟩
theorem KR.merge {l : List (Key × D)} {m : List (Key × V)} (h : KR K S H l m) : ∀ {a : List (Key × D)} {b : List (Key × V)}, KR K S H a b → KR K S H (l.foldl (fun acc kv => putD acc kv.1 kv.2) a) (m.foldl (fun acc kv => putK acc kv.1 kv.2) b) := by
  induction h with
  | nil => intro a b h; exact h
  | cons r t ih =>
    intro a b h
    rename_i x y l1 l2
    show KR K S H (l1.foldl _ (putD a x.1 x.2)) (l2.foldl _ (putK b y.1 y.2))
    rw [r.1]
    exact ih (KR.put r.2 h)
theorem KR.reps : ∀ {l : List (Key × D)} {m : List (Key × V)}, KR K S H l m → m.map (·.1) = l.map (·.1) ∧ Reps K S H (l.map (·.2)) (m.map (·.2))
  | _, _, .nil => ⟨rfl, Reps.nil⟩
  | _, _, .cons r t => by
    obtain ⟨h1, h2⟩ := KR.reps t
    exact ⟨by rw [List.map_cons, List.map_cons, h1, r.1], Reps.cons r.2 h2⟩
theorem look_rep : ∀ {ks : List Key} {ds : List D} {kvs : List (Key × V)} {k : Key}, kvs.map (·.1) = ks → Reps K S H ds (kvs.map (·.2)) →
    (∀ d, lookD ks ds k = some d → ∃ v, valV kvs k = some v ∧ Rep K S H d v) ∧ (lookD ks ds k = none → valV kvs k = none)
  | _, ds, [], k, rfl, r => by
    refine ⟨fun d h => ?_, fun _ => rfl⟩
    cases ds <;> simp [lookD] at h
  | _, [], kv :: kvs, k, rfl, r => by have := r.length; simp at this
  | _, d :: ds, kv :: kvs, k, rfl, r => by
    obtain ⟨w, ws, e, r1, r2⟩ := r.cons_inv
    rw [List.map_cons] at e
    cases e
    have ih := look_rep (kvs := kvs) (k := k) rfl r2
    by_cases q : kv.1 = k
    · refine ⟨fun d' h => ?_, fun h => ?_⟩
      · rw [List.map_cons, lookD, if_pos q] at h
        cases h
        exact ⟨kv.2, valV_pos q, r1⟩
      · rw [List.map_cons, lookD, if_pos q] at h; cases h
    · refine ⟨fun d' h => ?_, fun h => ?_⟩
      · rw [List.map_cons, lookD, if_neg q] at h
        rw [valV_neg q]; exact ih.1 d' h
      · rw [List.map_cons, lookD, if_neg q] at h
        rw [valV_neg q]; exact ih.2 h
end
section
variable {G : Ctx} {l : Bool} {ρ : Env} {c c1 : Nat} {te ta tb td ty : TE} {tt tu : TT} {tr : TA} {t u : TS} {Q Q' : D → Nat → Prop} {QF : List D → Nat → Prop} {d : D} {i j : Nat} {W : DW} {x y : D}
def prD (p : Key × D) : D := .tup [kD p.1, p.2]
theorem pairs_rep {K S H} : ∀ {prs : List (Key × D)} {vs : List V}, Reps K S H (prs.map prD) vs → ∃ (ps : List Addr) (kvs : List (Key × V)), vs = ps.map V.ref ∧ Paired (fun p kv => SqT K H p [kV kv.1, kv.2]) ps kvs ∧ KR K S H prs kvs
  | [], _, r => by rw [r.nil_inv]; exact ⟨[], [], rfl, .nil, .nil⟩
  | p :: prs, _, r => by
    obtain ⟨w, ws, rfl, r1, r2⟩ := Reps.cons_inv (d := prD p) (ds := prs.map prD) r
    obtain ⟨a, us, rfl, ha, rr⟩ := Rep.tup_inv (l := [kD p.1, p.2]) r1
    obtain ⟨v1, v2, rfl, q1, q2⟩ := reps2 rr
    rw [q1.key] at ha
    obtain ⟨ps, kvs, rfl, h1, h2⟩ := pairs_rep r2
    exact ⟨a :: ps, (p.1, v2) :: kvs, rfl, .cons ha.sq h1, .cons ⟨rfl, q2⟩ h2⟩
def dicD (kvs : List (Key × D)) : D := .dic (kvs.map (·.1)) (kvs.map (·.2))
theorem RCW.dict {prs : List (Key × D)} (q : Q (dicD (mergeD prs)) c) : RCW G l (uDict G.K) [.lst (prs.map prD)] ρ c Q := fun S σ H e vs r QV kt => by
  obtain ⟨v, rfl, rv⟩ := reps1 r
  obtain ⟨a, ws, rfl, _, ha, rr⟩ := rv.lst_inv
  obtain ⟨ps, kvs, rfl, h1, h2⟩ := pairs_rep rr
  refine ⟨a, ps, kvs, rfl, .of ha, h1, fun p hp => ?_⟩
  obtain ⟨m1, m2⟩ := (KR.merge h2 (.nil : KR G.K (Sx S ρ l) H [] [])).reps
  refine kt _ c _ _ q (e.new hp) (KeepE.new hp) ?_
  unfold dicD
  simp only [Rep]
  exact ⟨p, _, rfl, ⟨fun z => e.sxH p z hp, .inl upd_same⟩, m1, Reps.mv (mv_upd hp) _ _ m2⟩
theorem dget_of {K S H a k} {ks : List Key} {ds : List D} {kvs : List (Key × V)} (ha : DQ K S H a kvs) : DGet H a (kV k) (valV kvs k) := .inl ⟨kvs, k, ha.2, rfl, rfl⟩
theorem EW.dget (h : EW G l td ρ c (fun d c1 => EW G l ty ρ c1 (fun y c2 => ∃ ks ds k e, d = .dic ks ds ∧ y = kD k ∧ lookD ks ds k = some e ∧ Q e c2))) : EW G l (tDGet td ty) ρ c Q := fun S σ H e QV kt => h S σ H e _ fun d c1 v H1 q1 e1 k1 r1 => q1 S σ H1 e1 _ fun y c2 w H2 q2 e2 k2 r2 => by
  obtain ⟨ks, ds, k, f, rfl, rfl, hl, q⟩ := q2
  obtain ⟨a, kvs, rfl, ha, hk, rr⟩ := (Rep.mv (e1.mvE (l := l) k2) _ _ r1).dic_inv
  obtain ⟨z, hz, rz⟩ := (look_rep hk rr).1 f hl
  refine ⟨a, z, rfl, ?_, (kt.keep (k1.trans k2)).ret q e2 rz⟩
  rw [r2.key, ← hz]
  exact .inl ⟨kvs, k, ha.2, rfl, rfl⟩
theorem EW.din (h : EW G false ty ρ c (fun y c1 => EW G false td ρ c1 (fun d c2 => ∃ ks ds k, d = .dic ks ds ∧ y = kD k ∧ Q (.bl (lookD ks ds k).isSome) c2))) : EW G l (tDIn ty td) ρ c Q := fun S σ H e QV kt => h S σ H e _ fun y c1 w H1 q1 e1 k1 r1 => q1 S σ H1 e1 _ fun d c2 v H2 q2 e2 k2 r2 => by
  obtain ⟨ks, ds, k, rfl, rfl, q⟩ := q2
  obtain ⟨a, kvs, rfl, ha, hk, rr⟩ := r2.dic_inv
  refine ⟨a, valV kvs k, rfl, ?_, ?_⟩
  · rw [r1.key]; exact .inl ⟨kvs, k, ha.2, rfl, rfl⟩
  · have : (valV kvs k).isSome = (lookD ks ds k).isSome := by
      cases q3 : lookD ks ds k with
      | none => rw [(look_rep hk rr).2 q3]; rfl
      | some f => obtain ⟨z, hz, _⟩ := (look_rep hk rr).1 f q3; rw [hz]; rfl
    rw [this]
    exact (kt.keep (k1.trans k2)).ret q e2 Rep.bl
theorem EW.dnotin (h : EW G false ty ρ c (fun y c1 => EW G false td ρ c1 (fun d c2 => ∃ ks ds k, d = .dic ks ds ∧ y = kD k ∧ Q (.bl (!(lookD ks ds k).isSome)) c2))) : EW G l (tDNotIn ty td) ρ c Q := fun S σ H e QV kt => h S σ H e _ fun y c1 w H1 q1 e1 k1 r1 => q1 S σ H1 e1 _ fun d c2 v H2 q2 e2 k2 r2 => by
  obtain ⟨ks, ds, k, rfl, rfl, q⟩ := q2
  obtain ⟨a, kvs, rfl, ha, hk, rr⟩ := r2.dic_inv
  refine ⟨a, valV kvs k, rfl, ?_, ?_⟩
  · rw [r1.key]; exact .inl ⟨kvs, k, ha.2, rfl, rfl⟩
  · have : (valV kvs k).isSome = (lookD ks ds k).isSome := by
      cases q3 : lookD ks ds k with
      | none => rw [(look_rep hk rr).2 q3]; rfl
      | some f => obtain ⟨z, hz, _⟩ := (look_rep hk rr).1 f q3; rw [hz]; rfl
    rw [this]
    exact (kt.keep (k1.trans k2)).ret q e2 Rep.bl
/-- isinstance(x, (a, b)) -/
theorem EW.isi2 {a b : String} {K' : Frag} (hK : K' = G.K) (h : EW G false te ρ c (fun d c1 => (∀ n, d ≠ .ty n) ∧ (∀ n, d ≠ .scr n) ∧ ∃ p q r : Bool, kitB (tyD d) a = some p ∧ kitB (tyD d) b = some q ∧ r = (p || q) ∧ Q (.bl r) c1)) :
    EW G l (tCB (rIsiT K') (tCons te (tCons (tTup (tCons (tC (.ty a)) (tCons (tC (.ty b)) tNil))) tNil))) ρ c Q := fun S σ H e QV kt => h S σ H e _ fun d c1 v H1 q1 e1 k1 r1 => by
  subst hK
  obtain ⟨h1, h2, p, q, r, hp, hq, rfl, qq⟩ := q1
  refine ⟨(by show 2 ≤ sizeLine; decide), fun pt hpt => ?_⟩
  refine ⟨v, pt, [.ty a, .ty b], _, [.type a, .type b], (p || q), rfl, upd_same, .cons (.ty a) (.cons (.ty b) .nil), (Rep.mv (mv_upd (S := Sx S ρ false) hpt) _ _ r1).tyx h1 h2, ?_, (kt.keep (k1.trans (KeepE.new hpt))).ret qq (e1.new hpt) Rep.bl⟩
  refine kitAny_cons (kit_ty hp) (fun hb => kitAny_cons (kit_ty hq) (fun hb2 => by rw [hb, hb2]; exact kitAny_nil) fun hb2 => by rw [hb2]; cases p <;> rfl) fun hb => by rw [hb]; rfl
end
end Q
namespace Q
open PySem PySem.Spec PyProof.Rows L2

/-! ### exactly: what a plain expression leaves behind (new objects alone) -/
def KpS (s s' : Shared) : Prop := ∃ h' tk, s' = { s with heap := h', toks := tk } ∧ ∀ b o, s.heap.get? b = some o → h'.get? b = some o
theorem KpS.refl {s : Shared} : KpS s s := ⟨s.heap, s.toks, rfl, fun _ _ h => h⟩
theorem KpS.trans {s s1 s2 : Shared} (a : KpS s s1) (b : KpS s1 s2) : KpS s s2 := by
  obtain ⟨h1, t1, rfl, k1⟩ := a
  obtain ⟨h2, t2, rfl, k2⟩ := b
  exact ⟨h2, t2, rfl, fun c o e => k2 c o (k1 c o e)⟩
theorem KpS.tok {s : Shared} {t : Nat} : KpS s { s with toks := t } := ⟨s.heap, t, rfl, fun _ _ h => h⟩
/-- e is worth v, the state as it was but for new tokens -/
def PV0 (X : Cx) (σ : L2.St) (H : Hp) (e : Expr) (v : V) : Prop := ∀ pins s, Inv X pins σ H s → ∀ Q : Value → Shared → Prop, (∀ u t, RelV v u → Q u { s with toks := t }) → wpAny (model X.prog X.w) X.A (eval e X.env) Q X.xe s
/-- e reads as d, new objects alone made -/
def PD0 (X : Cx) (σ : L2.St) (H : Hp) (e : Expr) (d : PyData) : Prop := ∀ pins s, Inv X pins σ H s → ∀ Q : Value → Shared → Prop, (∀ u s', KpS s s' → Reads s'.heap u d [] → Q u s') → wpAny (model X.prog X.w) X.A (eval e X.env) Q X.xe s
section
variable {X : Cx} {σ : L2.St} {H : Hp} {e a b : Expr} {v : V}
theorem pv0_name {i : Nat} {x : Str} {pos : Pos} (hN : X.N[i]? = some x) (hv : Vis X.env.scope x) (hs : σ[i]? = some (some v)) (hd : (x == ("__debug__" : Str)) = false := by decide) (hcd : (x == ("__classdict__" : Str)) = false := by decide) : PV0 X σ H (.Name x pos) v := by
  intro pins s I Q hQ
  obtain ⟨m, hn, hl⟩ := I.loc
  obtain ⟨u, r, lk⟩ := hl i x v hN hs hv
  have fin : Q u s := hQ u s.toks r
  rcases lk with ⟨hk, hm⟩ | ⟨hk | hk, c, hc, hcell⟩
  · exact wpAny_Name (wpAny_loadName_local I.ok.kind hk hn hm fin) hd
  · exact wpAny_Name (wpAny_loadName_cell I.ok.kind hk hc hcell fin) hd
  · exact wpAny_Name (wpAny_loadName_free I.ok.kind hk hc hcell fin hcd) hd
theorem pv0_int {n : Int} {k pos} : PV0 X σ H (.Constant (.int n) k pos) (.int n) := fun pins s I Q hQ => wpAny_Constant_int (hQ _ (s.toks + 1) ⟨_, rfl⟩)
/-- an item of a tuple at a written place -/
theorem pv0_item {p : Addr} {xs : List V} {n : Int} {pos : Pos} (ha : PV0 X σ H a (.ref p)) (hb : PV0 X σ H b (.int n)) (ht : SqT X.K H p xs) (hx : atI xs n = some v) (hs : PlainIx b) : PV0 X σ H (.Subscript a b pos) v := by
  intro pins s I Q hQ
  refine Subscript_ (ha pins s I _ fun u t ru => hb pins _ (I.tok t) _ fun w t' rw => ?_)
  obtain rfl : u = Value.ref p := ru
  obtain ⟨tk, rfl⟩ := rw
  have I2 : Inv X pins σ H { s with toks := t' } := I.tok t'
  obtain ⟨its, rv, pl, hz⟩ := I2.tuple ht
  obtain ⟨j, e1, e2, e3, e4, e5⟩ := atI_get hx
  obtain ⟨z, ez, rz⟩ := rv.get e2
  have ll := rv.length
  have fit := line63
  have b1 : -(2 ^ 63) ≤ n := by omega
  have b2 : n < 2 ^ 63 := by omega
  have b3 : seqIndex? n its.toArray.size = some j := by rw [List.size_toArray, ← ll]; exact e1
  have b4 : its.toArray[j]? = some z := by simpa using ez
  exact subscriptTail_builtinR (x := z) pl.typeIs slot_tuple_getitem.lookup
    (PyProof.Rows.getItem_tuple (k := n) (j := j) (x := z) (Q := fun r s' => r = z ∧ Q r s') pl b1 b2 b3 b4 ⟨rfl, hQ z t' rz⟩) (hs _ _)
theorem pv0_neg {n : Int} {pos : Pos} (ha : PV0 X σ H a (.int n)) : PV0 X σ H (.UnaryOp .USub a pos) (.int (-n)) := by
  intro pins s I Q hQ
  refine UnaryOp_ (ha pins s I _ fun u t ru => ?_)
  obtain ⟨tk, rfl⟩ := ru
  exact neg_int (hQ _ (t + 1) ⟨_, rfl⟩)
def vpy : V → Option PyData
  | .non => some .none | .bl b => some (.bool b) | .int i => some (.int i) | .str x => some (.str x)
  | _ => none
theorem reads_v {h : Heap} {v : V} {u : Value} {d : PyData} (r : RelV v u) (hd : vpy v = some d) : Reads h u d [] := by
  cases v with
  | non => cases hd; obtain rfl : u = Value.none := r; exact .none
  | bl b => cases hd; obtain rfl : u = Value.bool b := r; exact .bool b
  | int i => cases hd; obtain ⟨t, rfl⟩ := r; exact .int i t
  | str x => cases hd; obtain ⟨t, rfl⟩ := r; exact .str x t
  | _ => cases hd
theorem pd0_val {d : PyData} (ha : PV0 X σ H e v) (hd : vpy v = some d) : PD0 X σ H e d := fun pins s I Q hQ => ha pins s I Q fun u t ru => hQ u _ KpS.tok (reads_v ru hd)
/-- a pair of two plain values -/
theorem pd0_pair {d1 d2 : PyData} {v1 v2 : V} {k : Nat} {pos : Pos} (ha : PV0 X σ H a v1) (hb : PV0 X σ H b v2) (h1 : vpy v1 = some d1) (h2 : vpy v2 = some d2)
    (hs1 : starEach (a :: b :: []) X.env = (false, eval a X.env) :: starEach (b :: []) X.env := by rfl) (hs2 : starEach (b :: []) X.env = (false, eval b X.env) :: starEach [] X.env := by rfl) : PD0 X σ H (.Tuple [a, b] k pos) (.tuple [d1, d2]) := by
  intro pins s I Q hQ
  refine wpAny_Tuple_spliced ?_
  rw [hs1, hs2]
  show wpAny _ _ (spliced ((false, eval a X.env) :: (false, eval b X.env) :: [])) _ _ s
  refine Calls.spliced_cons (ha pins s I _ fun u t ru => ?_)
  refine Calls.spliced_cons (hb pins _ (I.tok t) _ fun w t' rw => ?_)
  refine Calls.spliced_nil ⟨(by show 2 ≤ sizeLine; decide), ?_⟩
  refine hQ _ _ ⟨_, t', rfl, fun c o e => Heap.get?_push_of_some _ e⟩ ?_
  exact .tuple (Heap.get?_push_size _ rfl) rfl rfl (.cons (as := []) (reads_v ru h1) (.cons (as := []) (reads_v rw h2) .nil))
end
section
variable {P : Program} {w : World} {K : Frag} {mg : Str → Option Value} {base : Heap}
/-- a def whose body is «return e»: called, it makes new objects alone, and hands back what e reads as -/
theorem key_run {x qual : Str} {st : Stmt} {f : Addr} {fd : FuncData} {N ps : List Str} {e : Expr} {pos : Pos} (F : Fun K x qual st f fd) (S : FnScope N ps (defScope st)) (hb : defBody st = [.Return (some e) pos])
    {A : Around} {outer : List PySem.Env} {s : Shared} {H : Hp} {args : Args} {us : List Value} {vs : List V} {d : PyData} (hr : Room 1 A) (e0 : Env0 P w K mg base A outer s H) (hbd : BindsTo s fd args (ps.zip us)) (r : Vals vs us) (hl : vs.length = ps.length)
    (he : ∀ cdv, PD0 (cxOf CX0 P w K mg base N qual (defScope st) f cdv A outer s H (fun _ _ _ => False)) (L2.start N vs) H e d) :
    codeAny (model P w) A (.call (.ref f) args) (fun r s' => ∃ u, r = .ok (.ret u) ∧ KpS s s' ∧ Reads s'.heap u d []) s := by
  obtain ⟨oc, od, kV, doc, pm, an, cdv, ct, osl, rfl, lk, hcd⟩ := F.ex
  have KX : K.In s.heap := e0.mod.kin.keeps fun b o e => (e0.bs b o e).1
  have lim : s.heap.NoLimit := e0.mod.nolimit.keeps fun b o e => (e0.bs b o e).1
  have hkind : ∀ y ∈ ps.zip us, (defScope st).names.lookup y.1 = some .local ∨ ((defScope st).names.lookup y.1 = some .cell ∧ ((cellsFrom (s.heap.objs.size + 1) (defScope st).names []).lookup y.1).isSome = true) := fun ⟨n, v⟩ hy => by
    rcases S.par n (List.of_mem_zip hy).1 with q | q
    · exact .inl q
    · exact .inr ⟨q, PySem.W.cellsFrom_some _ _ _ (.inl q)⟩
  refine codeAny_call_function (body := defBody st) hr.depth (KX _ _ lk) rfl S.co S.gen rfl (PySem.W.codeRec_of KX hcd) (hbd _ _ _ _ ?_)
  refine wpAny_newFunctionEnv_cells S.kind hkind fun env henv s1 x => ?_
  subst henv
  refine ⟨lim.keeps x.toInCall.keep, codeAny_func ?_⟩
  have I : Inv (cxOf CX0 P w K mg base N qual (defScope st) f cdv A outer s H (fun _ _ _ => False)) [] (L2.start N vs) H s1 := inv_start S hr.hd e0 hl r x
  obtain ⟨h1, tk, e1, k1⟩ := x.done
  have ks : KpS s s1 := ⟨h1, tk, e1, k1⟩
  rw [hb]
  refine wpAny_mono (wpAny_execs_cons (Q := fun fl s' => ∃ u, fl = .ret u ∧ KpS s s' ∧ Reads s'.heap u d []) (wpAny_Return_some (he cdv [] s1 I _ fun u s' k rd => ⟨u, rfl, ks.trans k, rd⟩))) (fun fl s' hq => ?_) fun ex s' hx => ?_
  · obtain ⟨u, rfl, q⟩ := hq
    exact ⟨u, rfl, q⟩
  · exact wpAny_mono hx (fun _ _ z => z.elim) fun _ _ z => z.elim
end
/-! ### sorted(xs, key=f), f a def of one's own whose body is «return e» -/
section
variable {X : Cx}
theorem eachIs_of {α β : Type} {R : β → α → Prop} : ∀ {xs : List α} {us : List β}, Paired (fun x u => R u x) xs us → PySem.W.EachIs R us xs
  | _, _, .nil => .nil
  | _, _, .cons h t => .cons h (eachIs_of t)
theorem of_eachIs {α β : Type} {R : β → α → Prop} : ∀ {us : List β} {xs : List α}, PySem.W.EachIs R us xs → Paired (fun x u => R u x) xs us
  | _, _, .nil => .nil
  | _, _, .cons h t => .cons h (of_eachIs t)
def rSortBy (X : Cx) (N : List Str) (qual : Str) (st : Stmt) (f : Addr) (e : Expr) : List V → List V → Hp → VK → Prop := fun vs zs H Q => ∃ (β : Type) (a : Addr) (xs : List V) (bs : List β) (rel : V → β → Prop) (key : β → PyData), vs = [.ref a] ∧ zs = [.ref f] ∧ SqL X.K H a xs ∧ Paired rel xs bs ∧
  (∀ v b, rel v b → b ∈ bs → ∀ cdv A outer s, PD0 (cxOf CX0 X.prog X.w X.K X.mg X.base N qual (defScope st) f cdv A outer s H (fun _ _ _ => False)) (L2.start N [v]) H e (key b)) ∧
  PySem.W.AllAlike (bs.map key) ∧ PySem.W.Sortable (bs.map key) ∧ (∀ b ∈ bs, (key b).depth ≤ 8) ∧ ∀ p ys, H p = none → Paired rel ys (bs.mergeSort (PySem.W.dataLe false key)) → Q (.ref p) (upd H p (.lst ys))
theorem split_rel {β : Type} {rel : V → β → Prop} : ∀ {us : List Value} {bs : List β}, PySem.W.EachIs (fun u b => ∃ v, RelV v u ∧ rel v b) us bs → ∃ ys, Vals ys us ∧ Paired rel ys bs
  | _, _, .nil => ⟨[], .nil, .nil⟩
  | _, _, .cons ⟨v, r, q⟩ t => by
    obtain ⟨ys, h1, h2⟩ := split_rel t
    exact ⟨v :: ys, .cons r h1, .cons q h2⟩
theorem join_rel {β : Type} {rel : V → β → Prop} : ∀ {xs : List V} {us : List Value} {bs : List β}, Vals xs us → Paired rel xs bs → PySem.W.EachIs (fun u b => ∃ v, RelV v u ∧ rel v b) us bs
  | _, _, _, .nil, .nil => .nil
  | _, _, _, .cons r t, .cons q t' => .cons ⟨_, r, q⟩ (join_rel t t')
theorem cr_sortedBy {x qual : Str} {st : Stmt} {f : Addr} {fd : FuncData} {N ps : List Str} {e : Expr} {pos : Pos} (F : Fun X.K x qual st f fd) (S : FnScope N ps (defScope st)) (hb : defBody st = [.Return (some e) pos]) (bd : Binds X.K fd ps []) (h1 : ps.length = 1) (hr : Room 3 X.A) :
    CallRK X (.builtin "sorted") [Str.ofString "key"] (rSortBy X N qual st f e) := by
  intro pins s σ H vs zs us ws Q I r rz h
  obtain ⟨β, a, xs, bs, rel, key, rfl, rfl, hq, hp, hkey, hal, hsk, hdp, q⟩ := h
  obtain rfl := Vals.ref1 r
  obtain ⟨w1, rfl, e1⟩ := vals1 rz
  obtain rfl : w1 = Value.ref f := e1
  obtain ⟨its, rv, hl, hz⟩ := I.list hq
  have hroom : Room 1 X.A.in1.in1 := (hr.in1).in1
  have hbl : bs.length ≤ sizeLine := by rw [← hp.length]; exact hz
  refine PySem.W.sorted_key_data (f := .ref f) (b := false) (R := fun u b => ∃ v, RelV v u ∧ rel v b) (bs := bs) key hl.isList (join_rel rv hp) hal hsk hbl (fun b hb => ?_) (PyProof.Rows.ksk_s1 _ _) (fun _ => PyProof.Rows.ksk_l1 _ _) (fun z => PyProof.Rows.ksk_t1 f z) (fun u b hR hbm h tk kp => ?_) fun out c h' tk k0 hn ho hlen he => ?_
  · have := hr.units; have := hdp b hb; omega
  · obtain ⟨v, hR, hrel⟩ := hR
    have eb := I.env0
    have bz : X.base.objs.size ≤ h.objs.size := by
      obtain ⟨m, ⟨o, es, ep, ho, _⟩, _⟩ := I.loc
      exact Nat.le_trans (Nat.le_trans I.ok.bsz I.ok.above) (Nat.le_of_lt (Heap.lt_size (kp _ o ho)))
    have e0 : Env0 X.prog X.w X.K X.mg X.base X.A.in1.in1 X.stack { s with heap := h, toks := tk } H :=
      ⟨eb.frames, eb.mod, fun b o z => ⟨kp b o (eb.bs b o z).1, (eb.bs b o z).2⟩, bz, PySem.Heap.FunFrames.of_keeps (fun b o z _ => ⟨o, kp b o z, rfl⟩) eb.funs, eb.frf, eb.hok.kept kp, eb.bare⟩
    have hR1 : Vals [v] [u] := .cons hR .nil
    have hbd := bd { s with heap := h, toks := tk } [u] (I.kIn.keeps kp) (by rw [List.append_nil]; exact h1.symm)
    rw [List.append_nil] at hbd
    refine wpAny_call (codeAny_mono (key_run F S hb hroom e0 hbd hR1 (by exact h1.symm) fun cdv => hkey v b hrel hbm cdv _ _ _) fun r s' hq => ?_)
    obtain ⟨u', rfl, hk, hrd⟩ := hq
    obtain ⟨h2, t2, rfl, k2⟩ := hk
    exact ⟨h2, t2, rfl, k2, hrd⟩
  · have hfr : H (s.heap.objs.size + 1) = none := I.hok.fresh (Nat.le_succ _)
    obtain ⟨ys, rv2, hp2⟩ := split_rel he
    have hyl : ys.length ≤ sizeLine := by rw [rv2.length, hlen]; exact hbl
    exact ⟨.ref (s.heap.objs.size + 1), _, I.laid (o := .lst ys) (t' := tk) k0 (Nat.le_succ _) ⟨hyl, out, c, rv2, ho⟩, rfl, q _ ys hfr hp2⟩
end
section
variable {G : Ctx} {l : Bool} {ρ : Env} {c c1 : Nat} {te : TE} {QF : List D → Nat → Prop}
theorem paired_of_reps {K S H} : ∀ {ds : List D} {vs : List V}, Reps K S H ds vs → Paired (fun v d => Rep K S H d v) vs ds
  | [], _, r => by rw [r.nil_inv]; exact .nil
  | d :: ds, _, r => by obtain ⟨w, ws, rfl, h1, h2⟩ := r.cons_inv; exact .cons h1 (paired_of_reps h2)
theorem reps_of_paired {K S H} : ∀ {ds : List D} {vs : List V}, Paired (fun v d => Rep K S H d v) vs ds → Reps K S H ds vs
  | _, _, .nil => Reps.nil
  | _, _, .cons h t => Reps.cons h (reps_of_paired t)
theorem EF.sortedBy {X : Cx} {N : List Str} {qual : Str} {st : Stmt} {f : Addr} {e : Expr} (key : D → PyData) (hK : X.K = G.K)
    (h : EW G l te ρ c (fun d c1 => ∃ ds, d = .lst ds ∧ (∀ S H v, ∀ d ∈ ds, Rep G.K S H d v → ∀ cdv A outer s, PD0 (cxOf CX0 X.prog X.w X.K X.mg X.base N qual (defScope st) f cdv A outer s H (fun _ _ _ => False)) (L2.start N [v]) H e (key d)) ∧
      PySem.W.AllAlike (ds.map key) ∧ PySem.W.Sortable (ds.map key) ∧ (∀ d ∈ ds, (key d).depth ≤ 8) ∧ QF (ds.mergeSort (PySem.W.dataLe false key)) c1)) :
    EF G l (tCKw (rSortBy X N qual st f e) (tCons te tNil) (tCons (tC (.ref f)) tNil)) ρ c QF := fun S σ H e0 QV kt => h S σ H e0 _ fun d c1 v H1 q1 e1 k1 r1 => by
  obtain ⟨ds, rfl, hkey, hal, hsk, hdp, q⟩ := q1
  obtain ⟨a, vs, rfl, _, ha, rr⟩ := r1.lst_inv
  refine ⟨D, a, vs, ds, fun v d => Rep G.K (Sx S ρ l) H1 d v, key, rfl, rfl, .of ha, paired_of_reps rr, fun v b hr hb => hkey (Sx S ρ l) H1 v b hb hr, hal, hsk, hdp, fun p ys hp hy => ?_⟩
  obtain ⟨e', k', h', r'⟩ := new_cell e1 hp (reps_of_paired hy)
  exact kt _ c1 p _ _ q e' (k1.trans k') (none_back e1 k1 hp) h' r'
end
end Q
/-! QSet: sorted(set(xs)), xs a list of ints. -/
namespace L2
open PySem PySem.Spec PyProof.Rows
/-- a set as it is made -/
abbrev eSet (w : World) : Obj := { cls := .type "set", dict := none, data := .set #[] 0 (.fresh 0 0 (!w.params.followText "set-order")) }
/-- what the set's __init__ leaves -/
def FilledS (w : World) (s : Shared) (ns : List Int) (r : Result) (s' : Shared) : Prop := r = .ok (.ret .none) ∧ ∃ h' tk c, s' = { s with heap := h', toks := tk } ∧ SetR w h' s.heap.objs.size (fun j => decide (j ∈ ns)) c ∧ c ≤ ns.length ∧ ∀ b o, s.heap.get? b = some o → h'.get? b = some o
section
variable {P : Program} {w : World} {A : Around} {E : Value → Shared → Prop} {s : Shared}
/-- __init__ of the new set, from a list of ints -/
theorem fill_set_list {l : Addr} {its : Array Value} (ns : List Int) {R : Result → Shared → Prop} (hA : A.handled = none) (hl : s.heap.IsList l its) (hi : IntsAre its.toList ns) (hb : ns.length + 1 < scanBound)
    (hR : ∀ h' tk c, SetR w h' s.heap.objs.size (fun j => decide (j ∈ ns)) c → c ≤ ns.length → (∀ b o, s.heap.get? b = some o → h'.get? b = some o) → R (.ok (.ret .none)) { s with heap := h', toks := tk }) :
    wpAny (model P w) A.in1 (Builtin.«set.__init__» ⟨[.ref s.heap.objs.size, .ref l], []⟩) (fun fin s' => match fin with | .done f => R (.ok f) s' | .again c' => c'.quiet = true ∧ codeAny (model P w) A c' R s') (fun e s' => R (.error e) s') { s with heap := s.heap.push (eSet w) } := by
  have len : its.size = ns.length := by rw [← Array.length_toList]; exact IntsAre.length hi
  obtain ⟨⟨oc, od, dt, osl⟩, g0, ec, k, ed⟩ := id hl
  simp only at ec ed
  subst ec
  subst ed
  have g1 : (s.heap.push (eSet w)).get? l = some ⟨.type "list", od, .seq its k, osl⟩ := Heap.get?_push_of_some _ g0
  have g2 : (s.heap.push (eSet w)).IsList l its := ⟨_, g1, rfl, k, rfl⟩
  have gS : (s.heap.push (eSet w)).get? s.heap.objs.size = some (eSet w) := Heap.get?_push_size _ rfl
  have u1 := F.sub_list_set
  have u2 := F.sub_list_frozenset
  have u3 : (Value.type "list" == Value.type "dict") = false := by decide
  unfold Builtin.«set.__init__» noKeywords Builtin.Frozenset.updateFrom
  generalize ep : pyIter = PI
  wp_walk
  subst ep
  refine wpAny_pyIter_list g2 (wpAny_bind (wpAny_runValue ?_))
  have lt : l < s.heap.objs.size := Heap.lt_size g0
  have sz : (s.heap.push (eSet w)).objs.size = s.heap.objs.size + 1 := Heap.size_push ..
  have nl : l ≠ (s.heap.push (eSet w)).objs.size := by rw [sz]; exact Nat.ne_of_lt (Nat.lt_succ_of_lt lt)
  have nS : s.heap.objs.size ∉ [(s.heap.push (eSet w)).objs.size, l] := by
    rw [sz]
    intro z
    rcases List.mem_cons.mp z with z | z
    · exact absurd z (Nat.ne_of_lt (Nat.lt_succ_self _))
    · exact absurd (List.mem_singleton.mp z) (Nat.ne_of_gt lt)
  have vals : ∀ (i : Nat) (v : Value), its[i]? = some v → ∃ n t, ns[i]? = some n ∧ v = .int n t := fun i v hv => by
    have il : i < ns.length := by rw [← len]; exact (Array.getElem?_eq_some_iff.mp hv).1
    obtain ⟨t, e⟩ := IntsAre.int_at hi i v (by rw [Array.getElem?_toList]; exact hv)
    exact ⟨ns[i], t, List.getElem?_eq_getElem il, by rw [e, List.getD_eq_getElem?_getD, List.getElem?_eq_getElem il] <;> rfl⟩
  refine set_update_ints ((Walks.list (by simp [hA]) _ l nl its).toS) s.heap.objs.size nS ns len hb vals (its.size - 0) 0 _ (by omega) (Nat.zero_le _) ⟨⟨_, Heap.get?_push_size _ rfl, rfl, rfl⟩, (g2.push _)⟩
    ⟨0, Nat.le_refl 0, setR_new_at (Heap.get?_push_of_some _ gS)⟩ fun s' c hm hc hS => ?_
  obtain ⟨h', g', d', tk', os'⟩ := s'
  obtain rfl : g' = s.gens := hm.gens
  obtain rfl : d' = s.drawn := hm.drawn
  obtain rfl : os' = s.os := hm.os
  refine wpAny_pure ?_
  refine wpAny_pure (hR h' tk' c hS (by rw [← len]; exact hc) fun b o e => ?_)
  have b0 : b < s.heap.objs.size := Heap.lt_size e
  refine hm.heap b o (fun z => ?_) (Heap.get?_push_of_some _ (Heap.get?_push_of_some _ e))
  rcases List.mem_cons.mp z with z | z
  · exact absurd z (Nat.ne_of_lt b0)
  · rw [List.mem_singleton.mp z, sz] at b0
    exact absurd b0 (Nat.not_lt.mpr (Nat.le_succ _))
/-- set(xs), xs a list of ints -/
theorem set_of_list {l : Addr} {its : Array Value} (ns : List Int) {Q : Value → Shared → Prop} (hA : A.handled = none) (hl : s.heap.IsList l its) (hi : IntsAre its.toList ns) (hb : ns.length + 1 < scanBound)
    (hQ : ∀ h' tk c, SetR w h' s.heap.objs.size (fun j => decide (j ∈ ns)) c → c ≤ ns.length → (∀ b o, s.heap.get? b = some o → h'.get? b = some o) → Q (.ref s.heap.objs.size) { s with heap := h', toks := tk }) :
    wpAny (model P w) A (call (.type "set") [.ref l]) Q E s := by
  obtain ⟨k0, tl, m0⟩ := F.called_set.mro
  have m1 := F.called_set.made
  have m2 := F.called_set.sub
  refine wpAny_call (codeAny_of_tree ?_)
  show wpAny _ _ (callAny (.type "set") _) _ _ _
  refine wpAny_pure ⟨Code.quiet_builtin _ (by decide +kernel), codeAny_builtin F.entry_type_call ?_⟩
  rw [Around.under_plain (weight_type_call_type "set" [.ref l] []) rfl]
  have m3 := F.called_set.notType
  have m4 := F.called_set.canCreate
  have m5 := F.typeCall_set_1 (.ref l)
  repeat (any_goals (first | assumption | wp_step))
  refine codeAny_mono (code_set_led1 (.ref l) (E := E) (Q₁ := fun u t => u = .ref s.heap.objs.size ∧ t = { s with heap := s.heap.push (eSet w) }) ⟨rfl, rfl⟩) fun r t hr => ?_
  match r, hr with
  | .error e, hr => exact hr
  | .ok .next, hr => exact hr.elim
  | .ok .brk, hr => exact hr.elim
  | .ok .cont, hr => exact hr.elim
  | .ok (.ret u), hr =>
    obtain ⟨rfl, rfl⟩ := hr
    have gS : (s.heap.push (eSet w)).get? s.heap.objs.size = some (eSet w) := Heap.get?_push_size _ rfl
    have tS : Shared.TypeIs { s with heap := s.heap.push (eSet w) } (.ref s.heap.objs.size) "set" := ⟨_, gS, rfl⟩
    have n1 := F.called_set.init.lookup
    have n2 := F.called_set.init.bind (.ref s.heap.objs.size)
    repeat (any_goals (first | assumption | wp_step))
    refine codeAny_mono (codeAny_call_builtin (R := FilledS w s ns) F.called_set.init.plain F.entry_set_init (check_set_init_1 tS (fill_set_list (A := A.in1) (R := FilledS w s ns) ns hA hl hi hb fun h' tk c hS hc hk => ⟨rfl, h', tk, c, rfl, hS, hc, hk⟩))) fun r t hq => ?_
    obtain ⟨rfl, h', tk, c, rfl, hS, hc, hk⟩ := hq
    refine wpAny_pure ?_
    exact wpAny_pure (hQ h' tk c hS hc hk)
end
/-! ### sorted(set(xs)) -/
def tSortSet (K : PySem.W.Frag) (ta : TE) : TE := fun σ H Q => ta σ H fun x H1 => ∃ (l : Addr) (ns : List Int), x = .ref l ∧ SqL K H1 l (ns.map V.int) ∧ ns.length < 64 ∧
  ∀ (ms : List Int) (p : Addr), ms.Pairwise (· < ·) → (∀ k : Int, k ∈ ms ↔ k ∈ ns) → H1 p = none → Q (.ref p) (upd H1 p (.lst (ms.map V.int)))
theorem pe_sortedSet {X : Cx} {a : Expr} {ta : TE} {p p2 q pos : Pos} (hg : Gl X "sorted") (hm : X.mg "sorted" = none) (hg2 : Gl X "set") (hm2 : X.mg "set" = none) (ha : PE X a ta) (hc : X.calm = true := by rfl)
    (na : starEach [a] X.env = (false, eval a X.env) :: starEach [] X.env := by rfl) : PE X (.Call (.Name "sorted" p) [.Call (.Name "set" p2) [a] [] q] [] pos) (tSortSet X.K ta) := by
  refine ⟨fun pins s σ H Q I h => ?_⟩
  refine Call_ (ld_blt I hg hm boot_sorted ?_)
  refine callWith_builtin1 (args_cons ?_ rfl) rfl rfl
  refine Call_ (ld_blt I hg2 hm2 boot_set ?_)
  refine callWith_type1 (args_cons (thn (ha.run pins s σ H _ I h) fun v s1 ⟨x, H1, I1, r1, q1⟩ => args_nil ?_) na) na rfl
  obtain ⟨l, ns, rfl, hq, h64, q1⟩ := q1
  obtain rfl : v = Value.ref l := r1
  obtain ⟨its, r, pl, hz⟩ := I1.list hq
  have hi : IntsAre its.toArray.toList ns := by simpa using ints_of_vals r
  refine set_of_list ns (I1.ok.hd hc) pl.isList hi (by unfold scanBound; omega) fun h' tk c hS hcn hk => args_nil ?_
  have I2 : Inv X pins σ H1 { s1 with heap := h', toks := tk } := I1.kept hk
  refine sorted_set hS (I1.ok.hd hc) (by omega) fun s' pp out c2 ms k g o hp hgt hii hpw hm hl2 => ?_
  obtain ⟨hh, gg, dd, tt, oo⟩ := s'
  have hlen : (ms.map V.int).length ≤ sizeLine := by rw [List.length_map, hl2, sizeLine_eq]; omega
  have hn : H1 pp = none := I2.hok.fresh hp
  have J : Inv X pins σ (upd H1 pp (.lst (ms.map V.int))) ⟨hh, gg, dd, tt, oo⟩ := by
    obtain rfl : oo = s1.os := o
    exact Inv.call (s := { s1 with heap := h', toks := tk }) I2 (h' := hh) (g' := gg) (d' := dd) (t' := tt) (ch := []) (Un.laid k hp hn) (I2.hok.laid k hp ⟨hlen, out.toList, c2, vals_of_ints hii, hgt⟩) (by rw [show gg = s1.gens from g]; exact I2.bare) (fun _ z => nomatch z)
  exact ⟨.ref pp, _, J, rfl, q1 ms pp hpw (fun k => by rw [hm k, decide_eq_true_eq]) hn⟩
end L2
namespace Q
open PySem PySem.Spec PyProof.Rows L2
theorem EF.sortedSet {G : Ctx} {l : Bool} {ρ : Env} {c : Nat} {te : TE} {QF : List D → Nat → Prop} (h : EW G l te ρ c (fun d c1 => ∃ ns : List Int, d = .lst (ns.map .int) ∧ ns.length < 64 ∧ ∀ ms : List Int, ms.Pairwise (· < ·) → (∀ k : Int, k ∈ ms ↔ k ∈ ns) → QF (ms.map .int) c1)) : EF G l (tSortSet G.K te) ρ c QF := fun S σ H e QV kt => h S σ H e _ fun d c1 v H1 q1 e1 k1 r1 => by
  obtain ⟨ns, rfl, h64, q⟩ := q1
  obtain ⟨a, vs, rfl, _, ha, rr⟩ := r1.lst_inv
  refine ⟨a, ns, rfl, lst_ints ha rr, h64, fun ms p h1 h2 hp => ?_⟩
  obtain ⟨e', k', h', r'⟩ := new_cell (l := l) e1 hp (ds := ms.map .int) (vs := ms.map V.int) Reps.ints
  exact kt _ c1 p _ _ (q ms h1 h2) e' (k1.trans k') (none_back e1 k1 hp) h' r'
end Q
namespace Q
open PySem PySem.Spec PyProof.Rows L2

abbrev DD := D
def datO : Own → D
  | .lst ds => .lst ds
  | .rows rs => .lst (rs.map fun r => .lst r.2)
  | .dic ks ds => .dic ks ds
section
variable {G : Ctx} {l : Bool} {ρ : Env} {c c1 : Nat} {te ta tb tk tx : TE} {tt tu : TT} {tr : TA} {t u : TS} {Q Q' : D → Nat → Prop} {QF : List D → Nat → Prop} {d : D} {i j f : Nat} {W : DW} {x y : D}
theorem reps_map {K S H} {α : Type} {g : α → D} {v : α → V} : ∀ {rs : List α}, (∀ r ∈ rs, Rep K S H (g r) (v r)) → Reps K S H (rs.map g) (rs.map v)
  | [], _ => Reps.nil
  | r :: rs, h => Reps.cons (h r (by simp)) (reps_map fun q hq => h q (by simp [hq]))
theorem own_rep {K S H p} {w : Own} (ho : ∀ a ∈ adr (.own p w), ¬ S a) (h : OwnR K S H p w) : Rep K S H (datO w) (.ref p) := by
  cases w with
  | lst ds => obtain ⟨vs, h1, h2⟩ := h; exact Rep.lst (ho p (by simp [adr])) h1 h2
  | rows rs =>
    obtain ⟨h1, h2⟩ := h
    refine Rep.lst (ho p (by simp [adr])) h1 (reps_map fun r hr => ?_)
    obtain ⟨vs, q1, q2⟩ := h2 r hr
    exact Rep.lst (ho r.1 (by simp only [adr, List.mem_cons, List.mem_map]; exact .inr ⟨r, hr, rfl⟩)) q1 q2
  | dic ks ds =>
    obtain ⟨kvs, h1, h2, h3⟩ := h
    show Rep K S H (.dic ks ds) (.ref p)
    simp only [Rep]
    exact ⟨p, kvs, rfl, ⟨ho p (by simp [adr]), .inl h1⟩, h2, h3⟩
/-- what is owned, as data -/
theorem EnvR.freeze {S H σ p w} (e : EnvR G S H σ ρ c) (hi : ρ[i]? = some (.own p w)) : EnvR G S H σ (ρ.set i (.val (datO w))) c ∧ ∀ a, Ad (ρ.set i (.val (datO w))) a → Ad ρ a := by
  obtain ⟨hv, ho⟩ := e.sl i _ hi
  have hA : ∀ a, Ad (ρ.set i (.val (datO w))) a → Ad ρ a := fun a ⟨j, t, h, ha⟩ => by
    rcases set_inv h with ⟨_, rfl, _⟩ | ⟨_, h⟩
    · cases ha
    · exact ⟨j, t, h, ha⟩
  have hn : ∀ a ∈ adr (.own p w), ¬ Ad (ρ.set i (.val (datO w))) a := fun a ha ⟨j, t, h, hb⟩ => by
    rcases set_inv h with ⟨_, rfl, _⟩ | ⟨hn, h⟩
    · cases hb
    · exact hn (e.sep i j _ t a hi h ha hb)
  have m : Mv (Sx S ρ true) H (Sx S (ρ.set i (.val (datO w))) true) H := mv_sub fun a z => by
    rcases z with z | ⟨z, q⟩
    · exact .inl z
    · exact .inr ⟨z, hA a q⟩
  have rp : Rep G.K (Sx S (ρ.set i (.val (datO w))) true) H (datO w) (.ref p) := own_rep (fun a ha z => by
    rcases z with z | ⟨_, z⟩
    · exact e.out a ⟨i, _, hi, ha⟩ z
    · exact hn a ha z) (ho.mv m fun a _ o h => h)
  refine ⟨⟨by rw [List.length_set]; exact e.len, fun j t h => ?_, fun j t h => ?_, fun j k t u a hj hk ha hb => ?_, fun a ha => e.out a (hA a ha), e.dom, e.box⟩, hA⟩
  · rcases set_inv h with ⟨rfl, rfl, hl⟩ | ⟨hn, h⟩
    · exact ⟨_, hv, rp⟩
    · have q := e.sl j t h
      cases t with
      | no => trivial
      | val d => obtain ⟨v, h1, h2⟩ := q; exact ⟨v, h1, Rep.mv m _ _ h2⟩
      | own p' w' => obtain ⟨h1, h2⟩ := q; exact ⟨h1, h2.mv m fun a ha o ho => ho⟩
      | box => exact q
  · rcases set_inv h with ⟨_, rfl, _⟩ | ⟨_, h⟩
    · exact List.nodup_nil
    · exact e.nd j t h
  · rcases set_inv hj with ⟨_, rfl, _⟩ | ⟨_, hj⟩
    · cases ha
    · rcases set_inv hk with ⟨_, rfl, _⟩ | ⟨_, hk⟩
      · cases hb
      · exact e.sep j k t u a hj hk ha hb
theorem SW.freezeO (i : Nat) (h : ∃ p w, ρ[i]? = some (.own p w) ∧ SW G t (ρ.set i (.val (datO w))) c W) : SW G t ρ c W := fun S σ H e D0 g => by
  obtain ⟨p, w, hi, h⟩ := h
  obtain ⟨e2, hA⟩ := e.freeze hi
  exact h S σ H e2 D0 (g.keep ⟨fun _ _ h _ _ => h, fun a h => .inl (hA a h)⟩ e.bxH)
/-- an expression may read what is owned, where it hands back nothing of it -/
theorem EF.lendO (f : Nat) (h : ∃ p w, ρ[f]? = some (.own p w) ∧ EF G false te (ρ.set f (.val (datO w))) c (fun ds c' => (∀ d ∈ ds, d.flat = true) ∧ QF ds c')) : EF G l te ρ c QF := fun S σ H e QV kt => by
  obtain ⟨p, w, hi, h⟩ := h
  obtain ⟨e2, _⟩ := e.freeze hi
  refine h S σ H e2 _ fun ds c' q vs H' hq e' ke hp hl r => ?_
  exact kt ds c' q vs H' hq.2 (e.shutTo hp hl ke (e'.open_ e.bxS).box) ke hp hl (Reps.flat_any hq.1 r)
theorem EW.lendO (f : Nat) (h : ∃ p w, ρ[f]? = some (.own p w) ∧ EW G false te (ρ.set f (.val (datO w))) c (fun d c' => d.flat = true ∧ Q d c')) : EW G l te ρ c Q := fun S σ H e QV kt => by
  obtain ⟨p, w, hi, h⟩ := h
  obtain ⟨e2, _⟩ := e.freeze hi
  exact h S σ H e2 _ fun d c' v H' hq e' ke r => kt d c' v H' hq.2 (e.keepE ke e'.box) ke (Rep.flat_any hq.1 r)
theorem TW.lendO {QT : Bool → Nat → Prop} (f : Nat) (h : ∃ p w, ρ[f]? = some (.own p w) ∧ TW G tt (ρ.set f (.val (datO w))) c QT) : TW G tt ρ c QT := fun S σ H e QV kt => by
  obtain ⟨p, w, hi, h⟩ := h
  obtain ⟨e2, _⟩ := e.freeze hi
  exact h S σ H e2 _ fun b c' H' hq e' ke => kt b c' H' hq (e.keepE ke e'.box) ke
/-- the inner lists are data from now on, the outer one is still owned -/
theorem SW.freezeIn (i : Nat) (h : ∃ p rs, ρ[i]? = some (.own p (.rows rs)) ∧ SW G t (ρ.set i (.own p (.lst (rs.map fun r => .lst r.2)))) c W) : SW G t ρ c W := fun S σ H e D0 g => by
  obtain ⟨p, rs, hi, h⟩ := h
  obtain ⟨hv, h1, h2⟩ := e.sl i _ hi
  have nd := e.nd i _ hi
  have hA : ∀ a, Ad (ρ.set i (.own p (.lst (rs.map fun r => .lst r.2)))) a → Ad ρ a := fun a ⟨j, t, h, ha⟩ => by
    rcases set_inv h with ⟨_, rfl, _⟩ | ⟨_, h⟩
    · exact ⟨i, _, hi, by simp only [adr, List.mem_singleton] at ha; rw [ha]; simp [adr]⟩
    · exact ⟨j, t, h, ha⟩
  have m : Mv (Sx S ρ true) H (Sx S (ρ.set i (.own p (.lst (rs.map fun r => .lst r.2)))) true) H := mv_sub fun a z => by
    rcases z with z | ⟨z, q⟩
    · exact .inl z
    · exact .inr ⟨z, hA a q⟩
  have hin : ∀ r ∈ rs, r.1 ∈ adr (.own p (.rows rs)) := fun r hr => by simp only [adr, List.mem_cons, List.mem_map]; exact .inr ⟨r, hr, rfl⟩
  have rp : Reps G.K (Sx S (ρ.set i (.own p (.lst (rs.map fun r => .lst r.2)))) true) H (rs.map fun r => .lst r.2) (rs.map fun r => V.ref r.1) := reps_map fun r hr => by
    obtain ⟨vs, q1, q2⟩ := h2 r hr
    refine Rep.lst (fun z => ?_) q1 (Reps.mv m _ _ q2)
    rcases z with z | ⟨_, j, t, h, ha⟩
    · exact e.out r.1 ⟨i, _, hi, hin r hr⟩ z
    · rcases set_inv h with ⟨_, rfl, _⟩ | ⟨hn, h⟩
      · simp only [adr, List.mem_singleton] at ha
        have := (List.nodup_cons.mp (show (p :: rs.map (·.1)).Nodup from nd)).1
        exact this (by rw [← ha]; exact List.mem_map.mpr ⟨r, hr, rfl⟩)
      · exact hn (e.sep i j _ t r.1 hi h (hin r hr) ha)
  have e2 : EnvR G S H σ (ρ.set i (.own p (.lst (rs.map fun r => .lst r.2)))) c := by
    refine ⟨by rw [List.length_set]; exact e.len, fun j t h => ?_, fun j t h => ?_, fun j k t u a hj hk ha hb => ?_, fun a ha => e.out a (hA a ha), e.dom, e.box⟩
    · rcases set_inv h with ⟨rfl, rfl, hl⟩ | ⟨hn, h⟩
      · exact ⟨hv, _, h1, rp⟩
      · have q := e.sl j t h
        cases t with
        | no => trivial
        | val d => obtain ⟨v, h1, h2⟩ := q; exact ⟨v, h1, Rep.mv m _ _ h2⟩
        | own p' w' => obtain ⟨h1, h2⟩ := q; exact ⟨h1, h2.mv m fun a ha o ho => ho⟩
        | box => exact q
    · rcases set_inv h with ⟨_, rfl, _⟩ | ⟨_, h⟩
      · exact List.nodup_cons.mpr ⟨by simp, List.nodup_nil⟩
      · exact e.nd j t h
    · have red : ∀ {j : Nat} {t : Slot} {a : Addr}, (ρ.set i (.own p (.lst (rs.map fun r => .lst r.2))))[j]? = some t → a ∈ adr t → ∃ t', ρ[j]? = some t' ∧ a ∈ adr t' := fun {j t a} h ha => by
        rcases set_inv h with ⟨rfl, rfl, _⟩ | ⟨_, h⟩
        · exact ⟨_, hi, by simp only [adr, List.mem_singleton] at ha; rw [ha]; simp [adr]⟩
        · exact ⟨t, h, ha⟩
      obtain ⟨t', q1, q2⟩ := red hj ha
      obtain ⟨u', q3, q4⟩ := red hk hb
      exact e.sep j k t' u' a q1 q3 q2 q4
  exact h S σ H e2 D0 (g.keep ⟨fun _ _ h _ _ => h, fun a h => .inl (hA a h)⟩ e.bxH)

/-! ### many new cells at once -/
def addL (S : AS) (F : List Addr) : AS := fun a => S a ∨ a ∈ F
theorem sx_addL {S : AS} {F : List Addr} {a : Addr} : Sx (addL S F) ρ l a ↔ Sx S ρ l a ∨ a ∈ F := by
  unfold Sx addL
  constructor
  · rintro ((h | h) | h)
    · exact .inl (.inl h)
    · exact .inr h
    · exact .inl (.inr h)
  · rintro ((h | h) | h)
    · exact .inl (.inl h)
    · exact .inr h
    · exact .inl (.inr h)
theorem EnvR.setOwnL {S H σ p w F} (e : EnvR G (addL S F) H σ ρ c) (hS : ∀ b, G.bx = some b → S b) (np : ∀ a ∈ F, ¬ S a) (hs : adr (.own p w) = F) (hF : F.Nodup) (hw : OwnR G.K (Sx (addL S F) ρ true) H p w) : EnvR G S H (σ.set i (some (.ref p))) (ρ.set i (.own p w)) c := by
  have hA : ∀ a, Ad (ρ.set i (.own p w)) a → Ad ρ a ∨ a ∈ F := fun a ⟨j, t, h, ha⟩ => by
    rcases set_inv h with ⟨_, rfl, _⟩ | ⟨_, h⟩
    · rw [hs] at ha; exact .inr ha
    · exact .inl ⟨j, t, h, ha⟩
  have m : Mv (Sx (addL S F) ρ true) H (Sx S (ρ.set i (.own p w)) true) H := mv_sub fun a z => by
    rcases z with z | ⟨z, q⟩
    · exact .inl (.inl z)
    · rcases hA a q with q | q
      · exact .inr ⟨z, q⟩
      · exact .inl (.inr q)
  have tr : ∀ (t : Slot) (o : Option V), SlotR G (Sx (addL S F) ρ true) H t o → SlotR G (Sx S (ρ.set i (.own p w)) true) H t o := fun t o q => by
    cases t with
    | no => trivial
    | val d => obtain ⟨v, h1, h2⟩ := q; exact ⟨v, h1, Rep.mv m _ _ h2⟩
    | own p' w => obtain ⟨h1, h2⟩ := q; exact ⟨h1, h2.mv m fun a ha o ho => ho⟩
    | box => exact q
  have npA : ∀ j t, ρ[j]? = some t → ∀ a ∈ F, a ∉ adr t := fun j t h a hF ha => e.out a ⟨j, t, h, ha⟩ (.inr hF)
  refine ⟨by rw [List.length_set, List.length_set]; exact e.len, fun j t h => ?_, fun j t h => ?_, fun j k t u a hj hk ha hb => ?_, fun a ha z => ?_, fun a h => e.dom a (.inl h), fun b hb => ?_⟩
  · rcases set_inv h with ⟨rfl, rfl, hl⟩ | ⟨hn, h⟩
    · rw [getD_set_self (by rw [e.len]; exact hl)]; exact tr (.own p w) _ ⟨rfl, hw⟩
    · rw [getD_set_ne hn]; exact tr _ _ (e.sl j t h)
  · rcases set_inv h with ⟨_, rfl, _⟩ | ⟨_, h⟩
    · rw [hs]; exact hF
    · exact e.nd j t h
  · rcases set_inv hj with ⟨ij, rfl, _⟩ | ⟨_, hj'⟩
    · rcases set_inv hk with ⟨ik, rfl, _⟩ | ⟨_, hk'⟩
      · exact ij.symm.trans ik
      · rw [hs] at ha; exact absurd hb (npA k u hk' a ha)
    · rcases set_inv hk with ⟨ik, rfl, _⟩ | ⟨_, hk'⟩
      · rw [hs] at hb; exact absurd ha (npA j t hj' a hb)
      · exact e.sep j k t u a hj' hk' ha hb
  · rcases hA a ha with q | q
    · exact e.out a q (.inl z)
    · exact np a q z
  · obtain ⟨_, i, j, h2, h3⟩ := e.box b hb
    exact ⟨hS b hb, i, j, h2, h3⟩
/-- new rows: an expression that hands back a new list of new lists -/
def ER (G : Ctx) (te : TE) (ρ : Env) (c : Nat) (Q : List (List D) → Nat → Prop) : Prop :=
  ∀ S σ H, EnvR G S H σ ρ c → ∀ QV : VK, (∀ rs c' p H', Q (rs.map (·.2)) c' → EnvR G (addL S (p :: rs.map (·.1))) H' σ ρ c' → KeepE G H H' → (∀ a ∈ p :: rs.map (·.1), H a = none) → (p :: rs.map (·.1)).Nodup → OwnR G.K (Sx (addL S (p :: rs.map (·.1))) ρ true) H' p (.rows rs) → QV (.ref p) H') → te σ H QV
theorem SW.asgR (h : ER G te ρ c (fun rows c1 => ∀ p rs, rs.map (·.2) = rows → W.nx (ρ.set i (.own p (.rows rs))) c1)) : SW G (tAsg te (gName i)) ρ c W := fun S σ H e D0 g => h S σ H e _ fun rs c' p H' q e' k hn nd ho => by
  refine g.nx _ c' _ H' (q p rs rfl) (e'.setOwnL e.bxS (fun a ha z => e.dom a z (hn a ha)) rfl nd ho) ⟨fun a o h _ n => k a o h n, fun a h => ?_⟩
  obtain ⟨j, t, h, ha⟩ := h
  rcases set_inv h with ⟨_, rfl, _⟩ | ⟨_, h⟩
  · exact .inr (hn a ha)
  · exact .inl ⟨j, t, h, ha⟩
theorem SW.parRV (h : ER G ta ρ c (fun rows c1 => EW G true tb ρ c1 (fun d c2 => ∀ p rs, rs.map (·.2) = rows → W.nx ((ρ.set i (.own p (.rows rs))).set j (.val d)) c2))) : SW G (tPar i j (tCons ta (tCons tb tNil))) ρ c W := fun S σ H e D0 g =>
  h S σ H e _ fun rs c1 p H1 q1 e1 k1 hn nd ho => by
    refine q1 (addL S (p :: rs.map (·.1))) σ H1 e1 _ fun d c2 v H2 q2 e2 k2 r2 => ⟨_, v, rfl, ?_⟩
    have np : ∀ a ∈ p :: rs.map (·.1), ¬ S a := fun a ha z => e.dom a z (hn a ha)
    have cell : ∀ a ∈ adr (.own p (.rows rs)), ∀ o, H1 a = some o → H2 a = some o := fun a ha o h => k2 a o h fun z => np a ha (e.bxS a z)
    have e3 := e2.setOwnL (i := i) e.bxS np rfl nd (ho.mv (e1.mvE k2) cell)
    have m4 : Mv (Sx (addL S (p :: rs.map (·.1))) ρ true) H2 (Sx S (ρ.set i (.own p (.rows rs))) true) H2 := mv_sub fun a z => by
      rcases z with z | ⟨z, k, t, h, ha⟩
      · exact .inl (.inl z)
      · rcases set_inv h with ⟨_, rfl, _⟩ | ⟨hn, h⟩
        · exact .inl (.inr ha)
        · exact .inr ⟨z, k, t, h, ha⟩
    have e4 := e3.setN (i := j) (s := .val d) rfl ⟨v, rfl, Rep.mv m4 _ _ r2⟩
    refine g.nx _ c2 _ H2 (q2 p rs rfl) e4 ⟨fun a o h _ n => k2 a o (k1 a o h n) n, fun a h => ?_⟩
    obtain ⟨j', t, h, ha⟩ := h
    rcases set_inv h with ⟨_, rfl, _⟩ | ⟨_, h⟩
    · cases ha
    · rcases set_inv h with ⟨_, rfl, _⟩ | ⟨_, h⟩
      · exact .inr (hn a ha)
      · exact .inl ⟨j', t, h, ha⟩
/-- [[] for .. in ..] -/
theorem ER.empties {wi : TI} {g : TG} {vs : List Nat} {QR : List (List D) → Nat → Prop} (hw : (vs.all fun v => ownsNo (ρ.getD v .no)) = true) (h : IW true G wi ρ c (fun ds c1 => ds.length ≤ sizeLine ∧ (∀ d ∈ ds, GW G g vs d (wipeE ρ vs) fun ρ2 => wipeE ρ2 vs = wipeE ρ vs) ∧ QR (List.replicate ds.length []) c1)) :
    ER G (tLc wi g tYes (tLst tNil) vs) ρ c QR := fun S σ H e QV kt =>
  h S σ H e _ fun ds c1 J H1 q e1 k1 it D hD => by
    obtain ⟨hz, hs, hq⟩ := q
    have nbD : G.bx ≠ some D := fun z => e1.bxH D z hD
    refine ⟨fun i m H' => ∃ rs : List (Addr × List DD), rs.length = i ∧ (∀ r ∈ rs, r.2 = [] ∧ H' r.1 = some (.lst []) ∧ H1 r.1 = none) ∧ (D :: rs.map (·.1)).Nodup ∧ EnvR G (addL S (D :: rs.map (·.1))) H' σ ρ c1 ∧ KeepE G H1 H' ∧ H' D = some (.lst (rs.map fun r => V.ref r.1)) ∧ i ≤ ds.length ∧ m = ds.length - i,
      ⟨ds.length, [], rfl, (fun r hr => absurd hr (by simp)), by simp, ?_, KeepE.new hD, upd_same, Nat.zero_le _, rfl⟩, ?_⟩
    · have := e1.shut (o := .lst []) hD
      have es : addL S [D] = addS S D := by funext a; simp [addL, addS]
      show EnvR G (addL S [D]) _ σ ρ c1
      rw [es]; exact this
    · rintro i m H' ⟨rs, rfl, hr, nd, e', k', hD', hi, rfl⟩
      have mvD : Mv (Sx S ρ true) H1 (Sx (addL S (D :: rs.map (·.1))) ρ true) H' := fun a o h n => ⟨k' a o h (e1.nb (sx_of n)), fun z => (sx_addL.mp z).elim n fun z => by
        rcases List.mem_cons.mp z with z | z
        · rw [z, hD] at h; cases h
        · obtain ⟨r, hr1, e⟩ := List.mem_map.mp z
          rw [← e, (hr r hr1).2.2] at h; cases h⟩
      have rl : Rl true G (Sx S ρ true) H1 (Sx (addL S (D :: rs.map (·.1))) ρ true) H' := ⟨fun _ => k', mvD, e'.sxH⟩
      by_cases hlt : rs.length < ds.length
      · refine .inr ⟨it.go _ _ _ hlt rl, fun H2 => ∃ rs2 : List (Addr × List DD), rs2.length = rs.length + 1 ∧ (∀ r ∈ rs2, r.2 = [] ∧ H2 r.1 = some (.lst []) ∧ H1 r.1 = none) ∧ (D :: rs2.map (·.1)).Nodup ∧ EnvR G (addL S (D :: rs2.map (·.1))) H2 σ ρ c1 ∧ KeepE G H1 H2 ∧ H2 D = some (.lst (rs2.map fun r => V.ref r.1)),
          fun H2 ⟨rs2, h1, h2, h3, h4, h5, h6⟩ => ⟨ds.length - (rs.length + 1), by omega, rs2, h1, h2, h3, h4, h5, h6, hlt, rfl⟩, fun x H2 y => ?_⟩
        obtain ⟨ex, rx⟩ := it.yld _ _ _ _ x H2 (List.getElem?_eq_getElem hlt) rl y
        have ke : KeepE G H' H2 := fun a o h _ => ex a o h
        have e2 := e'.keepE ke (e'.box.ex ex)
        have ew := e2.wipe vs
        have rx2 : Rep G.K (Sx (addL S (D :: rs.map (·.1))) (wipeE ρ vs) true) H2 ds[rs.length] x := Rep.mv (mv_sub fun a z => by
          rcases z with z | ⟨z, q⟩
          · exact .inl z
          · exact .inr ⟨z, ad_unwipe vs a q⟩) _ _ rx
        refine hs _ (List.getElem_mem hlt) _ _ H2 c1 x ew rx2 _ fun ρ3 σ3 q3 e3 k3 s3 => ⟨?_, ?_⟩
        · rw [s3 vs fun _ h => h]
          exact wipe_wipe σ vs
        · show (Nat.le (List.length ([] : List V)) sizeLine) ∧ _
          refine ⟨Nat.zero_le _, fun a ha => ?_⟩
          -- the new row at a
          have ha1 : H1 a = none := by
            cases z : H1 a with
            | none => rfl
            | some o =>
              by_cases nb : G.bx = some a
              · exact absurd ha (e2.bxH a nb)
              · rw [(k'.trans ke) a o z nb] at ha; cases ha
          have haD : a ≠ D := fun z => by rw [z, ex D _ hD'] at ha; cases ha
          have har : ∀ r ∈ rs, a ≠ r.1 := fun r hr1 z => by rw [z, ex r.1 _ (hr r hr1).2.1] at ha; cases ha
          refine ⟨rs.map fun r => V.ref r.1, by rw [upd_ne haD.symm]; exact ex D _ hD', by rw [List.length_map]; omega, rs ++ [(a, [])], by rw [List.length_append]; rfl, ?_, ?_, ?_, ?_, ?_⟩
          · intro r hr1
            rcases List.mem_append.mp hr1 with hr1 | hr1
            · have := hr r hr1
              refine ⟨this.1, ?_, this.2.2⟩
              have nD : r.1 ≠ D := fun z => by
                have := (List.nodup_cons.mp nd).1
                exact this (by rw [← z]; exact List.mem_map.mpr ⟨r, hr1, rfl⟩)
              rw [upd_ne nD, upd_ne (har r hr1).symm]
              exact ex _ _ this.2.1
            · have e : r = (a, []) := by simpa using hr1
              subst e
              refine ⟨rfl, ?_, ha1⟩
              rw [upd_ne haD]; exact upd_same
          · rw [List.map_append]
            refine List.nodup_cons.mpr ⟨fun z => ?_, ?_⟩
            · rcases List.mem_append.mp z with z | z
              · exact (List.nodup_cons.mp nd).1 z
              · have : D = a := by simpa using z
                exact haD this.symm
            · refine List.nodup_append.mpr ⟨(List.nodup_cons.mp nd).2, by simp, fun x hx y hy => ?_⟩
              have : y = a := by simpa using hy
              obtain ⟨r, hr1, e⟩ := List.mem_map.mp hx
              rw [this, ← e]
              exact (har r hr1).symm
          · have e4 := e2.shut (o := .lst []) ha
            have e5 : EnvR G (addS (addL S (D :: rs.map (·.1))) a) (upd (upd H2 a (.lst [])) D (.lst ((rs.map fun r => V.ref r.1) ++ [.ref a]))) σ ρ c1 := by
              have inS : addS (addL S (D :: rs.map (·.1))) a D := .inl (.inr (by simp))
              have mu : Mv (Sx (addS (addL S (D :: rs.map (·.1))) a) ρ true) (upd H2 a (.lst [])) (Sx (addS (addL S (D :: rs.map (·.1))) a) ρ true) (upd (upd H2 a (.lst [])) D (.lst ((rs.map fun r => V.ref r.1) ++ [.ref a]))) := fun b o h n => ⟨by rw [upd_ne fun z => n (.inl (by rw [z]; exact inS))]; exact h, n⟩
              refine ⟨e4.len, fun j s h => ?_, e4.nd, e4.sep, e4.out, fun b h z => ?_, fun b hb => ?_⟩
              · have q := e4.sl j s h
                cases s with
                | no => trivial
                | val d => obtain ⟨v, h1, h2⟩ := q; exact ⟨v, h1, Rep.mv mu _ _ h2⟩
                | own p' w =>
                  obtain ⟨h1, h2⟩ := q
                  exact ⟨h1, h2.mv mu fun b hb o ho => by rw [upd_ne fun z => e4.out b ⟨j, _, h, hb⟩ (by rw [z]; exact inS)]; exact ho⟩
                | box => exact q
              · by_cases q : b = D
                · rw [q, upd_same] at z; cases z
                · rw [upd_ne q] at z; exact e4.dom b h z
              · obtain ⟨b1, x, y, b2, b3⟩ := e4.box b hb
                exact ⟨b1, x, y, by rw [upd_ne fun z => nbD (by rw [hb, z])]; exact b2, b3⟩
            have eS : addL S (D :: (rs ++ [(a, ([] : List DD))]).map (·.1)) = addS (addL S (D :: rs.map (·.1))) a := by
              funext b
              simp only [addL, addS, List.map_append, List.mem_cons, List.mem_append, List.map_cons, List.map_nil, List.not_mem_nil, or_false]
              apply propext
              constructor
              · rintro (h | h | h | h)
                · exact .inl (.inl h)
                · exact .inl (.inr (.inl h))
                · exact .inl (.inr (.inr h))
                · exact .inr h
              · rintro ((h | h | h) | h)
                · exact .inl h
                · exact .inr (.inl h)
                · exact .inr (.inr (.inl h))
                · exact .inr (.inr (.inr h))
            rw [eS]; exact e5
          · exact fun b o h n => by
              have := (k'.trans ke) b o h n
              rw [upd_ne (ne_of_none h hD), upd_ne (ne_of_none h ha1)]; exact this
          · rw [upd_same, List.map_append]; rfl
      · have ei : rs.length = ds.length := by omega
        refine .inl ⟨by rw [ei]; exact it.stop _ _ (by rw [← ei] at *; exact rl), ?_⟩
        have hrep : rs.map (·.2) = List.replicate ds.length [] := by
          rw [← ei]
          exact List.eq_replicate_iff.mpr ⟨by rw [List.length_map], fun b hb => by obtain ⟨r, hr1, e⟩ := List.mem_map.mp hb; rw [← e]; exact (hr r hr1).1⟩
        refine kt rs c1 D H' (by rw [hrep]; exact hq) e' (k1.trans k') (fun a ha => ?_) nd ⟨hD', fun r hr1 => ⟨[], (hr r hr1).2.1, by rw [(hr r hr1).1]; exact Reps.nil⟩⟩
        rcases List.mem_cons.mp ha with z | z
        · rw [z]; exact none_back e1 k1 hD
        · obtain ⟨r, hr1, e⟩ := List.mem_map.mp z
          rw [← e]; exact none_back e1 k1 (hr r hr1).2.2
/-! ### one row of rows -/
def setR (rs : List (Addr × List DD)) (k : Nat) (es : List DD) : List (Addr × List DD) := rs.set k ((rs.getD k (default, [])).1, es)
theorem setR_fst {rs : List (Addr × List DD)} {k : Nat} {es : List DD} : (setR rs k es).map (·.1) = rs.map (·.1) := by
  unfold setR
  apply List.ext_getElem?
  intro n
  rw [List.getElem?_map, List.getElem?_map]
  by_cases h : k = n
  · subst h
    by_cases hl : k < rs.length
    · rw [List.getElem?_set_self hl, List.getD_eq_getElem?_getD, List.getElem?_eq_getElem hl]; rfl
    · rw [List.getElem?_eq_none (by simpa using hl), List.getElem?_eq_none (by simpa using hl)]
  · rw [List.getElem?_set_ne h]
theorem setR_snd {rs : List (Addr × List DD)} {k : Nat} {es : List DD} : (setR rs k es).map (·.2) = (rs.map (·.2)).set k es := by
  unfold setR; rw [List.map_set]
theorem row_cell {S H σ p rs} {k : Nat} {r : Addr × List DD} (e : EnvR G S H σ ρ c) (hi : ρ[i]? = some (.own p (.rows rs))) (hk : rs[k]? = some r) : ∃ vs, H r.1 = some (.lst vs) ∧ Reps G.K (Sx S ρ true) H r.2 vs := by
  obtain ⟨_, _, h2⟩ := e.sl i _ hi
  exact h2 r (List.mem_of_getElem? hk)
theorem row_write {S H σ p rs k} {r : Addr × List DD} {es : List DD} {ws : List V} (e : EnvR G S H σ ρ c) (hi : ρ[i]? = some (.own p (.rows rs))) (hk : rs[k]? = some r) (rr : Reps G.K (Sx S ρ true) H es ws) :
    EnvR G S (upd H r.1 (.lst ws)) σ (ρ.set i (.own p (.rows (setR rs k es)))) c ∧ Keep G ρ (ρ.set i (.own p (.rows (setR rs k es)))) H (upd H r.1 (.lst ws)) := by
  obtain ⟨hv, h1, h2⟩ := e.sl i _ hi
  have hkl : k < rs.length := (List.getElem?_eq_some_iff.mp hk).1
  have hmem : r ∈ rs := List.mem_of_getElem? hk
  have eadr : adr (.own p (.rows (setR rs k es))) = adr (.own p (.rows rs)) := by
    show p :: (setR rs k es).map (·.1) = p :: rs.map (·.1)
    rw [setR_fst]
  have hin : r.1 ∈ adr (.own p (.rows rs)) := by simp only [adr, List.mem_cons, List.mem_map]; exact .inr ⟨r, hmem, rfl⟩
  have hA : ∀ a, Ad (ρ.set i (.own p (.rows (setR rs k es)))) a ↔ Ad ρ a := fun a => by
    constructor
    · rintro ⟨j, t, h, ha⟩
      rcases set_inv h with ⟨rfl, rfl, _⟩ | ⟨_, h⟩
      · exact ⟨i, _, hi, by rw [← eadr]; exact ha⟩
      · exact ⟨j, t, h, ha⟩
    · rintro ⟨j, t, h, ha⟩
      by_cases ij : i = j
      · subst ij
        rw [hi] at h; cases h
        exact ⟨i, _, List.getElem?_set_self (List.getElem?_eq_some_iff.mp hi).1, by rw [eadr]; exact ha⟩
      · exact ⟨j, t, by rw [List.getElem?_set_ne ij]; exact h, ha⟩
  have hp : Ad ρ r.1 := ⟨i, _, hi, hin⟩
  have eS : Sx S (ρ.set i (.own p (.rows (setR rs k es)))) true = Sx S ρ true := by
    funext a; unfold Sx; rw [propext (hA a)]
  have nd : (p :: rs.map (·.1)).Nodup := e.nd i _ hi
  have ho : ∀ a u, H a = some u → a ≠ r.1 → (upd H r.1 (.lst ws)) a = some u := fun a u h n => by rw [upd_ne n]; exact h
  have m : Mv (Sx S ρ true) H (Sx S ρ true) (upd H r.1 (.lst ws)) := fun a u h n => ⟨ho a u h fun z => n (.inr ⟨rfl, by rw [z]; exact hp⟩), n⟩
  have pne : p ≠ r.1 := fun z => (List.nodup_cons.mp nd).1 (by rw [z]; exact List.mem_map.mpr ⟨r, hmem, rfl⟩)
  have hw : OwnR G.K (Sx S ρ true) (upd H r.1 (.lst ws)) p (.rows (setR rs k es)) := by
    have er : ((setR rs k es).map fun q => V.ref q.1) = rs.map fun q => V.ref q.1 := by
      have := congrArg (List.map V.ref) (setR_fst (rs := rs) (k := k) (es := es))
      rw [List.map_map, List.map_map] at this
      exact this
    refine ⟨by rw [er, upd_ne pne]; exact h1, fun q hq => ?_⟩
    obtain ⟨n, hn⟩ := List.mem_iff_getElem?.mp hq
    unfold setR at hn
    by_cases kn : k = n
    · subst kn
      rw [List.getElem?_set_self hkl] at hn
      cases hn
      have : (rs.getD k (default, [])).1 = r.1 := by rw [List.getD_eq_getElem?_getD, hk]; rfl
      refine ⟨ws, ?_, Reps.mv m _ _ rr⟩
      show (upd H r.1 (.lst ws)) (rs.getD k (default, [])).1 = _
      rw [this]; exact upd_same
    · rw [List.getElem?_set_ne kn] at hn
      obtain ⟨vs, q1, q2⟩ := h2 q (List.mem_of_getElem? hn)
      refine ⟨vs, ?_, Reps.mv m _ _ q2⟩
      rw [upd_ne fun z => ?_]
      · exact q1
      · -- two places of one address are one place
        have hd := (List.nodup_cons.mp nd).2
        have hnl : n < rs.length := (List.getElem?_eq_some_iff.mp hn).1
        have a1 : (rs.map (·.1))[n]'(by rw [List.length_map]; exact hnl) = q.1 := by rw [List.getElem_map]; exact congrArg (·.1) (List.getElem?_eq_some_iff.mp hn).2
        have a2 : (rs.map (·.1))[k]'(by rw [List.length_map]; exact hkl) = r.1 := by rw [List.getElem_map]; exact congrArg (·.1) (List.getElem?_eq_some_iff.mp hk).2
        have := (List.getElem_inj hd).mp (a2.trans (z.symm.trans a1.symm))
        exact kn this
  refine ⟨⟨by rw [List.length_set]; exact e.len, fun j t h => ?_, fun j t h => ?_, fun j k' t u a hj hk' ha hb => ?_, fun a ha => e.out a ((hA a).mp ha), fun a h z => ?_, fun b hb => ?_⟩, ⟨fun a u h n _ => ho a u h fun z => n (by rw [z]; exact hp), fun a h => .inl ((hA a).mp h)⟩⟩
  · rw [eS]
    rcases set_inv h with ⟨rfl, rfl, hl⟩ | ⟨hn, h⟩
    · exact ⟨hv, hw⟩
    · have q := e.sl j t h
      cases t with
      | no => trivial
      | val d => obtain ⟨v, h1, h2⟩ := q; exact ⟨v, h1, Rep.mv m _ _ h2⟩
      | own p' w2 =>
        obtain ⟨q1, q2⟩ := q
        exact ⟨q1, q2.mv m fun a ha u hu => ho a u hu fun z => hn (e.sep i j _ _ r.1 hi h hin (z ▸ ha))⟩
      | box => exact q
  · rcases set_inv h with ⟨_, rfl, _⟩ | ⟨_, h⟩
    · rw [eadr]; exact nd
    · exact e.nd j t h
  · have red : ∀ {j : Nat} {t : Slot} {a : Addr}, (ρ.set i (.own p (.rows (setR rs k es))))[j]? = some t → a ∈ adr t → ∃ t', ρ[j]? = some t' ∧ a ∈ adr t' := fun {j t a} h ha => by
      rcases set_inv h with ⟨rfl, rfl, _⟩ | ⟨_, h⟩
      · exact ⟨_, hi, by rw [← eadr]; exact ha⟩
      · exact ⟨t, h, ha⟩
    obtain ⟨t', q1, q2⟩ := red hj ha
    obtain ⟨u', q3, q4⟩ := red hk' hb
    exact e.sep j k' t' u' a q1 q3 q2 q4
  · by_cases q : a = r.1
    · rw [q, upd_same] at z; cases z
    · rw [upd_ne q] at z; exact e.dom a h z
  · obtain ⟨b1, x, y, b2, b3⟩ := e.box b hb
    exact ⟨b1, x, y, ho b _ b2 fun z => e.out r.1 hp (z ▸ b1), b3⟩
/-- the row at a place, read -/
theorem row_ref {S H σ p rs} {n : Int} {k : Nat} (e : EnvR G S H σ ρ c) (hi : ρ[i]? = some (.own p (.rows rs))) (hk : ixN rs.length n = some k) : ∃ r, rs[k]? = some r ∧ atI (rs.map fun r => V.ref r.1) n = some (.ref r.1) ∧ H p = some (.lst (rs.map fun r => V.ref r.1)) := by
  obtain ⟨_, h1, _⟩ := e.sl i _ hi
  have hl := (ixN_seq hk).2.1
  refine ⟨rs[k], List.getElem?_eq_getElem hl, ?_, h1⟩
  unfold atI
  rw [List.length_map, hk]
  show (rs.map fun r => V.ref r.1)[k]? = _
  rw [List.getElem?_map, List.getElem?_eq_getElem hl]; rfl
/-- rows[k].append(e) -/
theorem SW.rowApp (h : ∃ p rs, ρ[i]? = some (.own p (.rows rs)) ∧ EW G true tb ρ c (fun y c1 => ∃ n k es, y = .int n ∧ ixN rs.length n = some k ∧ (rs.map (·.2))[k]? = some es ∧ es.length < sizeLine ∧ EW G true te ρ c1 (fun d c2 => W.nx (ρ.set i (.own p (.rows (setR rs k (es ++ [d]))))) c2))) :
    SW G (tDrop (tBM G.K "list" rAppend (tOp (rIx G.K) (tVar i) tb) (tCons te tNil))) ρ c W := fun S σ H e D0 g => by
  obtain ⟨p, rs, hi, h⟩ := h
  refine ⟨_, slot_ref e hi, h S σ H e _ fun y c1 w H1 q1 e1 k1 r1 => ?_⟩
  obtain ⟨n, k, es, rfl, hk, hes, hz, q1⟩ := q1
  obtain ⟨r, hr, ha, hp⟩ := row_ref e1 hi hk
  have er : r.2 = es := by rw [List.getElem?_map, hr] at hes; exact Option.some.inj hes
  subst er
  obtain ⟨vs, hv, _⟩ := row_cell e1 hi hr
  refine .inl ⟨p, _, n, _, rfl, r1.int_inv, .of hp, ha, .inl ⟨rfl, vs, .of hv⟩, q1 S σ H1 e1 _ fun d c2 v H2 q2 e2 k2 r2 => ?_⟩
  obtain ⟨vs2, hv2, rr⟩ := row_cell e2 hi hr
  obtain ⟨e3, k3⟩ := row_write e2 hi hr (rr.append (Reps.cons r2 Reps.nil))
  exact ⟨r.1, vs2, v, rfl, rfl, hv2, by rw [rr.length]; exact hz, g.nx _ c2 σ _ q2 e3 ((k1.trans k2).keep.trans k3 e2.bxH)⟩
/-- rows[k].pop(n) -/
theorem SW.rowPop (h : ∃ p rs, ρ[i]? = some (.own p (.rows rs)) ∧ EW G true tb ρ c (fun y c1 => ∃ n k es, y = .int n ∧ ixN rs.length n = some k ∧ (rs.map (·.2))[k]? = some es ∧ EW G true te ρ c1 (fun d c2 => ∃ (m : Int) (q : Nat), d = .int m ∧ -(2 ^ 63) ≤ m ∧ m < 2 ^ 63 ∧ seqIndex? m es.length = some q ∧ q < es.length ∧ W.nx (ρ.set i (.own p (.rows (setR rs k (es.eraseIdx q))))) c2))) :
    SW G (tDrop (tBM G.K "list" rPopAt (tOp (rIx G.K) (tVar i) tb) (tCons te tNil))) ρ c W := fun S σ H e D0 g => by
  obtain ⟨p, rs, hi, h⟩ := h
  refine ⟨_, slot_ref e hi, h S σ H e _ fun y c1 w H1 q1 e1 k1 r1 => ?_⟩
  obtain ⟨n, k, es, rfl, hk, hes, q1⟩ := q1
  obtain ⟨r, hr, ha, hp⟩ := row_ref e1 hi hk
  have er : r.2 = es := by rw [List.getElem?_map, hr] at hes; exact Option.some.inj hes
  subst er
  obtain ⟨vs, hv, _⟩ := row_cell e1 hi hr
  refine .inl ⟨p, _, n, _, rfl, r1.int_inv, .of hp, ha, .inl ⟨rfl, vs, .of hv⟩, q1 S σ H1 e1 _ fun d c2 v H2 q2 e2 k2 r2 => ?_⟩
  obtain ⟨m, q, rfl, m0, m1, hs, hq, q2⟩ := q2
  obtain ⟨vs2, hv2, rr⟩ := row_cell e2 hi hr
  obtain ⟨e3, k3⟩ := row_write e2 hi hr (rr.eraseIdx q)
  exact ⟨r.1, vs2, m, q, vs2[q]'(by rw [rr.length]; exact hq), rfl, by rw [r2.int_inv], hv2, m0, m1, by rw [rr.length]; exact hs, List.getElem?_eq_getElem _, g.nx _ c2 σ _ q2 e3 ((k1.trans k2).keep.trans k3 e2.bxH)⟩
/-- rows[j].append(rows[k].pop(n)) -/
theorem SW.rowMove {tb2 : TE} (h : ∃ p rs, ρ[i]? = some (.own p (.rows rs)) ∧ EW G true ta ρ c (fun y c1 => ∃ n j, y = .int n ∧ ixN rs.length n = some j ∧ EW G true tb2 ρ c1 (fun y2 c2 => ∃ n2 k es, y2 = .int n2 ∧ ixN rs.length n2 = some k ∧ (rs.map (·.2))[k]? = some es ∧ EW G true te ρ c2 (fun d c3 => ∃ (m : Int) (q : Nat) (x : DD) (fs : List DD), d = .int m ∧ -(2 ^ 63) ≤ m ∧ m < 2 ^ 63 ∧ seqIndex? m es.length = some q ∧ es[q]? = some x ∧
      ((setR rs k (es.eraseIdx q)).map (·.2))[j]? = some fs ∧ fs.length < sizeLine ∧ W.nx (ρ.set i (.own p (.rows (setR (setR rs k (es.eraseIdx q)) j (fs ++ [x]))))) c3)))) :
    SW G (tDrop (tBM G.K "list" rAppend (tOp (rIx G.K) (tVar i) ta) (tCons (tBM G.K "list" rPopAt (tOp (rIx G.K) (tVar i) tb2) (tCons te tNil)) tNil))) ρ c W := fun S σ H e D0 g => by
  obtain ⟨p, rs, hi, h⟩ := h
  refine ⟨_, slot_ref e hi, h S σ H e _ fun y c1 w H1 q1 e1 k1 r1 => ?_⟩
  obtain ⟨n, j, rfl, hj, q1⟩ := q1
  obtain ⟨rj, hrj, haj, hpj⟩ := row_ref e1 hi hj
  obtain ⟨vsj, hvj, _⟩ := row_cell e1 hi hrj
  refine .inl ⟨p, _, n, _, rfl, r1.int_inv, .of hpj, haj, .inl ⟨rfl, vsj, .of hvj⟩, ?_⟩
  refine ⟨_, slot_ref e1 hi, q1 S σ H1 e1 _ fun y2 c2 w2 H2 q2 e2 k2 r2 => ?_⟩
  obtain ⟨n2, k, es, rfl, hk, hes, q2⟩ := q2
  obtain ⟨r, hr, ha, hp⟩ := row_ref e2 hi hk
  have er : r.2 = es := by rw [List.getElem?_map, hr] at hes; exact Option.some.inj hes
  subst er
  obtain ⟨vs, hv, _⟩ := row_cell e2 hi hr
  refine .inl ⟨p, _, n2, _, rfl, r2.int_inv, .of hp, ha, .inl ⟨rfl, vs, .of hv⟩, q2 S σ H2 e2 _ fun d c3 v H3 q3 e3 k3 r3 => ?_⟩
  obtain ⟨m, q, x, fs, rfl, m0, m1, hs, hx, hfs, hz, q3⟩ := q3
  obtain ⟨vs3, hv3, rr⟩ := row_cell e3 hi hr
  obtain ⟨vx, hvx, rx⟩ := rr.get hx
  obtain ⟨e4, k4⟩ := row_write e3 hi hr (rr.eraseIdx q)
  have hi4 : (ρ.set i (.own p (.rows (setR rs k (r.2.eraseIdx q)))))[i]? = some (.own p (.rows (setR rs k (r.2.eraseIdx q)))) := List.getElem?_set_self (List.getElem?_eq_some_iff.mp hi).1
  refine ⟨r.1, vs3, m, q, vx, rfl, by rw [r3.int_inv], hv3, m0, m1, by rw [rr.length]; exact hs, hvx, ?_⟩
  have hjl : j < (setR rs k (r.2.eraseIdx q)).length := by unfold setR; rw [List.length_set]; exact (List.getElem?_eq_some_iff.mp hrj).1
  have hr4 : (setR rs k (r.2.eraseIdx q))[j]? = some (setR rs k (r.2.eraseIdx q))[j] := List.getElem?_eq_getElem hjl
  have ef : ((setR rs k (r.2.eraseIdx q))[j]).2 = fs := by rw [List.getElem?_map, hr4] at hfs; exact Option.some.inj hfs
  have ea : ((setR rs k (r.2.eraseIdx q))[j]).1 = rj.1 := by
    have h1 := congrArg (fun l => l[j]?) (setR_fst (rs := rs) (k := k) (es := r.2.eraseIdx q))
    simp only [List.getElem?_map, hr4, hrj] at h1
    exact Option.some.inj h1
  obtain ⟨vs4, hv4, rr4⟩ := row_cell e4 hi4 hr4
  have rx4 : Rep G.K (Sx S (ρ.set i (.own p (.rows (setR rs k (r.2.eraseIdx q))))) true) (upd H3 r.1 (.lst (vs3.eraseIdx q))) x vx := Rep.mv (e3.mv k4) _ _ rx
  obtain ⟨e5, k5⟩ := row_write e4 hi4 hr4 (rr4.append (Reps.cons rx4 Reps.nil))
  rw [ef, List.set_set] at e5
  rw [ef, List.set_set] at k5
  rw [ea] at hv4 e5 k5
  refine ⟨rj.1, vs4, vx, rfl, rfl, hv4, by rw [rr4.length, ef]; exact hz, ?_⟩
  exact g.nx _ c3 σ _ q3 e5 ((((k1.trans k2).trans k3).keep.trans k4 e3.bxH).trans k5 e4.bxH)
/-- rows[k][n] = e -/
theorem SW.rowStore (h : ∃ p rs, ρ[i]? = some (.own p (.rows rs)) ∧ EW G true te ρ c (fun d c1 => EW G true tb ρ c1 (fun y c2 => ∃ n k es, y = .int n ∧ ixN rs.length n = some k ∧ (rs.map (·.2))[k]? = some es ∧ EW G true tx ρ c2 (fun y2 c3 => ∃ m q, y2 = .int m ∧ ixN es.length m = some q ∧ W.nx (ρ.set i (.own p (.rows (setR rs k (es.set q d))))) c3)))) :
    SW G (tAsg te (gSub (tOp (rIx G.K) (tVar i) tb) tx rSetL)) ρ c W := fun S σ H e D0 g => by
  obtain ⟨p, rs, hi, h⟩ := h
  refine h S σ H e _ fun d c1 v H1 q1 e1 k1 r1 => ⟨_, slot_ref e1 hi, q1 S σ H1 e1 _ fun y c2 w H2 q2 e2 k2 r2 => ?_⟩
  obtain ⟨n, k, es, rfl, hk, hes, q2⟩ := q2
  obtain ⟨r, hr, ha, hp⟩ := row_ref e2 hi hk
  have er : r.2 = es := by rw [List.getElem?_map, hr] at hes; exact Option.some.inj hes
  subst er
  refine .inl ⟨p, _, n, _, rfl, r2.int_inv, .of hp, ha, q2 S σ H2 e2 _ fun y2 c3 w2 H3 q3 e3 k3 r3 => ?_⟩
  obtain ⟨m, q, rfl, hq, q3⟩ := q3
  obtain ⟨vs3, hv3, rr⟩ := row_cell e3 hi hr
  obtain ⟨e4, k4⟩ := row_write e3 hi hr (rr.set q (Rep.mv (e1.mvE (k2.trans k3)) _ _ r1))
  exact ⟨r.1, vs3, m, q, rfl, r3.int_inv, hv3, by rw [rr.length]; exact hq, g.nx _ c3 σ _ q3 e4 (((k1.trans k2).trans k3).keep.trans k4 e3.bxH)⟩
/-- rows[k][n]: an item of a row -/
theorem EW.rowIx (h : ∃ p rs, ρ[i]? = some (.own p (.rows rs)) ∧ EW G l tb ρ c (fun y c1 => ∃ n k es, y = .int n ∧ ixN rs.length n = some k ∧ (rs.map (·.2))[k]? = some es ∧ EW G l tx ρ c1 (fun y2 c2 => ∃ m d, y2 = .int m ∧ atI es m = some d ∧ Q d c2))) :
    EW G l (tOp (rIx G.K) (tOp (rIx G.K) (tVar i) tb) tx) ρ c Q := fun S σ H e QV kt => by
  obtain ⟨p, rs, hi, h⟩ := h
  refine ⟨_, slot_ref e hi, h S σ H e _ fun y c1 w H1 q1 e1 k1 r1 => ?_⟩
  obtain ⟨n, k, es, rfl, hk, hes, q1⟩ := q1
  obtain ⟨r, hr, ha, hp⟩ := row_ref e1 hi hk
  have er : r.2 = es := by rw [List.getElem?_map, hr] at hes; exact Option.some.inj hes
  subst er
  refine .inl ⟨p, _, n, _, rfl, r1.int_inv, .of hp, ha, q1 S σ H1 e1 _ fun y2 c2 w2 H2 q2 e2 k2 r2 => ?_⟩
  obtain ⟨m, d, rfl, hd, q⟩ := q2
  obtain ⟨vs, hv, rr⟩ := row_cell e2 hi hr
  obtain ⟨v, hvv, rv⟩ := atI_rep rr hd
  exact .inl ⟨r.1, vs, m, v, rfl, r2.int_inv, .of hv, hvv, (kt.keep (k1.trans k2)).ret q e2 rv.weak⟩
end
end Q
namespace Q
open PySem PySem.Spec PyProof.Rows L2
theorem no_V {K ps vs H Q E} (h : ∀ ds P, ps ds P → False) (hs : spV K ps vs H Q E) : False := by
  obtain ⟨S, ds, P, _, _, hp, _⟩ := hs; exact h ds P hp
theorem no_F {K ps vs H Q E} (h : ∀ ds P, ps ds P → False) (hs : spF K ps vs H Q E) : False := by
  obtain ⟨S, ds, P, _, _, hp, _⟩ := hs; exact h ds P hp
/-! ### a def that hands back new rows -/
abbrev PR := List D → (List (List D) → Prop) → Prop
def spR (K : Frag) (ps : PR) : Sp := fun vs H Q _ => ∃ S ds P, (∀ a, S a → H a ≠ none) ∧ Reps K S H ds vs ∧ ps ds P ∧ ∀ rs : List (Addr × List D), P (rs.map (·.2)) → ∀ p H', (∀ a o, H a = some o → H' a = some o) → (∀ a ∈ p :: rs.map (·.1), H a = none) → (p :: rs.map (·.1)).Nodup → OwnR K (addL S (p :: rs.map (·.1))) H' p (.rows rs) → Q (.ref p) H'
theorem lenR {K ps vs H Q E} {n : Nat} (h : ∀ ds P, ps ds P → ds.length = n) (hs : spR K ps vs H Q E) : vs.length = n := by
  obtain ⟨S, ds, P, _, r, hp, _⟩ := hs
  rw [r.length]; exact h ds P hp
section
variable {G : Ctx} {l : Bool} {ρ : Env} {c c1 : Nat} {te ta tb : TE} {tr : TA} {QR : List (List D) → Nat → Prop}
theorem EnvR.shutL {S H H' σ c'} (e : EnvR G S H σ ρ c) {F : List Addr} (hF : ∀ a ∈ F, H a = none ∧ H' a ≠ none) (k : KeepE G H H') (hb : BoxR G S H' c') : EnvR G (addL S F) H' σ ρ c' := by
  have m : Mv (Sx S ρ true) H (Sx (addL S F) ρ true) H' := fun a o h n => ⟨k a o h (e.nb (sx_of n)), fun z => (sx_addL.mp z).elim n fun z => by rw [(hF a z).1] at h; cases h⟩
  refine ⟨e.len, fun i s h => ?_, e.nd, e.sep, fun a ha z => ?_, fun a h z => ?_, fun b hbx => ?_⟩
  · have q := e.sl i s h
    cases s with
    | no => trivial
    | val d => obtain ⟨v, h1, h2⟩ := q; exact ⟨v, h1, Rep.mv m _ _ h2⟩
    | own p w =>
      obtain ⟨h1, h2⟩ := q
      exact ⟨h1, h2.mv m fun a ha o ho => k a o ho (e.nb (e.out a ⟨i, _, h, ha⟩))⟩
    | box => exact q
  · rcases z with z | z
    · exact e.out a ha z
    · exact e.adH a ha (hF a z).1
  · rcases h with h | h
    · cases q : H a with
      | none => exact e.dom a h q
      | some o =>
        by_cases nb : G.bx = some a
        · obtain ⟨_, i, j, q2, _⟩ := hb a nb
          rw [q2] at z; cases z
        · rw [k a o q nb] at z; cases z
    · exact (hF a h).2 z
  · obtain ⟨h1, i, j, h2⟩ := hb b hbx
    exact ⟨.inl h1, i, j, h2⟩
theorem rows_there {K S H p rs} (h : OwnR K S H p (.rows rs)) : ∀ a ∈ p :: rs.map (·.1), H a ≠ none := fun a ha z => by
  obtain ⟨h1, h2⟩ := h
  rcases List.mem_cons.mp ha with e | e
  · rw [e, h1] at z; cases z
  · obtain ⟨r, hr, e2⟩ := List.mem_map.mp e
    obtain ⟨vs, q, _⟩ := h2 r hr
    rw [← e2, q] at z; cases z
theorem ER.callR {ps : PR} {E : XK} (h : AW G true tr ρ c (fun ds c1 => ps ds (fun rows => QR rows c1))) : ER G (tCall (spR G.K ps) [] E tr) ρ c QR := fun S σ H e QV kt => h S σ H e _ fun ds c1 vs H1 q e1 k1 r => by
  rw [List.append_nil]
  refine ⟨Sx S ρ true, ds, _, e1.sxH, r, q, fun rs hq p H' ex hn nd ho => ?_⟩
  have kE : KeepE G H1 H' := fun a o h _ => ex a o h
  have e2 := e1.shutL (F := p :: rs.map (·.1)) (fun a ha => ⟨hn a ha, rows_there ho a ha⟩) kE (e1.box.ex ex)
  have m : Mv (addL (Sx S ρ true) (p :: rs.map (·.1))) H' (Sx (addL S (p :: rs.map (·.1))) ρ true) H' := mv_sub fun a z => by
    rcases sx_addL.mp z with z | z
    · exact .inl z
    · exact .inr z
  exact kt rs c1 p H' hq e2 (k1.trans kE) (fun a ha => none_back e1 k1 (hn a ha)) nd (ho.mv m fun _ _ _ h => h)
/-- [e for ..], each e a new list -/
theorem ER.lcF {α : Type} (as : List α) (k : α → D) (hh : α → List D) {wi : TI} {g : TG} {vs : List Nat} (hw : (vs.all fun v => ownsNo (ρ.getD v .no)) = true)
    (h : IW true G wi ρ c (fun ds c1 => ds = as.map k ∧ as.length ≤ sizeLine ∧ (∀ a ∈ as, GW G g vs (k a) (wipeE ρ vs) fun ρ2 => wipeE ρ2 vs = wipeE ρ vs ∧ EF G true te ρ2 c1 (fun es c4 => es = hh a ∧ c4 = c1)) ∧ QR (as.map hh) c1)) :
    ER G (tLc wi g tYes te vs) ρ c QR := fun S σ H e QV kt =>
  h S σ H e _ fun ds c1 J H1 q e1 k1 it D hD => by
    obtain ⟨rfl, hz, hs, hq⟩ := q
    have nbD : G.bx ≠ some D := fun z => e1.bxH D z hD
    refine ⟨fun i m H' => ∃ rs : List (Addr × List DD), rs.map (·.2) = (as.take i).map hh ∧ i ≤ as.length ∧ (∀ r ∈ rs, H1 r.1 = none ∧ ∃ ws, H' r.1 = some (.lst ws) ∧ Reps G.K (Sx (addL S (D :: rs.map (·.1))) ρ true) H' r.2 ws) ∧ (D :: rs.map (·.1)).Nodup ∧ EnvR G (addL S (D :: rs.map (·.1))) H' σ ρ c1 ∧ KeepE G H1 H' ∧ H' D = some (.lst (rs.map fun r => V.ref r.1)) ∧ m = as.length - i,
      ⟨as.length, [], by simp, Nat.zero_le _, (fun r hr => absurd hr (by simp)), by simp, ?_, KeepE.new hD, upd_same, rfl⟩, ?_⟩
    · have := e1.shut (o := .lst []) hD
      have es : addL S [D] = addS S D := by funext a; simp [addL, addS]
      show EnvR G (addL S [D]) _ σ ρ c1
      rw [es]; exact this
    · rintro i m H' ⟨rs, hrs, hi, hr, nd, e', k', hD', rfl⟩
      have hlen : rs.length = i := by
        have := congrArg List.length hrs
        rw [List.length_map, List.length_map, List.length_take] at this
        omega
      have mvD : Mv (Sx S ρ true) H1 (Sx (addL S (D :: rs.map (·.1))) ρ true) H' := fun a o h n => ⟨k' a o h (e1.nb (sx_of n)), fun z => (sx_addL.mp z).elim n fun z => by
        rcases List.mem_cons.mp z with z | z
        · rw [z, hD] at h; cases h
        · obtain ⟨r, hr1, e⟩ := List.mem_map.mp z
          rw [← e, (hr r hr1).1] at h; cases h⟩
      have rl : Rl true G (Sx S ρ true) H1 (Sx (addL S (D :: rs.map (·.1))) ρ true) H' := ⟨fun _ => k', mvD, e'.sxH⟩
      by_cases hlt : i < as.length
      · have hlt' : i < (as.map k).length := by rw [List.length_map]; exact hlt
        refine .inr ⟨it.go _ _ _ hlt' rl, fun H2 => ∃ rs2 : List (Addr × List DD), rs2.map (·.2) = (as.take (i + 1)).map hh ∧ (∀ r ∈ rs2, H1 r.1 = none ∧ ∃ ws, H2 r.1 = some (.lst ws) ∧ Reps G.K (Sx (addL S (D :: rs2.map (·.1))) ρ true) H2 r.2 ws) ∧ (D :: rs2.map (·.1)).Nodup ∧ EnvR G (addL S (D :: rs2.map (·.1))) H2 σ ρ c1 ∧ KeepE G H1 H2 ∧ H2 D = some (.lst (rs2.map fun r => V.ref r.1)),
          fun H2 ⟨rs2, h1, h2, h3, h4, h5, h6⟩ => ⟨as.length - (i + 1), by omega, rs2, h1, hlt, h2, h3, h4, h5, h6, rfl⟩, fun x H2 y => ?_⟩
        obtain ⟨ex, rx⟩ := it.yld i _ _ _ x H2 (List.getElem?_eq_getElem hlt') rl y
        have ke : KeepE G H' H2 := fun a o h _ => ex a o h
        have e2 := e'.keepE ke (e'.box.ex ex)
        have ew := e2.wipe vs
        have ek : (as.map k)[i] = k as[i] := List.getElem_map ..
        rw [ek] at rx
        have rx2 : Rep G.K (Sx (addL S (D :: rs.map (·.1))) (wipeE ρ vs) true) H2 (k as[i]) x := Rep.mv (mv_sub fun a z => by
          rcases z with z | ⟨z, q⟩
          · exact .inl z
          · exact .inr ⟨z, ad_unwipe vs a q⟩) _ _ rx
        refine hs as[i] (List.getElem_mem hlt) _ _ H2 c1 x ew rx2 _ fun ρ3 σ3 q3 e3 k3 s3 => ⟨?_, ?_⟩
        · rw [s3 vs fun _ h => h]
          exact wipe_wipe σ vs
        · obtain ⟨hwe, q3⟩ := q3
          have adS : ∀ a, Ad ρ a → Ad ρ3 a := fun a ha => ad_unwipe vs a (by rw [hwe]; exact ad_wipe vs hw a ha)
          refine q3 _ σ3 H2 e3 _ fun es c4 a ws H4 q5 e5 k5 ha hl r5 => ?_
          obtain ⟨rfl, rfl⟩ := q5
          have kk : KeepE G H' H4 := ke.trans k5
          have nbx : ∀ b, b ∈ D :: rs.map (·.1) → G.bx ≠ some b := fun b hb z => by
            rcases List.mem_cons.mp hb with e0 | e0
            · rw [e0] at z; exact nbD z
            · obtain ⟨r, hr1, e9⟩ := List.mem_map.mp e0
              rw [← e9] at z
              exact e1.bxH r.1 z (hr r hr1).1
          have ha1 : H1 a = none := by
            cases z : H1 a with
            | none => rfl
            | some o =>
              by_cases nb : G.bx = some a
              · exact absurd ha (e2.bxH a nb)
              · rw [(k'.trans ke) a o z nb] at ha; cases ha
          have haD : a ≠ D := fun z => by rw [z, ex D _ hD'] at ha; cases ha
          have har : ∀ r ∈ rs, a ≠ r.1 := fun r hr1 z => by
            obtain ⟨w0, hw0, _⟩ := (hr r hr1).2
            rw [z, ex r.1 _ hw0] at ha; cases ha
          have hD4 : H4 D = some (.lst (rs.map fun r => V.ref r.1)) := kk D _ hD' nbD
          have eS : addL S (D :: (rs ++ [(a, hh as[i])]).map (·.1)) = addS (addL S (D :: rs.map (·.1))) a := by
            funext b
            simp only [addL, addS, List.map_append, List.mem_cons, List.mem_append, List.map_cons, List.map_nil, List.not_mem_nil, or_false]
            apply propext
            constructor
            · rintro (h | h | h | h)
              · exact .inl (.inl h)
              · exact .inl (.inr (.inl h))
              · exact .inl (.inr (.inr h))
              · exact .inr h
            · rintro ((h | h | h) | h)
              · exact .inl h
              · exact .inr (.inl h)
              · exact .inr (.inr (.inl h))
              · exact .inr (.inr (.inr h))
          have e4 : EnvR G (addS (addL S (D :: rs.map (·.1))) a) H4 σ ρ c4 := e2.shutTo ha hl k5 (by
            have := e5.box
            exact fun b hb => by
              obtain ⟨b1, b2⟩ := this b hb
              refine ⟨?_, b2⟩
              rcases b1 with b1 | b1
              · exact b1
              · exact absurd ha (by rw [← b1]; exact e2.bxH b hb))
          have inS : addS (addL S (D :: rs.map (·.1))) a D := .inl (.inr (by simp))
          have mu : Mv (Sx (addS (addL S (D :: rs.map (·.1))) a) ρ true) H4 (Sx (addS (addL S (D :: rs.map (·.1))) a) ρ true) (upd H4 D (.lst ((rs.map fun r => V.ref r.1) ++ [.ref a]))) := fun b o h n => ⟨by rw [upd_ne fun z => n (.inl (by rw [z]; exact inS))]; exact h, n⟩
          refine ⟨rs.map fun r => V.ref r.1, hD4, by rw [List.length_map]; omega, rs ++ [(a, hh as[i])], ?_, ?_, ?_, ?_, ?_, ?_⟩
          · rw [List.map_append, hrs, List.take_add_one, List.getElem?_eq_getElem hlt, List.map_append]; rfl
          · intro r hr1
            rw [eS]
            rcases List.mem_append.mp hr1 with hr1 | hr1
            · obtain ⟨n1, w0, hw0, rw0⟩ := hr r hr1
              have nD : r.1 ≠ D := fun z => (List.nodup_cons.mp nd).1 (by rw [← z]; exact List.mem_map.mpr ⟨r, hr1, rfl⟩)
              refine ⟨n1, w0, ?_, Reps.mv mu _ _ (Reps.mv (fun b o h n => ⟨kk b o h (e'.nb (sx_of n)), fun z => (sx_add.mp z).elim n fun z => ?_⟩) _ _ rw0)⟩
              · rw [upd_ne nD]; exact kk r.1 _ hw0 (nbx r.1 (List.mem_cons_of_mem _ (List.mem_map.mpr ⟨r, hr1, rfl⟩)))
              · rw [z] at h
                rw [ex a o h] at ha; cases ha
            · have e : r = (a, hh as[i]) := by simpa using hr1
              subst e
              refine ⟨ha1, ws, ?_, Reps.mv mu _ _ (Reps.mv (mv_sub fun b z => ?_) _ _ r5)⟩
              · rw [upd_ne haD]; exact hl
              · rcases z with z | ⟨z, q⟩
                · exact .inl z
                · exact .inr ⟨z, adS b q⟩
          · rw [List.map_append]
            refine List.nodup_cons.mpr ⟨fun z => ?_, ?_⟩
            · rcases List.mem_append.mp z with z | z
              · exact (List.nodup_cons.mp nd).1 z
              · have : D = a := by simpa using z
                exact haD this.symm
            · refine List.nodup_append.mpr ⟨(List.nodup_cons.mp nd).2, by simp, fun x hx y hy => ?_⟩
              have : y = a := by simpa using hy
              obtain ⟨r, hr1, e⟩ := List.mem_map.mp hx
              rw [this, ← e]
              exact (har r hr1).symm
          · rw [eS]
            refine ⟨e4.len, fun j s h => ?_, e4.nd, e4.sep, e4.out, fun b h z => ?_, fun b hb => ?_⟩
            · have q := e4.sl j s h
              cases s with
              | no => trivial
              | val d => obtain ⟨v, h1, h2⟩ := q; exact ⟨v, h1, Rep.mv mu _ _ h2⟩
              | own p' w =>
                obtain ⟨h1, h2⟩ := q
                exact ⟨h1, h2.mv mu fun b hb o ho => by rw [upd_ne fun z => e4.out b ⟨j, _, h, hb⟩ (by rw [z]; exact inS)]; exact ho⟩
              | box => exact q
            · by_cases q : b = D
              · rw [q, upd_same] at z; cases z
              · rw [upd_ne q] at z; exact e4.dom b h z
            · obtain ⟨b1, x, y, b2, b3⟩ := e4.box b hb
              exact ⟨b1, x, y, by rw [upd_ne fun z => nbD (by rw [hb, z])]; exact b2, b3⟩
          · exact fun b o h n => by
              have := (k'.trans kk) b o h n
              rw [upd_ne (ne_of_none h hD)]; exact this
          · rw [upd_same, List.map_append]; rfl
      · have ei : i = as.length := by omega
        subst ei
        have hst := it.stop _ _ rl
        rw [List.length_map] at hst
        rw [List.take_length] at hrs
        refine .inl ⟨hst, kt rs c1 D H' (by rw [hrs]; exact hq) e' (k1.trans k') (fun a ha => ?_) nd ⟨hD', fun r hr1 => (hr r hr1).2⟩⟩
        rcases List.mem_cons.mp ha with z | z
        · rw [z]; exact none_back e1 k1 hD
        · obtain ⟨r, hr1, e⟩ := List.mem_map.mp z
          rw [← e]; exact none_back e1 k1 (hr r hr1).1
end
/-- a body that hands back new rows -/
def SRw (G : Ctx) (ts : TS) (ρ : Env) (c : Nat) (P : List (List D) → Nat → Prop) : Prop :=
  ∀ S σ H, EnvR G S H σ ρ c → ∀ D0 : Ends, (∀ (rs : List (Addr × List D)) c' p H', P (rs.map (·.2)) c' → KeepE G H H' → (∀ a ∈ p :: rs.map (·.1), H a = none) → (p :: rs.map (·.1)).Nodup → OwnR G.K (addL S (p :: rs.map (·.1))) H' p (.rows rs) → D0.rt (.ref p) H') → ts D0 σ H
theorem SRw.ret {G ρ c te P} (h : ER G te ρ c P) : SRw G (tRet te) ρ c P := fun S σ H e D0 k => h S σ H e _ fun rs c' p H' q e' ke hn nd ho => k rs c' p H' q ke hn nd (ho.mv (mv_sub fun a z => .inl z) fun _ _ _ h => h)
theorem SRw.ite {G ρ c tt t u P} (h : TW G tt ρ c (fun b c1 => (b = true → SRw G t ρ c1 P) ∧ (b = false → SRw G u ρ c1 P))) : SRw G (tIfS tt t u) ρ c P := fun S σ H e D0 k => h S σ H e _ fun b c1 H1 q e1 k1 => by
  have kk : ∀ (rs : List (Addr × List D)) c' p H', P (rs.map (·.2)) c' → KeepE G H1 H' → (∀ a ∈ p :: rs.map (·.1), H1 a = none) → (p :: rs.map (·.1)).Nodup → OwnR G.K (addL S (p :: rs.map (·.1))) H' p (.rows rs) → D0.rt (.ref p) H' := fun rs c' p H' q ke hn nd ho =>
    k rs c' p H' q (k1.trans ke) (fun a ha => none_back e1 k1 (hn a ha)) nd ho
  cases b with
  | true => exact (q.1 rfl) S σ H1 e1 D0 kk
  | false => exact (q.2 rfl) S σ H1 e1 D0 kk
/-- an if that hands back, then statements that are not reached -/
theorem SRw.seqIf {G ρ c tt t u P} (h : TW G tt ρ c (fun b c1 => b = true ∧ SRw G t ρ c1 P)) : SRw G (tSeq (tIfS tt t tNext) u) ρ c P := fun S σ H e D0 k => h S σ H e _ fun b c1 H1 q e1 k1 => by
  obtain ⟨rfl, q⟩ := q
  exact q S σ H1 e1 { D0 with nx := u D0 } fun rs c' p H' q2 ke hn nd ho => k rs c' p H' q2 (k1.trans ke) (fun a ha => none_back e1 k1 (hn a ha)) nd ho
theorem SF.seqIf {G ρ c tt t u} {P : List D → Nat → Prop} (h : TW G tt ρ c (fun b c1 => b = true ∧ SF G t ρ c1 P)) : SF G (tSeq (tIfS tt t tNext) u) ρ c P := fun S σ H e D0 k => h S σ H e _ fun b c1 H1 q e1 k1 => by
  obtain ⟨rfl, q⟩ := q
  exact q S σ H1 e1 { D0 with nx := u D0 } fun es c' p vs H' q2 ex bx hp hl r => k es c' p vs H' q2 (fun a o h n nb => ex a o (k1 a o h nb) n nb) bx (hp.imp (none_back e1 k1) id) hl r
theorem runR {K : Frag} {ps : PR} {t : TS} {N : List Str} {vs : List V} {H : Hp} {Q : VK} {E : XK} {n : Nat} (hn : ∀ ds P, ps ds P → ds.length = n) (hN : n ≤ N.length) (h : ∀ ds P, ps ds P → SRw ⟨K, none⟩ t (env0 N.length ds) 0 (fun rs _ => P rs)) (hs : spR K ps vs H Q E) :
    t { nx := fun _ H' => Q .non H', rt := Q } (L2.start N vs) H := by
  obtain ⟨S, ds, P, hd, r, hp, hq⟩ := hs
  have sw := h ds P hp
  have hl : ds.length ≤ N.length := by rw [hn ds P hp]; exact hN
  have e : EnvR ⟨K, none⟩ S H (L2.start N vs) (env0 N.length ds) 0 := by
    have := start_env (K := K) (bx := none) (ds := ds) (N := N) (c := 0) hd (fun b z => nomatch z) (sl := ds.map .val) (by rw [List.length_map, r.length]) (by rw [r.length]; exact hl) (vals_slots r) vals_own
    rw [List.length_map] at this; exact this
  exact sw S _ H e _ fun rs c' p H' q ke hn nd ho => hq rs q p H' (fun a o h => ke a o h fun z => nomatch z) hn nd ho
/-! ### sorted texts -/
theorem sortedS_pair : ∀ {l : List Str}, sortedS l = true → l.Pairwise fun a b => a.cps.toList ≤ b.cps.toList
  | [], _ => .nil
  | x :: r, h => by
    have key : ∀ (r : List Str) (p : Str), risingS p r = true → (∀ y ∈ r, p.cps.toList ≤ y.cps.toList) ∧ r.Pairwise fun a b => a.cps.toList ≤ b.cps.toList := by
      intro r
      induction r with
      | nil => intro p _; exact ⟨fun y hy => absurd hy (by simp), .nil⟩
      | cons y r ih =>
        intro p h
        have h' : (!ltCps y.cps.toList p.cps.toList && risingS y r) = true := h
        simp only [Bool.and_eq_true] at h'
        obtain ⟨h1, h2⟩ := h'
        rw [ltCps_eq] at h1
        have le : p.cps.toList ≤ y.cps.toList := by
          have : ¬ y.cps.toList < p.cps.toList := by simpa using h1
          exact List.not_lt.mp this
        obtain ⟨a1, a2⟩ := ih y h2
        refine ⟨fun z hz => ?_, List.pairwise_cons.mpr ⟨a1, a2⟩⟩
        rcases List.mem_cons.mp hz with e | hz
        · rw [e]; exact le
        · exact List.le_trans le (a1 z hz)
    obtain ⟨a1, a2⟩ := key r x h
    exact List.pairwise_cons.mpr ⟨a1, a2⟩
theorem sortedS_uniq {a b : List Str} (hp : a.Perm b) (ha : sortedS a = true) (hb : sortedS b = true) : a = b :=
  hp.eq_of_pairwise (fun x y _ _ h1 h2 => by
    have e := List.le_antisymm h1 h2
    cases x; cases y
    simp only [Str.mk.injEq] at *
    exact Array.toList_inj.mp e) (sortedS_pair ha) (sortedS_pair hb)
end Q
namespace Q
open PySem PySem.Spec PyProof.Rows L2
open PyData (strOk)
open TL (joinL tl_join join_eq tl)
theorem atI_ge {α : Type} {xs : List α} {n : Int} (h0 : 0 ≤ n) (h1 : n < (xs.length : Int)) : atI xs n = xs[n.toNat]? := by
  unfold atI ixN
  rw [if_pos h0, if_pos h1]; rfl
theorem atI_some {α : Type} {xs : List α} {n : Int} (h0 : 0 ≤ n) (h1 : n < (xs.length : Int)) : ∃ x, atI xs n = some x ∧ x ∈ xs ∧ xs[n.toNat]? = some x := by
  have hl : n.toNat < xs.length := by omega
  refine ⟨xs[n.toNat], ?_, List.getElem_mem hl, List.getElem?_eq_getElem hl⟩
  rw [atI_ge h0 h1, List.getElem?_eq_getElem hl]
theorem atI_neg1 {α : Type} {xs : List α} {x : α} (h : xs.getLast? = some x) : atI xs (-1) = some x := by
  cases xs with
  | nil => cases h
  | cons a r =>
    unfold atI ixN
    rw [if_neg (by decide), if_pos (by rw [List.length_cons]; omega)]
    have e : ((-1 : Int) + ((a :: r).length : Int)).toNat = (a :: r).length - 1 := by rw [List.length_cons]; omega
    show (a :: r)[((-1 : Int) + ((a :: r).length : Int)).toNat]? = some x
    rw [e, ← List.getLast?_eq_getElem?]; exact h
theorem ixN_ge {n : Nat} {i : Int} (h0 : 0 ≤ i) (h1 : i < (n : Int)) : ixN n i = some i.toNat := by
  unfold ixN; rw [if_pos h0, if_pos h1]
section
variable {G : Ctx} {l : Bool} {ρ : Env} {c : Nat} {Q : D → Nat → Prop}
/-- an item of a list, whichever -/
theorem RW2.ixAny {ds : List D} {n : Int} (h0 : 0 ≤ n) (h1 : n < (ds.length : Int)) (q : ∀ d ∈ ds, Q d c) : RW2 G l (rIx G.K) (.lst ds) (.int n) ρ c Q := by
  obtain ⟨x, hx, hm, _⟩ := atI_some h0 h1
  exact .uIxL hx (q x hm)
theorem RW2.ixSAny {z : Str} {n : Int} (hz : z.length ≤ sizeLine) (h0 : 0 ≤ n) (h1 : n < (z.cps.toList.length : Int)) (q : ∀ k ∈ z.cps.toList, Q (.str ⟨#[k]⟩) c) : RW2 G l (rIx G.K) (.str z) (.int n) ρ c Q := by
  obtain ⟨x, hx, hm, _⟩ := atI_some h0 h1
  exact .uIxS hz hx (q x hm)
end
theorem b01 (b : Bool) : (-(2 ^ 64) : Int) < (if b = true then 1 else 0) ∧ (if b = true then 1 else 0 : Int) < 2 ^ 64 := by cases b <;> decide
theorem b01' (b : Bool) : (0 : Int) ≤ (if b = true then 1 else 0) ∧ (if b = true then 1 else 0 : Int) ≤ 1 := by cases b <;> decide
/-! ### texts -/
def strOkN (n : Nat) (s : Str) : Prop := s.length ≤ n ∧ strOk s = true
theorem len_append {x y : Str} : (x ++ y).length = x.length + y.length := by
  show (x.cps ++ y.cps).size = _
  rw [Array.size_append]; rfl
theorem ok_append {x y : Str} (hx : strOk x = true) (hy : strOk y = true) : strOk (x ++ y) = true := by
  unfold strOk at *
  show (x.cps ++ y.cps).all _ = true
  rw [Array.all_append, hx, hy]; rfl
theorem strOkN.app {m n k : Nat} {x y : Str} (hx : strOkN m x) (hy : strOkN n y) (h : m + n ≤ k) : strOkN k (x ++ y) :=
  ⟨by rw [len_append]; have := hx.1; have := hy.1; omega, ok_append hx.2 hy.2⟩
theorem strOkN.mono {m n : Nat} {x : Str} (h : strOkN m x) (k : m ≤ n) : strOkN n x := ⟨Nat.le_trans h.1 k, h.2⟩
theorem ok_one {k : Nat} {z : Str} (hz : strOk z = true) (hk : k ∈ z.cps.toList) : strOkN 1 ⟨#[k]⟩ := by
  refine ⟨Nat.le_refl 1, ?_⟩
  unfold strOk at *
  rw [Array.all_eq_true'] at hz
  have := hz k (by simpa using hk)
  simpa using this
theorem join_empty : ∀ (ys : List Str) (n : Nat), (∀ y ∈ ys, strOkN n y) → strOkN (n * ys.length) (Txt.join "" ys) := by
  intro ys n h
  have e1 : Txt.join "" ys = Str.join "" ys := join_eq _ _
  have e2 : (Str.join ("" : Str) ys).cps.toList = joinL [] (ys.map tl) := tl_join _ _
  have flat : ∀ l : List (List Nat), joinL [] l = l.flatten := by
    intro l
    induction l with
    | nil => rfl
    | cons a r ih =>
      cases r with
      | nil => simp [joinL]
      | cons b r => 
        have : joinL [] (a :: b :: r) = a ++ ([] ++ joinL [] (b :: r)) := by simp [joinL]
        rw [this, ih]; simp
  rw [flat] at e2
  rw [e1]
  refine ⟨?_, ?_⟩
  · show (Str.join ("" : Str) ys).cps.size ≤ _
    rw [← Array.length_toList, e2]
    clear e1 e2
    induction ys with
    | nil => simp
    | cons y r ih =>
      rw [List.map_cons, List.flatten_cons, List.length_append, List.length_cons]
      have h1 : (tl y).length ≤ n := by
        have := (h y (by simp)).1
        show y.cps.toList.length ≤ n
        rw [Array.length_toList]; exact this
      have h2 := ih (fun z hz => h z (by simp [hz]))
      have : n * (r.length + 1) = n * r.length + n := Nat.mul_succ n _
      omega
  · unfold strOk
    rw [Array.all_eq_true']
    intro x hx
    have hx' : x ∈ (Str.join ("" : Str) ys).cps.toList := by simpa using hx
    rw [e2] at hx'
    obtain ⟨l, hl, hm⟩ := List.mem_flatten.mp hx'
    obtain ⟨y, hy, rfl⟩ := List.mem_map.mp hl
    have := (h y hy).2
    unfold strOk at this
    rw [Array.all_eq_true'] at this
    exact this x (by have : x ∈ y.cps.toList := hm; simpa using this)
/-! ### data: depth, what may be compared -/
theorem eqv_refl : ∀ d : PyData, d.canLay0 = true → PyData.eqv d d = true ∧ True := by
  have key : ∀ n : Nat, (∀ d : PyData, d.depth ≤ n → d.canLay0 = true → PyData.eqv d d = true) := by
    intro n
    induction n with
    | zero =>
      intro d hd hc
      cases d <;> simp [PyData.eqv, PyData.depth, PyData.canLay0] at *
    | succ n ih =>
      have all : ∀ xs : List PyData, PyData.depthAll xs ≤ n → PyData.canLayAll0 xs = true → PyData.eqvAll xs xs = true := by
        intro xs
        induction xs with
        | nil => intro _ _; simp [PyData.eqvAll]
        | cons x r ihr =>
          intro hd hc
          simp only [PyData.depthAll, PyData.canLayAll0, Bool.and_eq_true] at hd hc
          simp only [PyData.eqvAll, Bool.and_eq_true]
          exact ⟨ih x (by omega) hc.1, ihr (by omega) hc.2⟩
      intro d hd hc
      cases d with
      | list xs => simp only [PyData.depth, PyData.canLay0] at hd hc; simp only [PyData.eqv]; exact all xs (by omega) hc
      | tuple xs => simp only [PyData.depth, PyData.canLay0] at hd hc; simp only [PyData.eqv]; exact all xs (by omega) hc
      | dict kvs => simp [PyData.canLay0] at hc
      | _ => simp [PyData.eqv]
  exact fun d hc => ⟨key d.depth d (Nat.le_refl _) hc, trivial⟩
theorem eqv_self {d : D} (h : d.cmp = true) : PyData.eqv d.py d.py = true := (eqv_refl _ (SeqAt.canLay_of_shaped (cmp_of h).2)).1
theorem cmp_lst {l : List D} (h : ∀ d ∈ l, d.plain = true ∧ d.py.canLay0 = true ∧ d.py.depth ≤ 60) : (D.lst l).cmp = true := by
  have h1 : plains l = true := by rw [plains_all]; exact List.all_eq_true.mpr fun d hd => (h d hd).1
  have h2 : ∀ l : List D, (∀ d ∈ l, d.py.canLay0 = true ∧ d.py.depth ≤ 60) → PyData.canLayAll0 (pys l) = true ∧ PyData.depthAll (pys l) ≤ 60 := by
    intro l
    induction l with
    | nil => intro _; simp [pys, PyData.canLayAll0, PyData.depthAll]
    | cons d r ih =>
      intro hh
      obtain ⟨a, b⟩ := ih fun x hx => hh x (by simp [hx])
      obtain ⟨a', b'⟩ := hh d (by simp)
      simp only [pys, PyData.canLayAll0, PyData.depthAll, Bool.and_eq_true]
      exact ⟨⟨a', a⟩, by omega⟩
  obtain ⟨a, b⟩ := h2 l fun d hd => (h d hd).2
  unfold D.cmp SeqAt.shaped
  simp only [D.plain, D.py, PyData.canLay0, PyData.depth, Bool.and_eq_true, decide_eq_true_eq]
  exact ⟨h1, a, by omega⟩
theorem cmp_strs {l : List Str} (h : ∀ s ∈ l, strOk s = true) : (D.lst (l.map .str)).cmp = true := cmp_lst fun d hd => by
  obtain ⟨s, hs, rfl⟩ := List.mem_map.mp hd
  refine ⟨by simp [D.plain], by simp only [D.py, PyData.canLay0]; exact h s hs, by simp [D.py, PyData.depth]⟩
theorem cmp_ints {l : List Int} : (D.lst (l.map .int)).cmp = true := cmp_lst fun d hd => by
  obtain ⟨s, hs, rfl⟩ := List.mem_map.mp hd
  refine ⟨by simp [D.plain], by simp [D.py, PyData.canLay0], by simp [D.py, PyData.depth]⟩
theorem eqvAll_strs : ∀ (a b : List Str), PyData.eqvAll (pys (a.map .str)) (pys (b.map .str)) = decide (a = b)
  | [], [] => by simp [pys, PyData.eqvAll]
  | [], y :: b => by simp [pys, PyData.eqvAll]
  | x :: a, [] => by simp [pys, PyData.eqvAll]
  | x :: a, y :: b => by
    rw [List.map_cons, List.map_cons, pys, pys, PyData.eqvAll, eqvAll_strs a b]
    simp only [D.py, PyData.eqv]
    rw [Bool.beq_eq_decide_eq, ← Bool.decide_and]
    exact decide_eq_decide.mpr (by simp)
theorem eqvAll_ints : ∀ (a b : List Int), PyData.eqvAll (pys (a.map .int)) (pys (b.map .int)) = decide (a = b)
  | [], [] => by simp [pys, PyData.eqvAll]
  | [], y :: b => by simp [pys, PyData.eqvAll]
  | x :: a, [] => by simp [pys, PyData.eqvAll]
  | x :: a, y :: b => by
    rw [List.map_cons, List.map_cons, pys, pys, PyData.eqvAll, eqvAll_ints a b]
    simp only [D.py, PyData.eqv]
    rw [Bool.beq_eq_decide_eq, ← Bool.decide_and]
    exact decide_eq_decide.mpr (by simp)
/-- two lists of texts, sorted each, are like just where the ones ahead of it are of the same texts -/
theorem eqv_sorted {a b m n : List Str} (h1 : m.Perm a) (h2 : sortedS m = true) (h3 : n.Perm b) (h4 : sortedS n = true) : PyData.eqv (D.lst (m.map .str)).py (D.lst (n.map .str)).py = true ↔ a.Perm b := by
  simp only [D.py, PyData.eqv]
  rw [eqvAll_strs, decide_eq_true_eq]
  constructor
  · intro e; rw [e] at h1; exact h1.symm.trans h3
  · intro p; exact sortedS_uniq (h1.trans (p.trans h3.symm)) h2 h4
end Q
namespace Q
open PySem PySem.Spec PyProof.Rows L2
/-! ### the box's places and a name, for goals whose fragment is written otherwise -/
section
variable {G : Ctx} {l : Bool} {ρ : Env} {c i : Nat} {K' : Frag} {Q : D → Nat → Prop} {d : D}
theorem EW.bx0 (hi : K' = G.K ∧ ρ[i]? = some .box) (q : ∀ n, Q (.int n) c) : EW G l (tOp (rIx K') (tVar i) (tC (.int 0))) ρ c Q := by
  obtain ⟨rfl, hi⟩ := hi; exact EW.box0 hi q
theorem EW.bx1 (hi : K' = G.K ∧ ρ[i]? = some .box) (q : ∀ n : Int, 0 ≤ n → n < 2 ^ 50 → Q (.int n) c) : EW G l (tOp (rIx K') (tVar i) (tC (.int 1))) ρ c Q := by
  obtain ⟨rfl, hi⟩ := hi; exact EW.box1 hi q
theorem EW.bx2 (hi : K' = G.K ∧ ρ[i]? = some .box) (q : Q (.int c) c) : EW G l (tOp (rIx K') (tVar i) (tC (.int 2))) ρ c Q := by
  obtain ⟨rfl, hi⟩ := hi; exact EW.box2 hi q
end
end Q
namespace Q
open PySem PySem.Spec PyProof.Rows L2
/-! ### the rules that name the fragment, with the fragment told -/
section
variable {X : Cx} {K' : Frag}
theorem k_ix (h : X.K = K') : IxR X (rIx K') := h ▸ ix_seq
theorem k_eq (h : X.K = K') (u : X.A.units + 64 < cLine) : OpR X (compareOp CmpOp.Eq) (uEq K') := h ▸ u_eq u
theorem k_ne (h : X.K = K') (u : X.A.units + 64 < cLine) : OpR X (compareOp CmpOp.NotEq) (uNe K') := h ▸ u_ne u
theorem k_len (h : X.K = K') : CallR X (Value.builtin "len") (uLen K') := h ▸ u_len
theorem k_isi (h : X.K = K') : CallR X (Value.builtin "isinstance") (rIsi K') := h ▸ call_isi
theorem k_isiT (h : X.K = K') : CallR X (Value.builtin "isinstance") (rIsiT K') := h ▸ call_isiT
theorem k_sum (h : X.K = K') (c : X.calm = true) : CallR X (Value.builtin "sum") (rSum K') := h ▸ cr_sum c
theorem k_all (h : X.K = K') (c : X.calm = true) : CallR X (Value.builtin "all") (rAll K') := h ▸ cr_all c
theorem k_any (h : X.K = K') (c : X.calm = true) : CallR X (Value.builtin "any") (rAny K') := h ▸ cr_any c
theorem k_max (h : X.K = K') (c : X.calm = true) : CallR X (Value.builtin "max") (rMax K') := h ▸ cr_max c
theorem k_min (h : X.K = K') (c : X.calm = true) : CallR X (Value.builtin "min") (rMin K') := h ▸ cr_min c
theorem k_lst (h : X.K = K') : CallR X (Value.type "list") (uList K') := h ▸ u_list
theorem k_tpl (h : X.K = K') : CallR X (Value.type "tuple") (uTup K') := h ▸ u_tup
theorem k_srt (h : X.K = K') (c : X.calm = true) : CallR X (Value.builtin "sorted") (uSorted K') := h ▸ u_sorted c
theorem k_dict (h : X.K = K') (c : X.calm = true) : CallR X (Value.type "dict") (uDict K') := h ▸ u_dict c
theorem k_plist {tg l : Expr} {tl : TE} (h : X.K = K') (p : PE X l tl) : PI X tg l (iList K' tl) := h ▸ pi_list p
theorem k_ptup {tg l : Expr} {tl : TE} (h : X.K = K') (p : PE X l tl) : PI X tg l (iTup K' tl) := h ▸ pi_tup p
theorem k_penum {e : Expr} {ta : TA} {p pos tpos : Pos} {elts : List Expr} {kk : Nat} (h : X.K = K') (g : Gl X "enumerate") (m : X.mg "enumerate" = none) (a : PA X [e] ta)
    (s : starEach [e] X.env = [(false, eval e X.env)] := by rfl) : PI X (Expr.Tuple elts kk tpos) ((Expr.Name "enumerate" p).Call [e] [] pos) (iEnum K' ta) := h ▸ pi_enum g m a s
theorem k_pzip {e e2 : Expr} {ta : TA} {p pos tpos : Pos} {elts : List Expr} {kk : Nat} (h : X.K = K') (g : Gl X "zip") (m : X.mg "zip" = none) (a : PA X [e, e2] ta)
    (s : starEach [e, e2] X.env = (false, eval e X.env) :: starEach [e2] X.env := by rfl) (t : ((backTo pos (starEach [e2] X.env)).any fun x => x.fst) = false := by rfl) :
    PI X (Expr.Tuple elts kk tpos) ((Expr.Name "zip" p).Call [e, e2] [] pos) (RZ.iZipA K' ta) := h ▸ RZ.pi_zipA g m a s t
theorem k_gtup {pos : Pos} {es : List Expr} {k : Nat} {t : TGs} {n : Nat} (h : X.K = K') (c : X.calm = true) (p : PGs X es t) (l : (assignEach es X.env).length = n) (f : List.findIdx? (fun x => x.fst) (assignEach es X.env) = none) :
    PG X (Expr.Tuple es k pos) (gTup K' n t) := h ▸ pg_tup c p l f
theorem k_sl (h : X.K = K') : SlR X (rSlL K') := h ▸ sl_list
theorem k_rev {e : Expr} {te : TE} {k : Nat} {p1 p2 p3 pos : Pos} (h : X.K = K') (p : PE X e te) : PE X (e.Subscript (Expr.Slice none none (some (Expr.UnaryOp UnaryOp.USub (Expr.Constant (Const.int 1) k p1) p2)) p3) pos) (tRevL K' te) := h ▸ pe_revL p
theorem k_get (h : X.K = K') : PGet X (rIxL K') := h ▸ get_list
theorem k_in (h : X.K = K') : OpR X (compareOp CmpOp.In) (rIn K' false) := h ▸ u_in
end
section
variable {G : Ctx} {l : Bool} {ρ : Env} {c i : Nat} {K' : Frag} {Q : D → Nat → Prop} {tb : TE}
theorem EW.ixO {p : Addr} {ds : List D} (hi : K' = G.K ∧ ρ[i]? = some (.own p (.lst ds))) (h : EW G l tb ρ c (fun y c2 => ∃ n d, y = .int n ∧ atI ds n = some d ∧ Q d c2)) : EW G l (tOp (rIx K') (tVar i) tb) ρ c Q := by
  obtain ⟨rfl, hi⟩ := hi; exact EW.ixOwn ⟨p, ds, hi, h⟩
end
theorem br_t {b : Bool} {P Q : Prop} (hb : b = true) (h : P) : (b = true → P) ∧ (b = false → Q) := ⟨fun _ => h, fun e => by rw [hb] at e; cases e⟩
theorem br_f {b : Bool} {P Q : Prop} (hb : b = false) (h : Q) : (b = true → P) ∧ (b = false → Q) := ⟨(fun e => by rw [hb] at e; cases e), fun _ => h⟩
section
variable {G : Ctx} {l : Bool} {ρ : Env} {c i : Nat} {K' : Frag} {Q : D → Nat → Prop} {tb : TE}
theorem EW.rowIxO {K2 : Frag} {p : Addr} {rs : List (Addr × List D)} {tx : TE} (hi : K' = G.K ∧ K2 = G.K ∧ ρ[i]? = some (.own p (.rows rs))) (h : EW G l tb ρ c (fun y c1 => ∃ n k es, y = .int n ∧ ixN rs.length n = some k ∧ (rs.map (·.2))[k]? = some es ∧ EW G l tx ρ c1 (fun y2 c2 => ∃ m d, y2 = .int m ∧ atI es m = some d ∧ Q d c2))) :
    EW G l (tOp (rIx K') (tOp (rIx K2) (tVar i) tb) tx) ρ c Q := by
  obtain ⟨rfl, rfl, hi⟩ := hi; exact EW.rowIx ⟨p, rs, hi, h⟩
/-- the length of a list one owns, of whichever make -/
theorem EW.lenO {p : Addr} {w : Own} {n : Nat} (hi : K' = G.K ∧ ρ[i]? = some (.own p w)) (h : lenD (datO w) = some n) (q : Q (.int n) c) : EW G l (tCB (uLen K') (tCons (tVar i) tNil)) ρ c Q := by
  obtain ⟨rfl, hi⟩ := hi
  have hl : i < ρ.length := by
    obtain ⟨h, _⟩ := List.getElem?_eq_some_iff.mp hi; exact h
  exact EW.lendO i ⟨p, w, hi, EW.cb (AW.cons (EW.var (by rw [List.getElem?_set_self hl]) (AW.nil (RCW.len h ⟨rfl, q⟩))))⟩
end
end Q
namespace Q
open PySem PySem.Spec PyProof.Rows L2
/-! ### a def without defaults, and the law's own beginning -/
theorem funD_fun {K : Frag} {x qual : Str} {st : Stmt} {f : Addr} {fd : FuncData} (F : FunD K x qual (defArgs st) (defBody st) (defScope st) [] [] f fd) : Fun K x qual st f fd := by
  obtain ⟨oc, od, dV, kV, doc, pm, an, cdv, ct, osl, h1, h2, h3, h4, _⟩ := F.ex
  rcases h4 with ⟨_, rfl⟩ | ⟨e, _⟩
  · exact ⟨⟨oc, od, kV, doc, pm, an, cdv, ct, osl, h1, h2, h3⟩, F.kp⟩
  · exact absurd rfl e
theorem law_pre {K : Frag} {H : Hp} {a : Addr} (ns : List Int) (hO : Only H) (hS : SqL K H a (ns.map V.int)) {ps : PV} (h : ps [.scr ns] (fun d => d = .bl true)) : spV K ps [.ref a] H (fun v _ => v = .bl true) fun _ _ _ => False := by
  have hq : SQ K (fun _ => False) H a (ns.map V.int) := by
    rcases hS with (h | ⟨o, h⟩) | h
    · rcases hO a with e | ⟨o, xs, e⟩
      · rw [e] at h; cases h
      · rw [e] at h; cases h
    · exact .inl ⟨fun z => z, o, h⟩
    · exact .inr fun H' => .inr h
  refine ⟨fun _ => False, [.scr ns], _, fun _ h => h.elim, Reps.cons ?_ Reps.nil, h, fun d e v H' _ r => ?_⟩
  · show Rep K _ H (.scr ns) (.ref a)
    simp only [Rep]
    exact ⟨a, rfl, hq⟩
  · subst e; exact r.bl_inv
end Q
namespace K12
open PySem PySem.Spec PyProof.Rows L2 Q
def topS (i : Nat) : Stmt := PySem.Challenge.pw_campcarry_k12_layings_shown_or_not.main.body.getD i (.Pass ⟨0, 0, 0, 0⟩)
abbrev s_units_of : Stmt := topS 2
abbrev N_units_of : List Str := ["weights", "size", "weight"]
theorem sc_units_of : FnScope N_units_of ["weights", "size"] (defScope s_units_of) := ⟨rfl, rfl, rfl, by decide +kernel, rfl, by decide +kernel, by decide +kernel⟩
abbrev s_room_of : Stmt := topS 4
abbrev N_room_of : List Str := ["strengths", "size", "strength"]
theorem sc_room_of : FnScope N_room_of ["strengths", "size"] (defScope s_room_of) := ⟨rfl, rfl, rfl, by decide +kernel, rfl, by decide +kernel, by decide +kernel⟩
abbrev s_size_over : Stmt := topS 5
abbrev N_size_over : List Str := ["loads", "strengths", "weights", "name", "weight", "size"]
theorem sc_size_over : FnScope N_size_over ["loads", "strengths"] (defScope s_size_over) := ⟨rfl, rfl, rfl, by decide +kernel, rfl, by decide +kernel, by decide +kernel⟩
abbrev s_lighter_behind : Stmt := topS 6
abbrev N_lighter_behind : List Str := ["load"]
theorem sc_lighter_behind : FnScope N_lighter_behind ["load"] (defScope s_lighter_behind) := ⟨rfl, rfl, rfl, by decide +kernel, rfl, by decide +kernel, by decide +kernel⟩
abbrev s_first_bearer : Stmt := topS 7
abbrev N_first_bearer : List Str := ["free", "weight", "at", "left"]
theorem sc_first_bearer : FnScope N_first_bearer ["free", "weight"] (defScope s_first_bearer) := ⟨rfl, rfl, rfl, by decide +kernel, rfl, by decide +kernel, by decide +kernel⟩
abbrev s_laden_by : Stmt := topS 8
abbrev N_laden_by : List Str := ["loads", "strengths", "size", "rows", "strength", "free", "name", "weight", "at"]
theorem sc_laden_by : FnScope N_laden_by ["loads", "strengths"] (defScope s_laden_by) := ⟨rfl, rfl, rfl, by decide +kernel, rfl, by decide +kernel, by decide +kernel⟩
abbrev s_laid_rightly : Stmt := topS 10
abbrev N_laid_rightly : List Str := ["loads", "strengths", "rows", "weight_by", "borne", "row", "strength", "name"]
theorem sc_laid_rightly : FnScope N_laid_rightly ["loads", "strengths", "rows"] (defScope s_laid_rightly) := ⟨rfl, rfl, rfl, by decide +kernel, rfl, by decide +kernel, by decide +kernel⟩
abbrev s_shows_laden : Stmt := topS 12
abbrev N_shows_laden : List Str := ["loads", "strengths", "thing"]
theorem sc_shows_laden : FnScope N_shows_laden ["loads", "strengths", "thing"] (defScope s_shows_laden) := ⟨rfl, rfl, rfl, by decide +kernel, rfl, by decide +kernel, by decide +kernel⟩
abbrev s__law_box : Stmt := topS 14
abbrev N__law_box : List Str := ["_law_script", "_law_k", "_law_cell"]
theorem sc__law_box : FnScope N__law_box ["_law_script", "_law_k"] (defScope s__law_box) := ⟨rfl, rfl, rfl, by decide +kernel, rfl, by decide +kernel, by decide +kernel⟩
abbrev s__law_take : Stmt := topS 15
abbrev N__law_take : List Str := ["_law_box_here", "_law_many", "_law_found", "_law_step", "_law_once", "_law_twice"]
theorem sc__law_take : FnScope N__law_take ["_law_box_here", "_law_many"] (defScope s__law_take) := ⟨rfl, rfl, rfl, by decide +kernel, rfl, by decide +kernel, by decide +kernel⟩
abbrev s__law_folded : Stmt := topS 16
abbrev N__law_folded : List Str := ["_law_script", "_law_size", "_law_cells", "_law_k", "_law_cell"]
theorem sc__law_folded : FnScope N__law_folded ["_law_script", "_law_size"] (defScope s__law_folded) := ⟨rfl, rfl, rfl, by decide +kernel, rfl, by decide +kernel, by decide +kernel⟩
abbrev s__law_sizes : Stmt := topS 17
abbrev N__law_sizes : List Str := ["_law_box_here", "_law_found", "_law_turn"]
theorem sc__law_sizes : FnScope N__law_sizes ["_law_box_here"] (defScope s__law_sizes) := ⟨rfl, rfl, rfl, by decide +kernel, rfl, by decide +kernel, by decide +kernel⟩
abbrev s__law_load_names : Stmt := topS 18
abbrev N__law_load_names : List Str := ["_law_box_here", "_law_many", "_law_letters", "_law_found", "_law_head", "_law_turn", "_law_first", "_law_ends", "_law_k", "_law_two"]
theorem sc__law_load_names : FnScope N__law_load_names ["_law_box_here", "_law_many"] (defScope s__law_load_names) := ⟨rfl, rfl, rfl, by decide +kernel, rfl, by decide +kernel, by decide +kernel⟩
abbrev s__law_loads : Stmt := topS 19
abbrev N__law_loads : List Str := ["_law_box_here", "_law_sizes_here", "_law_many", "_law_some", "_law_name"]
theorem sc__law_loads : FnScope N__law_loads ["_law_box_here", "_law_sizes_here", "_law_many"] (defScope s__law_loads) := ⟨rfl, rfl, rfl, by decide +kernel, rfl, by decide +kernel, by decide +kernel⟩
abbrev s__law_strengths : Stmt := topS 20
abbrev N__law_strengths : List Str := ["_law_box_here", "_law_sizes_here", "_law_loads_here", "_law_many", "_law_way", "_law_great", "_law_found", "_law_k", "_law_name", "_law_weight", "_law_some", "_law_more"]
theorem sc__law_strengths : FnScope N__law_strengths ["_law_box_here", "_law_sizes_here", "_law_loads_here", "_law_many"] (defScope s__law_strengths) := ⟨rfl, rfl, rfl, by decide +kernel, rfl, by decide +kernel, by decide +kernel⟩
abbrev s__law_laid : Stmt := topS 21
abbrev N__law_laid : List Str := ["_law_loads_here", "_law_strengths_here", "_law_rows", "_law_weights", "_law_borne", "_law_row", "_law_strength", "_law_name"]
theorem sc__law_laid : FnScope N__law_laid ["_law_loads_here", "_law_strengths_here", "_law_rows"] (defScope s__law_laid) := ⟨rfl, rfl, rfl, by decide +kernel, rfl, by decide +kernel, by decide +kernel⟩
abbrev s__law_shown : Stmt := topS 22
abbrev N__law_shown : List Str := ["_law_loads_here", "_law_strengths_here", "_law_thing", "_law_size", "_law_weights", "_law_name", "_law_weight", "_law_whole", "_law_strength"]
theorem sc__law_shown : FnScope N__law_shown ["_law_loads_here", "_law_strengths_here", "_law_thing"] (defScope s__law_shown) := ⟨rfl, rfl, rfl, by decide +kernel, rfl, by decide +kernel, by decide +kernel⟩
abbrev s__law_same : Stmt := topS 23
abbrev N__law_same : List Str := ["_law_found", "_law_due", "_law_one", "_law_other"]
theorem sc__law_same : FnScope N__law_same ["_law_found", "_law_due"] (defScope s__law_same) := ⟨rfl, rfl, rfl, by decide +kernel, rfl, by decide +kernel, by decide +kernel⟩
abbrev s__law_copied : Stmt := topS 24
abbrev N__law_copied : List Str := ["_law_thing", "_law_part"]
theorem sc__law_copied : FnScope N__law_copied ["_law_thing"] (defScope s__law_copied) := ⟨rfl, rfl, rfl, by decide +kernel, rfl, by decide +kernel, by decide +kernel⟩
abbrev s__law_drawn_rows : Stmt := topS 25
abbrev N__law_drawn_rows : List Str := ["_law_box_here", "_law_loads_here", "_law_many", "_law_rows", "_law_k", "_law_name", "_law_weight"]
theorem sc__law_drawn_rows : FnScope N__law_drawn_rows ["_law_box_here", "_law_loads_here", "_law_many"] (defScope s__law_drawn_rows) := ⟨rfl, rfl, rfl, by decide +kernel, rfl, by decide +kernel, by decide +kernel⟩
abbrev s__law_otherwise : Stmt := topS 26
abbrev N__law_otherwise : List Str := ["_law_box_here", "_law_rows", "_law_found", "_law_way", "_law_full", "_law_k", "_law_row", "_law_other", "_law_at", "_law_place", "_law_name"]
theorem sc__law_otherwise : FnScope N__law_otherwise ["_law_box_here", "_law_rows"] (defScope s__law_otherwise) := ⟨rfl, rfl, rfl, by decide +kernel, rfl, by decide +kernel, by decide +kernel⟩
abbrev s__law_right : Stmt := topS 27
abbrev N__law_right : List Str := ["_law_box_here", "_law_loads_here", "_law_strengths_here", "_law_rows", "_law_kept", "_law_given", "_law_near", "_law_strength", "_law_some", "_law_due"]
theorem sc__law_right : FnScope N__law_right ["_law_box_here", "_law_loads_here", "_law_strengths_here", "_law_rows"] (defScope s__law_right) := ⟨rfl, rfl, rfl, by decide +kernel, rfl, by decide +kernel, by decide +kernel⟩
abbrev s_law : Stmt := topS 28
abbrev N_law : List Str := ["_law_script", "_law_cells", "_law_k", "_law_box_here", "_law_sizes_here", "_law_loads_here", "_law_strengths_here", "_law_told", "_law_drawn", "_law_rows", "_law_things", "_law_row", "_law_turn", "_law_thing", "_law_empty"]
theorem sc_law : FnScope N_law ["_law_script"] (defScope s_law) := ⟨rfl, rfl, rfl, by decide +kernel, rfl, by decide +kernel, by decide +kernel⟩
structure Txt (K : Frag) (mg : Str → Option Value) where
  f_units_of : Addr
  fd_units_of : FuncData
  F_units_of : Fun K "units_of" "units_of" s_units_of f_units_of fd_units_of
  bd_units_of : Binds K fd_units_of ["weights", "size"] []
  g_units_of : mg "units_of" = some (.ref f_units_of)
  f_room_of : Addr
  fd_room_of : FuncData
  F_room_of : Fun K "room_of" "room_of" s_room_of f_room_of fd_room_of
  bd_room_of : Binds K fd_room_of ["strengths", "size"] []
  g_room_of : mg "room_of" = some (.ref f_room_of)
  f_size_over : Addr
  fd_size_over : FuncData
  F_size_over : Fun K "size_over" "size_over" s_size_over f_size_over fd_size_over
  bd_size_over : Binds K fd_size_over ["loads", "strengths"] []
  g_size_over : mg "size_over" = some (.ref f_size_over)
  f_lighter_behind : Addr
  fd_lighter_behind : FuncData
  F_lighter_behind : Fun K "lighter_behind" "lighter_behind" s_lighter_behind f_lighter_behind fd_lighter_behind
  bd_lighter_behind : Binds K fd_lighter_behind ["load"] []
  g_lighter_behind : mg "lighter_behind" = some (.ref f_lighter_behind)
  f_first_bearer : Addr
  fd_first_bearer : FuncData
  F_first_bearer : Fun K "first_bearer" "first_bearer" s_first_bearer f_first_bearer fd_first_bearer
  bd_first_bearer : Binds K fd_first_bearer ["free", "weight"] []
  g_first_bearer : mg "first_bearer" = some (.ref f_first_bearer)
  f_laden_by : Addr
  fd_laden_by : FuncData
  F_laden_by : Fun K "laden_by" "laden_by" s_laden_by f_laden_by fd_laden_by
  bd_laden_by : Binds K fd_laden_by ["loads", "strengths"] []
  g_laden_by : mg "laden_by" = some (.ref f_laden_by)
  f_laid_rightly : Addr
  fd_laid_rightly : FuncData
  F_laid_rightly : Fun K "laid_rightly" "laid_rightly" s_laid_rightly f_laid_rightly fd_laid_rightly
  bd_laid_rightly : Binds K fd_laid_rightly ["loads", "strengths", "rows"] []
  g_laid_rightly : mg "laid_rightly" = some (.ref f_laid_rightly)
  f_shows_laden : Addr
  fd_shows_laden : FuncData
  F_shows_laden : Fun K "shows_laden" "shows_laden" s_shows_laden f_shows_laden fd_shows_laden
  bd_shows_laden : Binds K fd_shows_laden ["loads", "strengths", "thing"] []
  g_shows_laden : mg "shows_laden" = some (.ref f_shows_laden)
  f__law_box : Addr
  fd__law_box : FuncData
  F__law_box : Fun K "_law_box" "_law_box" s__law_box f__law_box fd__law_box
  bd__law_box : Binds K fd__law_box ["_law_script", "_law_k"] []
  g__law_box : mg "_law_box" = some (.ref f__law_box)
  f__law_take : Addr
  fd__law_take : FuncData
  F__law_take : Fun K "_law_take" "_law_take" s__law_take f__law_take fd__law_take
  bd__law_take : Binds K fd__law_take ["_law_box_here", "_law_many"] []
  g__law_take : mg "_law_take" = some (.ref f__law_take)
  f__law_folded : Addr
  fd__law_folded : FuncData
  F__law_folded : Fun K "_law_folded" "_law_folded" s__law_folded f__law_folded fd__law_folded
  bd__law_folded : Binds K fd__law_folded ["_law_script", "_law_size"] []
  g__law_folded : mg "_law_folded" = some (.ref f__law_folded)
  f__law_sizes : Addr
  fd__law_sizes : FuncData
  F__law_sizes : Fun K "_law_sizes" "_law_sizes" s__law_sizes f__law_sizes fd__law_sizes
  bd__law_sizes : Binds K fd__law_sizes ["_law_box_here"] []
  g__law_sizes : mg "_law_sizes" = some (.ref f__law_sizes)
  f__law_load_names : Addr
  fd__law_load_names : FuncData
  F__law_load_names : Fun K "_law_load_names" "_law_load_names" s__law_load_names f__law_load_names fd__law_load_names
  bd__law_load_names : Binds K fd__law_load_names ["_law_box_here", "_law_many"] []
  g__law_load_names : mg "_law_load_names" = some (.ref f__law_load_names)
  f__law_loads : Addr
  fd__law_loads : FuncData
  F__law_loads : Fun K "_law_loads" "_law_loads" s__law_loads f__law_loads fd__law_loads
  bd__law_loads : Binds K fd__law_loads ["_law_box_here", "_law_sizes_here", "_law_many"] []
  g__law_loads : mg "_law_loads" = some (.ref f__law_loads)
  f__law_strengths : Addr
  fd__law_strengths : FuncData
  F__law_strengths : Fun K "_law_strengths" "_law_strengths" s__law_strengths f__law_strengths fd__law_strengths
  bd__law_strengths : Binds K fd__law_strengths ["_law_box_here", "_law_sizes_here", "_law_loads_here", "_law_many"] []
  g__law_strengths : mg "_law_strengths" = some (.ref f__law_strengths)
  f__law_laid : Addr
  fd__law_laid : FuncData
  F__law_laid : Fun K "_law_laid" "_law_laid" s__law_laid f__law_laid fd__law_laid
  bd__law_laid : Binds K fd__law_laid ["_law_loads_here", "_law_strengths_here", "_law_rows"] []
  g__law_laid : mg "_law_laid" = some (.ref f__law_laid)
  f__law_shown : Addr
  fd__law_shown : FuncData
  F__law_shown : Fun K "_law_shown" "_law_shown" s__law_shown f__law_shown fd__law_shown
  bd__law_shown : Binds K fd__law_shown ["_law_loads_here", "_law_strengths_here", "_law_thing"] []
  g__law_shown : mg "_law_shown" = some (.ref f__law_shown)
  f__law_same : Addr
  fd__law_same : FuncData
  F__law_same : Fun K "_law_same" "_law_same" s__law_same f__law_same fd__law_same
  bd__law_same : Binds K fd__law_same ["_law_found", "_law_due"] []
  g__law_same : mg "_law_same" = some (.ref f__law_same)
  f__law_copied : Addr
  fd__law_copied : FuncData
  F__law_copied : Fun K "_law_copied" "_law_copied" s__law_copied f__law_copied fd__law_copied
  bd__law_copied : Binds K fd__law_copied ["_law_thing"] []
  g__law_copied : mg "_law_copied" = some (.ref f__law_copied)
  f__law_drawn_rows : Addr
  fd__law_drawn_rows : FuncData
  F__law_drawn_rows : Fun K "_law_drawn_rows" "_law_drawn_rows" s__law_drawn_rows f__law_drawn_rows fd__law_drawn_rows
  bd__law_drawn_rows : Binds K fd__law_drawn_rows ["_law_box_here", "_law_loads_here", "_law_many"] []
  g__law_drawn_rows : mg "_law_drawn_rows" = some (.ref f__law_drawn_rows)
  f__law_otherwise : Addr
  fd__law_otherwise : FuncData
  F__law_otherwise : Fun K "_law_otherwise" "_law_otherwise" s__law_otherwise f__law_otherwise fd__law_otherwise
  bd__law_otherwise : Binds K fd__law_otherwise ["_law_box_here", "_law_rows"] []
  g__law_otherwise : mg "_law_otherwise" = some (.ref f__law_otherwise)
  f__law_right : Addr
  fd__law_right : FuncData
  F__law_right : Fun K "_law_right" "_law_right" s__law_right f__law_right fd__law_right
  bd__law_right : Binds K fd__law_right ["_law_box_here", "_law_loads_here", "_law_strengths_here", "_law_rows"] []
  g__law_right : mg "_law_right" = some (.ref f__law_right)
  f_law : Addr
  fd_law : FuncData
  F_law : Fun K "law" "law" s_law f_law fd_law
  bd_law : Binds K fd_law ["_law_script"] []
  g_law : mg "law" = some (.ref f_law)
  b_abs : mg "abs" = none
  b_all : mg "all" = none
  b_bool : mg "bool" = none
  b_dict : mg "dict" = none
  b_enumerate : mg "enumerate" = none
  b_int : mg "int" = none
  b_isinstance : mg "isinstance" = none
  b_len : mg "len" = none
  b_list : mg "list" = none
  b_max : mg "max" = none
  b_min : mg "min" = none
  b_range : mg "range" = none
  b_set : mg "set" = none
  b_sorted : mg "sorted" = none
  b_str : mg "str" = none
  b_sum : mg "sum" = none
  b_tuple : mg "tuple" = none
  b_zip : mg "zip" = none
end K12
namespace K12
open PySem PySem.Spec PyProof.Rows L2 Q
local macro_rules | `(tactic| walk_at "p") => `(tactic| first | omega | (simp only [List.length_map, List.length_cons, List.length_nil, List.length_append, List.length_set]; first | done | omega) | (refine .inl ⟨?_, ?_⟩ <;> omega) | (refine .inr ⟨?_, ?_⟩ <;> omega) | (refine ⟨?_, ?_⟩ <;> omega) | exact .inr (b01 _) | exact .inl (b01 _) | exact le1000 (by first | decide | (simp only [List.length_map, List.length_cons, List.length_nil, List.length_append, List.length_set]; first | done | omega) | omega) | decide)
local macro_rules | `(tactic| walk_at "s") => `(tactic| with_reducible (first
  | refine EW.cint ?_ | refine EW.cstr ?_ | refine EW.cbl ?_ | refine EW.cnon ?_ | refine EW.cty ?_
  | refine AW.nil ?_ | refine AW.cons ?_
  | refine EW.ite ?_ | refine EW.andV ?_ | refine EW.orV ?_ | refine EW.notV ?_ | refine TW.test ?_ | refine TW.tB ?_ | refine TW.and ?_ | refine TW.or ?_ | refine TW.not ?_ | refine TW.yes ?_
  | refine EW.callV ?_ | refine EW.cb ?_ | refine EW.neg ?_ | refine EW.tup ?_ | refine EF.toW (EF.lst ?_) | refine EF.lst ?_
  | refine RW2.ii ?_ | refine RW2.ib ?_ | refine RW2.uAddi ?_ | refine RW2.isN ?_ | refine RW2.notN ?_ | refine RW2.isB ?_ | refine RW2.notB ?_
  | refine RCW.abs ?_ | refine RCW.max2 ?_ | refine RCW.min2 ?_ | refine RCW.inti ?_ | refine RCW.intb ?_))
local macro_rules | `(tactic| walk_at "v") => `(tactic| first
  | ((with_reducible apply EW.var); (· rfl)) | ((with_reducible refine EW.callB ?_ ?_); (· rfl))
  | ((with_reducible refine EW.bx0 ?_ fun _ => ?_); (· exact ⟨rfl, rfl⟩)) | ((with_reducible refine EW.bx1 ?_ fun _ _ _ => ?_); (· exact ⟨rfl, rfl⟩)) | ((with_reducible refine EW.bx2 ?_ ?_); (· exact ⟨rfl, rfl⟩))
  | ((with_reducible apply EW.ixO); (· exact ⟨rfl, rfl⟩)) | ((with_reducible apply EW.varOwn); (· rfl)) | (with_reducible refine EW.op ?_)
  | ((with_reducible refine RW2.ci ?_ ?_); (· walk_at "p")) | ((with_reducible refine RW2.uMuli ?_ ?_); (· walk_at "p")))
local macro_rules | `(tactic| walk_at "d") => `(tactic| first
  | refine RW2.uEqi ?_ | refine RW2.uEqs ?_ | refine RW2.uEqb ?_ | refine RW2.uNei ?_ | refine RW2.uNes ?_ | refine RW2.uNeb ?_
  | refine RW2.uIxT rfl ?_ | refine RW2.uIxL rfl ?_
  | refine RCW.len rfl ?_ | refine RCW.isi (b := false) (fun _ h => nomatch h) (fun _ h => nomatch h) rfl ?_ | refine RCW.isi (b := true) (fun _ h => nomatch h) (fun _ h => nomatch h) rfl ?_ | refine TW.tru ?_
  | refine ⟨_, rfl, ⟨by walk_at "p", by walk_at "p", by walk_at "p"⟩, fun _ _ _ _ _ => ?_⟩
  | refine ⟨(fun _ h => nomatch h), (fun _ h => nomatch h), false, false, false, rfl, rfl, rfl, ?_⟩ | refine ⟨(fun _ h => nomatch h), (fun _ h => nomatch h), true, false, true, rfl, rfl, rfl, ?_⟩ | refine ⟨(fun _ h => nomatch h), (fun _ h => nomatch h), false, true, true, rfl, rfl, rfl, ?_⟩
  | refine ⟨le1000 (by first | decide | (simp only [List.length_map, List.length_cons, List.length_nil, List.length_append, List.length_set]; first | done | omega)), ?_⟩ | refine ⟨_, rfl, ?_⟩)
local macro_rules | `(tactic| walk_at "e") => `(tactic| repeat (first | ((with_reducible refine EW.isi2 ?_ ?_); (· rfl)) | ((with_reducible apply EW.lenO); (· exact ⟨rfl, rfl⟩); (· rfl)) | walk_at "s" | walk_at "v" | walk_at "d"))
local macro_rules | `(tactic| walk_at "c") => `(tactic| first | refine br_t rfl ?_ | refine br_f rfl ?_ | refine br_t (decide_eq_true rfl) ?_)
local macro_rules | `(tactic| walk_at "w") => `(tactic| repeat (first | ((with_reducible refine EW.isi2 ?_ ?_); (· rfl)) | ((with_reducible apply EW.lenO); (· exact ⟨rfl, rfl⟩); (· rfl)) | walk_at "s" | walk_at "v" | (with_reducible first | refine SW.seq ?_ | refine SW.ite ?_ | refine SW.ret ?_ | refine SW.next ?_) | walk_at "d" | walk_at "c"))
section
variable {P : Program} {w : World} {K : Frag} {mg : Str → Option Value} {base : Heap}
def roomZ (ns : List Int) (s : Int) : Int := (ns.map (· / s)).sum
def sp_room_of : PV := fun ds P => ∃ (ns : List Int) (s : Int), ds = [.lst (ns.map .int), .int s] ∧ (0 < s ∧ s < 1073741824 ∧ ns.length ≤ 1000) ∧ P (.int (roomZ ns s))
theorem ok_room_of (T : Txt K mg) : FnOk P w K mg base CX0 1 T.f_room_of T.fd_room_of ["strengths", "size"] (spV K sp_room_of) := by
  refine T.F_room_of.ok sc_room_of (fun vs H Q E h => lenV (fun ds P h => by obtain ⟨_, _, rfl, _⟩ := h; rfl) h) (fun cdv A outer s H vs Q E hr h => ⟨_, (pss_one (ps_ret (pe_callB (k_sum (K' := K) rfl rfl) (by rfl) T.b_sum boot_sum (pa_cons (pe_lc (own := [("strength", 2)]) rfl sc_room_of.nd (k_plist (K' := K) rfl (pv 0)) (blkOk_by (N := N_room_of) (sc := defScope s_room_of) (by decide +kernel)) (fun _ _ _ _ _ => (pg_name (i := 2) sc_room_of.nd rfl (Or.inl rfl))) (fun _ _ _ _ _ => pts_nil) (fun _ _ _ _ _ => (pe_op op_fdiv (pv 2) (pv 1)))) pa_nil)))), runV (n := 2) (fun ds P h => by obtain ⟨_, _, rfl, _⟩ := h; rfl) (by decide) ?_ h⟩)
  rintro ds P ⟨ns, s, rfl, ⟨h0, h1, h2⟩, hP⟩
  refine SW.ret (EW.cb (AW.cons (EF.toW (EF.lcMap ns .int (· / s) .int rfl ?_))))
  refine IW.list (EW.var rfl ⟨_, rfl, rfl, le1000 h2, fun a ha => GW.name ⟨rfl, ?_⟩, AW.nil (RCW.sum hP)⟩)
  walk_at "e"
  exact ⟨rfl, rfl⟩
def unitsZ (ws : List Int) (s : Int) : Int := (ws.filter (fun w => decide (s ≤ w))).sum / s
def sp_units_of : PV := fun ds P => ∃ (ns : List Int) (s : Int), ds = [.lst (ns.map .int), .int s] ∧ (0 < s ∧ s < 1073741824 ∧ ns.length ≤ 1000) ∧ P (.int (unitsZ ns s))
theorem ok_units_of (T : Txt K mg) : FnOk P w K mg base CX0 1 T.f_units_of T.fd_units_of ["weights", "size"] (spV K sp_units_of) := by
  refine T.F_units_of.ok sc_units_of (fun vs H Q E h => lenV (fun ds P h => by obtain ⟨_, _, rfl, _⟩ := h; rfl) h) (fun cdv A outer s H vs Q E hr h => ⟨_, (pss_one (ps_ret (pe_op op_fdiv (pe_callB (k_sum (K' := K) rfl rfl) (by rfl) T.b_sum boot_sum (pa_cons (pe_lc (own := [("weight", 2)]) rfl sc_units_of.nd (k_plist (K' := K) rfl (pv 0)) (blkOk_by (N := N_units_of) (sc := defScope s_units_of) (by decide +kernel)) (fun _ _ _ _ _ => (pg_name (i := 2) sc_units_of.nd rfl (Or.inl rfl))) (fun _ _ _ _ _ => (pts_one (pt_cmpR op_ge (pv 2) (pv 1) (nomark _)))) (fun _ _ _ _ _ => (pv 2))) pa_nil)) (pv 1)))), runV (n := 2) (fun ds P h => by obtain ⟨_, _, rfl, _⟩ := h; rfl) (by decide) ?_ h⟩)
  rintro ds P ⟨ns, s, rfl, ⟨h0, h1, h2⟩, hP⟩
  refine SW.ret (EW.op (EW.cb (AW.cons (EF.toW (EF.lcFil ns .int (fun w => decide (s ≤ w)) id .int rfl ?_)))))
  refine IW.list (EW.var rfl ⟨_, rfl, rfl, le1000 h2, fun a ha => GW.name ⟨rfl, ?_⟩, AW.nil (RCW.sum ?_)⟩)
  · walk_at "e"
    refine ⟨rfl, rfl, fun _ => ?_⟩
    walk_at "e"
    exact ⟨rfl, rfl⟩
  · walk_at "e"
    rw [List.map_id]
    exact hP
/-! ### the drawing -/
def sp__law_box : PF := fun ds P => ∃ (ns : List Int) (k : Int), ds = [.lst (ns.map .int), .int k] ∧ (0 ≤ k ∧ k ≤ 3) ∧ ∀ n m : Int, 0 ≤ m → m < 2 ^ 50 → P [.int n, .int m, .int 0]
theorem ok__law_box (T : Txt K mg) : FnOk P w K mg base CX0 1 T.f__law_box T.fd__law_box ["_law_script", "_law_k"] (spF K sp__law_box) := by
  refine T.F__law_box.ok sc__law_box (fun vs H Q E h => lenF (fun ds P h => by obtain ⟨_, _, rfl, _⟩ := h; rfl) h) (fun cdv A outer s H vs Q E hr h => ⟨_, (pss_cons (ps_set (i := 2) sc__law_box.nd rfl (Or.inl rfl) (pe_ifExp (pt_cmpR op_lt (pv 1) (pe_callB (k_len (K' := K) rfl) (by rfl) T.b_len boot_len (pa_cons (pv 0) pa_nil)) (nomark _)) (pe_ix (k_ix (K' := K) rfl) (pv 0) (pv 1) (fun _ _ => rfl)) pe_int))
    (pss_one (ps_ret (pe_lst (pa_cons (pe_op u_mul (pe_callB u_abs (by rfl) T.b_abs boot_abs (pa_cons (pv 2) pa_nil)) (pe_callTy u_int (by rfl) T.b_int boot_int (pa_cons (pe_cmpR op_ge (pe_callB u_abs (by rfl) T.b_abs boot_abs (pa_cons (pv 2) pa_nil)) (pe_op op_pow pe_int pe_int) (nomark _)) pa_nil))) (pa_cons (pe_op u_add (pe_op u_add (pe_op u_mul (pe_op op_mod (pv 2) pe_int) pe_int) (pe_op u_mul pe_int (pv 1))) pe_int) (pa_cons pe_int pa_nil))))))), runF (n := 2) (fun ds P h => by obtain ⟨_, _, rfl, _⟩ := h; rfl) (by decide) ?_ h⟩)
  rintro ds P ⟨ns, k, rfl, ⟨h0, h1⟩, hP⟩
  refine SF.seq (SW.asg ?_)
  refine EW.mono (Q := fun d c1 => (∃ n : Int, d = .int n) ∧ c1 = 0) ?_ ?_
  · walk_at "e"
    refine ⟨fun h => ?_, fun h => ?_⟩
    · walk_at "e"
      have h' := of_decide_eq_true h
      rw [List.length_map] at h'
      have hk : k < ((ns.map D.int).length : Int) := by rw [List.length_map]; exact h'
      refine RW2.ixAny h0 hk fun d hd => ?_
      obtain ⟨n, _, rfl⟩ := List.mem_map.mp hd
      exact ⟨⟨n, rfl⟩, rfl⟩
    · walk_at "e"
      exact ⟨⟨0, rfl⟩, rfl⟩
  · rintro d c1 ⟨⟨n, rfl⟩, rfl⟩
    refine SF.ret (EF.lst ?_)
    walk_at "e"
    exact hP _ _ (by omega) (by omega)
def sp__law_take : PB := fun c ds P => ∃ (n : Int), ds = [.int n] ∧ (0 < n ∧ n < 1073741824 ∧ c < 2 ^ 40) ∧ ∀ (r : Int) (c' : Nat), 0 ≤ r → r < n → c' ≤ c + 1 → P (.int r) c'
theorem ok__law_take (T : Txt K mg) : FnOk P w K mg base CX0 1 T.f__law_take T.fd__law_take ["_law_box_here", "_law_many"] (spB K sp__law_take) := by
  refine T.F__law_take.ok sc__law_take (fun vs H Q E h => lenB (fun c ds P h => by obtain ⟨_, rfl, _⟩ := h; rfl) h) (fun cdv A outer s H vs Q E hr h => ⟨_, (pss_cons (ps_if (pt_cmpR op_gt (pe_ix (k_ix (K' := K) rfl) (pv 0) pe_int (fun _ _ => rfl)) pe_int (nomark _)) (pss_cons (ps_set (i := 2) sc__law_take.nd rfl (Or.inl rfl) (pe_op op_mod (pe_ix (k_ix (K' := K) rfl) (pv 0) pe_int (fun _ _ => rfl)) (pv 1)))
    (pss_cons (ps_asg (pe_op op_fdiv (pe_ix (k_ix (K' := K) rfl) (pv 0) pe_int (fun _ _ => rfl)) (pv 1)) (pg_sub (pv 0) pe_int set_list))
    (pss_one (ps_ret (pv 2))))) pss_nil)
    (pss_cons (ps_asg (pe_op u_add (pe_ix (k_ix (K' := K) rfl) (pv 0) pe_int (fun _ _ => rfl)) pe_int) (pg_sub (pv 0) pe_int set_list))
    (pss_cons (ps_set (i := 3) sc__law_take.nd rfl (Or.inl rfl) (pe_op u_add pe_int (pe_op u_mul (pe_ix (k_ix (K' := K) rfl) (pv 0) pe_int (fun _ _ => rfl)) (pe_ix (k_ix (K' := K) rfl) (pv 0) pe_int (fun _ _ => rfl)))))
    (pss_cons (ps_set (i := 4) sc__law_take.nd rfl (Or.inl rfl) (pe_op op_mod (pe_op u_mul (pe_op u_add (pe_ix (k_ix (K' := K) rfl) (pv 0) pe_int (fun _ _ => rfl)) (pe_op u_mul pe_int (pe_ix (k_ix (K' := K) rfl) (pv 0) pe_int (fun _ _ => rfl)))) (pv 3)) pe_int))
    (pss_cons (ps_set (i := 5) sc__law_take.nd rfl (Or.inl rfl) (pe_op op_mod (pe_op u_add (pe_op u_mul (pv 4) (pe_op u_add (pe_op op_mod (pv 4) pe_int) pe_int)) (pe_ix (k_ix (K' := K) rfl) (pv 0) pe_int (fun _ _ => rfl))) pe_int))
    (pss_one (ps_ret (pe_op op_mod (pe_op op_fdiv (pe_op op_mod (pe_op u_mul (pv 5) (pe_op u_add (pe_op op_mod (pv 5) pe_int) pe_int)) pe_int) pe_int) (pv 1))))))))), runB (n := 2) (fun c ds P h => by obtain ⟨_, rfl, _⟩ := h; rfl) (by decide) ?_ h⟩)
  rintro b c ds P ⟨n, rfl, ⟨h0, h1, h2⟩, hP⟩
  have hm : ∀ x : Int, 0 ≤ x % n ∧ x % n < n := fun x => ⟨Int.emod_nonneg x (by omega), Int.emod_lt_of_pos x h0⟩
  refine SW.seq (SW.ite ?_)
  walk_at "e"
  refine ⟨fun h => ?_, fun h => SW.next ?_⟩
  · refine SW.seq (SW.asg ?_)
    walk_at "e"
    refine SW.seq (SW.box0 rfl ?_)
    walk_at "e"
    refine SW.ret ?_
    walk_at "e"
    exact hP _ _ (hm _).1 (hm _).2 (by omega)
  · refine SW.seq (SW.box2 rfl (EW.op (EW.box2 rfl (EW.cint (RW2.uAddi ⟨c + 1, rfl, ?_⟩)))))
    refine SW.seq (SW.asg ?_)
    walk_at "e"
    refine SW.seq (SW.asg ?_)
    walk_at "e"
    refine SW.seq (SW.asg ?_)
    walk_at "e"
    refine SW.ret ?_
    walk_at "e"
    exact hP _ _ (hm _).1 (hm _).2 (by omega)
end
end K12
namespace K12
open PySem PySem.Spec PyProof.Rows L2 Q
local macro_rules | `(tactic| walk_at "p") => `(tactic| first | omega | (simp only [List.length_map, List.length_cons, List.length_nil, List.length_append, List.length_set]; first | done | omega) | (refine .inl ⟨?_, ?_⟩ <;> omega) | (refine .inr ⟨?_, ?_⟩ <;> omega) | (refine ⟨?_, ?_⟩ <;> omega) | exact .inr (b01 _) | exact .inl (b01 _) | exact le1000 (by first | decide | (simp only [List.length_map, List.length_cons, List.length_nil, List.length_append, List.length_set]; first | done | omega) | omega) | decide)
local macro_rules | `(tactic| walk_at "s") => `(tactic| with_reducible (first
  | refine EW.cint ?_ | refine EW.cstr ?_ | refine EW.cbl ?_ | refine EW.cnon ?_ | refine EW.cty ?_
  | refine AW.nil ?_ | refine AW.cons ?_
  | refine EW.ite ?_ | refine EW.andV ?_ | refine EW.orV ?_ | refine EW.notV ?_ | refine TW.test ?_ | refine TW.tB ?_ | refine TW.and ?_ | refine TW.or ?_ | refine TW.not ?_ | refine TW.yes ?_
  | refine EW.callV ?_ | refine EW.cb ?_ | refine EW.neg ?_ | refine EW.tup ?_ | refine EF.toW (EF.lst ?_) | refine EF.lst ?_
  | refine RW2.ii ?_ | refine RW2.ib ?_ | refine RW2.uAddi ?_ | refine RW2.isN ?_ | refine RW2.notN ?_ | refine RW2.isB ?_ | refine RW2.notB ?_
  | refine RCW.abs ?_ | refine RCW.max2 ?_ | refine RCW.min2 ?_ | refine RCW.inti ?_ | refine RCW.intb ?_))
local macro_rules | `(tactic| walk_at "v") => `(tactic| first
  | ((with_reducible apply EW.var); (· rfl)) | ((with_reducible refine EW.callB ?_ ?_); (· rfl))
  | ((with_reducible refine EW.bx0 ?_ fun _ => ?_); (· exact ⟨rfl, rfl⟩)) | ((with_reducible refine EW.bx1 ?_ fun _ _ _ => ?_); (· exact ⟨rfl, rfl⟩)) | ((with_reducible refine EW.bx2 ?_ ?_); (· exact ⟨rfl, rfl⟩))
  | ((with_reducible apply EW.ixO); (· exact ⟨rfl, rfl⟩)) | ((with_reducible apply EW.varOwn); (· rfl)) | (with_reducible refine EW.op ?_)
  | ((with_reducible refine RW2.ci ?_ ?_); (· walk_at "p")) | ((with_reducible refine RW2.uMuli ?_ ?_); (· walk_at "p")))
local macro_rules | `(tactic| walk_at "d") => `(tactic| first
  | refine RW2.uEqi ?_ | refine RW2.uEqs ?_ | refine RW2.uEqb ?_ | refine RW2.uNei ?_ | refine RW2.uNes ?_ | refine RW2.uNeb ?_
  | refine RW2.uIxT rfl ?_ | refine RW2.uIxL rfl ?_
  | refine RCW.len rfl ?_ | refine RCW.isi (b := false) (fun _ h => nomatch h) (fun _ h => nomatch h) rfl ?_ | refine RCW.isi (b := true) (fun _ h => nomatch h) (fun _ h => nomatch h) rfl ?_ | refine TW.tru ?_
  | refine ⟨_, rfl, ⟨by walk_at "p", by walk_at "p", by walk_at "p"⟩, fun _ _ _ _ _ => ?_⟩
  | refine ⟨(fun _ h => nomatch h), (fun _ h => nomatch h), false, false, false, rfl, rfl, rfl, ?_⟩ | refine ⟨(fun _ h => nomatch h), (fun _ h => nomatch h), true, false, true, rfl, rfl, rfl, ?_⟩ | refine ⟨(fun _ h => nomatch h), (fun _ h => nomatch h), false, true, true, rfl, rfl, rfl, ?_⟩
  | refine ⟨le1000 (by first | decide | (simp only [List.length_map, List.length_cons, List.length_nil, List.length_append, List.length_set]; first | done | omega)), ?_⟩ | refine ⟨_, rfl, ?_⟩)
local macro_rules | `(tactic| walk_at "e") => `(tactic| repeat (first | ((with_reducible refine EW.isi2 ?_ ?_); (· rfl)) | ((with_reducible apply EW.lenO); (· exact ⟨rfl, rfl⟩); (· rfl)) | walk_at "s" | walk_at "v" | walk_at "d"))
local macro_rules | `(tactic| walk_at "c") => `(tactic| first | refine br_t rfl ?_ | refine br_f rfl ?_ | refine br_t (decide_eq_true rfl) ?_)
local macro_rules | `(tactic| walk_at "w") => `(tactic| repeat (first | ((with_reducible refine EW.isi2 ?_ ?_); (· rfl)) | ((with_reducible apply EW.lenO); (· exact ⟨rfl, rfl⟩); (· rfl)) | walk_at "s" | walk_at "v" | (with_reducible first | refine SW.seq ?_ | refine SW.ite ?_ | refine SW.ret ?_ | refine SW.next ?_) | walk_at "d" | walk_at "c"))
section
variable {P : Program} {w : World} {K : Frag} {mg : Str → Option Value} {base : Heap}
/-! ### helpers about lists -/
theorem all_map {α : Type} {f : α → D} : ∀ {ds : List D}, (∀ d ∈ ds, ∃ a, d = f a) → ∃ as : List α, ds = as.map f
  | [], _ => ⟨[], rfl⟩
  | d :: r, h => by
    obtain ⟨a, rfl⟩ := h d (by simp)
    obtain ⟨as, rfl⟩ := all_map fun x hx => h x (List.mem_cons_of_mem _ hx)
    exact ⟨a :: as, rfl⟩
theorem all_mapP {α : Type} {f : α → D} {p : α → Prop} : ∀ {ds : List D}, (∀ d ∈ ds, ∃ a, d = f a ∧ p a) → ∃ as : List α, ds = as.map f ∧ ∀ a ∈ as, p a
  | [], _ => ⟨[], rfl, fun _ h => nomatch h⟩
  | d :: r, h => by
    obtain ⟨a, rfl, pa⟩ := h d (by simp)
    obtain ⟨as, rfl, hp⟩ := all_mapP fun x hx => h x (List.mem_cons_of_mem _ hx)
    refine ⟨a :: as, rfl, fun x hx => ?_⟩
    rcases List.mem_cons.mp hx with rfl | q
    · exact pa
    · exact hp x q
theorem paired_all {φ : D → D → Prop} {ψ : D → Prop} {ds ys : List D} (h : Paired φ ds ys) (k : ∀ d y, d ∈ ds → φ d y → ψ y) : ys.length = ds.length ∧ ∀ y ∈ ys, ψ y := by
  induction h with
  | nil => exact ⟨rfl, fun _ h => nomatch h⟩
  | cons a b ih =>
    obtain ⟨h1, h2⟩ := ih fun d y hd => k d y (List.mem_cons_of_mem _ hd)
    refine ⟨by rw [List.length_cons, List.length_cons, h1], fun y hy => ?_⟩
    rcases List.mem_cons.mp hy with rfl | q
    · exact k _ _ (by simp) a
    · exact h2 y q
theorem cut_sub {xs : List D} {lo hi : Option Int} {x : D} (h : x ∈ _root_.Q.cutD xs lo hi) : x ∈ xs := List.mem_of_mem_drop (List.mem_of_mem_take h)
theorem cut_len {xs : List D} {lo hi : Option Int} : (_root_.Q.cutD xs lo hi).length ≤ xs.length := by
  unfold _root_.Q.cutD; rw [List.length_take, List.length_drop]; omega
theorem cut_take {xs : List D} {k : Nat} : _root_.Q.cutD xs none (some (k : Int)) = xs.take k := by
  unfold _root_.Q.cutD
  rw [HT.sIx_nat, HT.sIx_none, Nat.sub_zero, List.drop_zero, List.take_eq_take_iff]; omega
theorem cut_mid {xs : List D} {a b : Nat} : (_root_.Q.cutD xs (some (a : Int)) (some (b : Int))).length = min b xs.length - min a xs.length := by
  unfold _root_.Q.cutD
  rw [HT.sIx_nat, HT.sIx_nat, List.length_take, List.length_drop]; omega
theorem mem_set {α : Type} {xs : List α} {k : Nat} {x y : α} (h : y ∈ xs.set k x) : y ∈ xs ∨ y = x := List.mem_or_eq_of_mem_set h
theorem enum_tup {ds : List D} {i : Nat} {d : D} (h : (enumD ds)[i]? = some d) : ∃ e, e ∈ ds ∧ d = .tup [.int (i : Nat), e] ∧ i < ds.length := by
  obtain ⟨e, h1, h2⟩ := enumD_get h
  obtain ⟨hl, _⟩ := List.getElem?_eq_some_iff.mp h1
  exact ⟨e, List.mem_of_getElem? h1, h2, hl⟩
def sp__law_folded : PV := fun ds P => ∃ (ns : List Int), ds = [.scr ns, .int 3] ∧ ∀ ms : List Int, ms.length ≤ 3 → P (.lst (ms.map .int))
theorem ok__law_folded (T : Txt K mg) : FnOk P w K mg base CX0 1 T.f__law_folded T.fd__law_folded ["_law_script", "_law_size"] (spV K sp__law_folded) := by
  refine T.F__law_folded.ok sc__law_folded (fun vs H Q E h => lenV (fun ds P h => by obtain ⟨_, rfl, _⟩ := h; rfl) h) (fun cdv A outer s H vs Q E hr h => ⟨_, (pss_cons (ps_set (i := 2) sc__law_folded.nd rfl (Or.inl rfl) (pe_callTy (k_lst (K' := K) rfl) (by rfl) T.b_list boot_list (pa_cons (pe_slice (k_sl (K' := K) rfl) (pv 0) po_none (po_some (pv 1))) pa_nil)))
    (pss_cons (ps_for PassesOwn.never rfl (k_penum (K' := K) rfl (by rfl) T.b_enumerate (pa_cons (pe_slice (k_sl (K' := K) rfl) (pv 0) (po_some (pv 1)) (po_some pe_int)) pa_nil)) (k_gtup (K' := K) (n := 2) rfl rfl (pgs_cons (pg_name (i := 3) sc__law_folded.nd rfl (Or.inl rfl)) (pgs_cons (pg_name (i := 4) sc__law_folded.nd rfl (Or.inl rfl)) pgs_nil)) rfl rfl)
    (pss_one (ps_asg (pe_op u_add (pe_ix (k_ix (K' := K) rfl) (pv 2) (pe_op op_mod (pv 3) (pv 1)) (fun _ _ => rfl)) (pe_op u_mul (pv 4) (pe_op u_add (pv 3) pe_int))) (pg_sub (pv 2) (pe_op op_mod (pv 3) (pv 1)) set_list))))
    (pss_one (ps_ret (pv 2))))), runV (n := 2) (fun ds P h => by obtain ⟨_, rfl, _⟩ := h; rfl) (by decide) ?_ h⟩)
  rintro ds P ⟨ns, rfl, hP⟩
  refine SW.seq (SW.asgF ?_)
  refine EF.cb (AW.cons (EF.toW (EF.slice (EW.var rfl (OW.none (OW.some (EW.var rfl ⟨3, rfl, ns.map .int, .inr ⟨ns, rfl, rfl⟩, ?_⟩)))))))
  refine AW.nil (RCF.list (.inl rfl) fun p => ?_)
  refine SW.seq (SW.for_ (is := [3, 4]) (IW.enum (AW.cons (EF.toW (EF.slice (EW.var rfl (OW.some (EW.var rfl ⟨3, rfl, OW.some (EW.cint ⟨63, rfl, ns.map .int, .inr ⟨ns, rfl, rfl⟩, ?_⟩)⟩))))))))
  refine AW.nil ⟨_, rfl, fun i ρ c => ∃ p ds s1 s2, ρ = [.val (.scr ns), .val (.int 3), .own p (.lst ds), s1, s2] ∧ ds.length = min 3 ns.length ∧ (∀ d ∈ ds, ∃ n, d = D.int n) ∧ c = 0, ⟨p, _, .no, .no, rfl, ?_, ?_, rfl⟩, ?_, ?_⟩
  · show (_root_.Q.cutD _ none (some ((3 : Nat) : Int))).length = _
    rw [cut_take, List.length_take, List.length_map]
  · intro d hd
    obtain ⟨n, _, rfl⟩ := List.mem_map.mp (cut_sub hd)
    exact ⟨n, rfl⟩
  · rintro i d ρ1 c2 hi ⟨p, ds, s1, s2, rfl, hl, hd, rfl⟩
    obtain ⟨e, he, rfl, hi2⟩ := enum_tup hi
    obtain ⟨x, _, rfl⟩ := List.mem_map.mp (cut_sub he)
    have hcl : (_root_.Q.cutD (ns.map D.int) (some 3) (some 63)).length = min 63 ns.length - min 3 ns.length := by
      have := cut_mid (xs := ns.map D.int) (a := 3) (b := 63); rw [List.length_map] at this; exact this
    have hl3 : ds.length = 3 := by omega
    have h63 : i < 63 := by omega
    have hk : ∃ k : Nat, ((i : Int) % 3) = k ∧ k < 3 := ⟨((i : Int) % 3).toNat, by omega, by omega⟩
    obtain ⟨k, hk, hk3⟩ := hk
    refine GW.nm2 (SW.store ⟨_, _, rfl, ?_⟩)
    refine EW.op (EW.ixOwn ⟨_, _, rfl, ?_⟩)
    walk_at "e"
    have hkl : k < ds.length := by omega
    obtain ⟨y, hy⟩ := hd ds[k] (List.getElem_mem hkl)
    refine ⟨_, D.int y, rfl, by rw [hk, atI_ge (by omega) (by omega), ← hy]; exact List.getElem?_eq_getElem _, ?_⟩
    walk_at "e"
    refine ⟨_, k, rfl, by rw [hk]; exact ixN_ge (by omega) (by omega), p, _, _, _, rfl, by rw [List.length_set]; exact hl, fun d hd' => ?_, rfl⟩
    rcases mem_set hd' with q | rfl
    · exact hd d q
    · exact ⟨_, rfl⟩
  · rintro ρ1 c2 ⟨p, ds, s1, s2, rfl, hl, hd, rfl⟩
    obtain ⟨ms, rfl⟩ := all_map hd
    rw [List.length_map] at hl
    exact SW.freeze 2 rfl (SW.ret (EW.var rfl (hP ms (by omega))))
/-- sizes: each a divisor of each later one -/
def SizesOk (ns : List Int) : Prop := 0 < ns.length ∧ ns.length ≤ 5 ∧ (∀ n ∈ ns, 0 < n ∧ n < 4194304) ∧ ns.Pairwise (· ∣ ·)
theorem chain_of : ∀ {ns : List Int}, (∀ n ∈ ns, 0 < n) → ns.Pairwise (· ∣ ·) → ∀ a ∈ ns, ∀ b ∈ ns, a ≤ b → a ∣ b
  | [], _, _, a, ha, _, _, _ => nomatch ha
  | x :: r, hp, hd, a, ha, b, hb, hab => by
    obtain ⟨h1, h2⟩ := List.pairwise_cons.mp hd
    rcases List.mem_cons.mp ha with rfl | ha' <;> rcases List.mem_cons.mp hb with rfl | hb'
    · exact Int.dvd_refl _
    · exact h1 b hb'
    · have h2 := h1 a ha'
      have h3 := Int.le_of_dvd (hp a ha) h2
      have : a = b := by omega
      rw [this]; exact Int.dvd_refl _
    · exact chain_of (fun n hn => hp n (List.mem_cons_of_mem _ hn)) h2 a ha' b hb' hab
theorem SizesOk.chain {ns : List Int} (h : SizesOk ns) : ∀ a ∈ ns, ∀ b ∈ ns, a ≤ b → a ∣ b := chain_of (fun n hn => (h.2.2.1 n hn).1) h.2.2.2
def SzInv (i : Nat) (ns : List Int) : Prop := ns.length = i + 1 ∧ (∃ l, ns.getLast? = some l ∧ l ≤ 100 * 12 ^ i ∧ ∀ n ∈ ns, 0 < n ∧ n ∣ l) ∧ ns.Pairwise (· ∣ ·)
theorem SzInv.step {i : Nat} {ns : List Int} (h : SzInv i ns) {l m : Int} (hl : ns.getLast? = some l) (h1 : 2 ≤ m) (h2 : m ≤ 12) : SzInv (i + 1) (ns ++ [l * m]) := by
  obtain ⟨e, ⟨l', hl', hb, hd⟩, hp⟩ := h
  obtain rfl : l' = l := by rw [hl] at hl'; cases hl'; rfl
  have hl0 : 0 < l' := (hd l' (List.mem_of_getLast? hl)).1
  refine ⟨by rw [List.length_append, e]; rfl, ⟨l' * m, by simp, ?_, ?_⟩, ?_⟩
  · have e1 : (12 : Int) ^ (i + 1) = 12 ^ i * 12 := Int.pow_succ 12 i
    have e2 : l' * m ≤ l' * 12 := Int.mul_le_mul_of_nonneg_left h2 (by omega)
    rw [e1]; omega
  · intro n hn
    rcases List.mem_append.mp hn with q | q
    · exact ⟨(hd n q).1, Int.dvd_trans (hd n q).2 (Int.dvd_mul_right _ _)⟩
    · obtain rfl := List.mem_singleton.mp q
      exact ⟨Int.mul_pos hl0 (by omega), Int.dvd_refl _⟩
  · rw [List.pairwise_append]
    refine ⟨hp, List.pairwise_singleton _ _, fun a ha b hb => ?_⟩
    obtain rfl := List.mem_singleton.mp hb
    exact Int.dvd_trans (hd a ha).2 (Int.dvd_mul_right _ _)
theorem SzInv.ok {i : Nat} {ns : List Int} (h : SzInv i ns) (hi : i ≤ 4) : SizesOk ns := by
  obtain ⟨e, ⟨l, hl, hb, hd⟩, hp⟩ := h
  have hl0 : 0 < l := (hd l (List.mem_of_getLast? hl)).1
  have hpow : (12 : Int) ^ i ≤ 20736 := by
    have : i = 0 ∨ i = 1 ∨ i = 2 ∨ i = 3 ∨ i = 4 := by omega
    rcases this with rfl | rfl | rfl | rfl | rfl <;> decide
  refine ⟨by omega, by omega, fun n hn => ⟨(hd n hn).1, ?_⟩, hp⟩
  have := Int.le_of_dvd hl0 (hd n hn).2
  omega
def sp__law_sizes : PB := fun c ds P => ds = [] ∧ c < 2 ^ 40 - 100 ∧ ∀ (ns : List Int) (c' : Nat), SizesOk ns → c' ≤ c + 20 → P (.lst (ns.map .int)) c'
theorem ok__law_sizes (T : Txt K mg) : FnOk P w K mg base CX0 2 T.f__law_sizes T.fd__law_sizes ["_law_box_here"] (spB K sp__law_sizes) := by
  refine T.F__law_sizes.ok sc__law_sizes (fun vs H Q E h => lenB (fun c ds P h => by obtain ⟨rfl, _⟩ := h; rfl) h) (fun cdv A outer s H vs Q E hr h => ⟨_, (pss_cons (ps_set (i := 1) sc__law_sizes.nd rfl (Or.inl rfl) (pe_lst (pa_cons (pe_op u_add pe_int (pe_call (ok__law_take T) (hr.mono (by decide)) (by rfl) T.g__law_take T.F__law_take.kp T.bd__law_take .nil pass0 (pa_cons (pv 0) (pa_cons (pe_ix (k_ix (K' := K) rfl) (pe_lst (pa_cons pe_int (pa_cons pe_int (pa_cons pe_int pa_nil)))) (pe_call (ok__law_take T) (hr.mono (by decide)) (by rfl) T.g__law_take T.F__law_take.kp T.bd__law_take .nil pass0 (pa_cons (pv 0) (pa_cons pe_int pa_nil))) (fun _ _ => rfl)) pa_nil)))) pa_nil)))
    (pss_cons (ps_for PassesOwn.never rfl (pi_range1 (by rfl) T.b_range (pa_cons (pe_call (ok__law_take T) (hr.mono (by decide)) (by rfl) T.g__law_take T.F__law_take.kp T.bd__law_take .nil pass0 (pa_cons (pv 0) (pa_cons pe_int pa_nil))) pa_nil)) (pg_name (i := 2) sc__law_sizes.nd rfl (Or.inl rfl))
    (pss_one (ps_expr (pe_bm PySem.F.plainAttrs_list PySem.F.slot_list_append PySem.F.type_list_append mt_append (pv 1) (pa_cons (pe_op u_mul (pe_ix (k_ix (K' := K) rfl) (pv 1) (pe_un un_neg pe_int) (fun _ _ => rfl)) (pe_ix (k_ix (K' := K) rfl) (pe_lst (pa_cons pe_int (pa_cons pe_int (pa_cons pe_int (pa_cons (pe_op u_add pe_int (pe_call (ok__law_take T) (hr.mono (by decide)) (by rfl) T.g__law_take T.F__law_take.kp T.bd__law_take .nil pass0 (pa_cons (pv 0) (pa_cons pe_int pa_nil)))) pa_nil))))) (pe_call (ok__law_take T) (hr.mono (by decide)) (by rfl) T.g__law_take T.F__law_take.kp T.bd__law_take .nil pass0 (pa_cons (pv 0) (pa_cons pe_int pa_nil))) (fun _ _ => rfl))) pa_nil)))))
    (pss_one (ps_ret (pv 1))))), runB (n := 1) (fun c ds P h => by obtain ⟨rfl, _⟩ := h; rfl) (by decide) ?_ h⟩)
  rintro b c ds P ⟨rfl, hc, hP⟩
  refine SW.seq (SW.asgF (EF.mono (QF := fun es c' => ∃ n : Int, es = [.int n] ∧ 1 ≤ n ∧ n ≤ 100 ∧ c' ≤ c + 2) ?_ ?_))
  · walk_at "e"

    refine RW2.ixAny (by omega) (by simp; omega) fun d hd => ?_
    simp only [List.mem_cons, List.not_mem_nil, or_false] at hd
    have hd : ∃ k : Int, d = .int k ∧ 1 ≤ k ∧ k ≤ 100 := by rcases hd with rfl | rfl | rfl <;> exact ⟨_, rfl, by decide, by decide⟩
    obtain ⟨k, rfl, hk1, hk2⟩ := hd
    walk_at "e"
    exact ⟨by omega, by omega, by omega⟩
  · rintro es c' ⟨n, rfl, h1, h2, hc'⟩ p
    refine SW.seq (SW.for_ (is := [2]) (IW.rng1 ?_))
    walk_at "e"
    rename_i m c3 hm0 hm1 hc3
    refine ⟨by omega, by omega, fun i ρ c => ∃ p ns s, ρ = [.box, .own p (.lst (ns.map .int)), s] ∧ SzInv i ns ∧ c ≤ c3 + 2 * i, ⟨p, [n], .no, rfl, ⟨rfl, ⟨n, rfl, by omega, ?_⟩, List.pairwise_singleton _ _⟩, by omega⟩, ?_, ?_⟩
    · intro a ha
      obtain rfl := List.mem_singleton.mp ha
      exact ⟨by omega, Int.dvd_refl _⟩
    · rintro i d ρ1 c4 hi ⟨p, ns, s, rfl, hz, hc4⟩
      obtain ⟨hi, rfl⟩ := rngD_get hi
      obtain ⟨l, hl, -, hd⟩ := hz.2.1
      have hl0 := (hd l (List.mem_of_getLast? hl)).1
      refine GW.name (SW.app ⟨_, _, rfl, by rw [List.length_map, hz.1]; exact le1000 (by omega), ?_⟩)
      refine EW.op (EW.ixOwn ⟨_, _, rfl, ?_⟩)
      refine EW.neg (EW.cint ⟨1, rfl, -1, .int l, rfl, atI_neg1 (by rw [List.getLast?_map, hl]; rfl), ?_⟩)
      walk_at "e"
      refine RW2.ixAny (by omega) (by simp; omega) fun d hd => ?_
      simp only [List.mem_cons, List.not_mem_nil, or_false] at hd
      rename_i z _ hz0 hz1 _ _ _ _ _ _
      have hd : ∃ k : Int, d = .int k ∧ 2 ≤ k ∧ k ≤ 12 := by rcases hd with rfl | rfl | rfl | rfl <;> exact ⟨_, rfl, by omega, by omega⟩
      obtain ⟨k, rfl, hk1, hk2⟩ := hd
      walk_at "e"
      exact ⟨p, ns ++ [l * k], _, by rw [List.map_append]; rfl, hz.step hl hk1 hk2, by omega⟩
    · rintro ρ1 c4 ⟨p, ns, s, rfl, hz, hc4⟩
      rw [rngD_length] at hz hc4
      exact SW.freeze 1 rfl (SW.ret (EW.var rfl (hP ns _ (hz.ok (by omega)) (by omega))))
end
end K12
namespace K12
open PySem PySem.Spec PyProof.Rows L2 Q
local macro_rules | `(tactic| walk_at "p") => `(tactic| first | omega | (simp only [List.length_map, List.length_cons, List.length_nil, List.length_append, List.length_set]; first | done | omega) | (refine .inl ⟨?_, ?_⟩ <;> omega) | (refine .inr ⟨?_, ?_⟩ <;> omega) | (refine ⟨?_, ?_⟩ <;> omega) | exact .inr (b01 _) | exact .inl (b01 _) | exact le1000 (by first | decide | (simp only [List.length_map, List.length_cons, List.length_nil, List.length_append, List.length_set]; first | done | omega) | omega) | decide)
local macro_rules | `(tactic| walk_at "s") => `(tactic| with_reducible (first
  | refine EW.cint ?_ | refine EW.cstr ?_ | refine EW.cbl ?_ | refine EW.cnon ?_ | refine EW.cty ?_
  | refine AW.nil ?_ | refine AW.cons ?_
  | refine EW.ite ?_ | refine EW.andV ?_ | refine EW.orV ?_ | refine EW.notV ?_ | refine TW.test ?_ | refine TW.tB ?_ | refine TW.and ?_ | refine TW.or ?_ | refine TW.not ?_ | refine TW.yes ?_
  | refine EW.callV ?_ | refine EW.cb ?_ | refine EW.neg ?_ | refine EW.tup ?_ | refine EF.toW (EF.lst ?_) | refine EF.lst ?_
  | refine RW2.ii ?_ | refine RW2.ib ?_ | refine RW2.uAddi ?_ | refine RW2.isN ?_ | refine RW2.notN ?_ | refine RW2.isB ?_ | refine RW2.notB ?_
  | refine RCW.abs ?_ | refine RCW.max2 ?_ | refine RCW.min2 ?_ | refine RCW.inti ?_ | refine RCW.intb ?_))
local macro_rules | `(tactic| walk_at "v") => `(tactic| first
  | ((with_reducible apply EW.var); (· rfl)) | ((with_reducible refine EW.callB ?_ ?_); (· rfl))
  | ((with_reducible refine EW.bx0 ?_ fun _ => ?_); (· exact ⟨rfl, rfl⟩)) | ((with_reducible refine EW.bx1 ?_ fun _ _ _ => ?_); (· exact ⟨rfl, rfl⟩)) | ((with_reducible refine EW.bx2 ?_ ?_); (· exact ⟨rfl, rfl⟩))
  | ((with_reducible apply EW.ixO); (· exact ⟨rfl, rfl⟩)) | ((with_reducible apply EW.varOwn); (· rfl)) | (with_reducible refine EW.op ?_)
  | ((with_reducible refine RW2.ci ?_ ?_); (· walk_at "p")) | ((with_reducible refine RW2.uMuli ?_ ?_); (· walk_at "p")))
local macro_rules | `(tactic| walk_at "d") => `(tactic| first
  | refine RW2.uEqi ?_ | refine RW2.uEqs ?_ | refine RW2.uEqb ?_ | refine RW2.uNei ?_ | refine RW2.uNes ?_ | refine RW2.uNeb ?_
  | refine RW2.uIxT rfl ?_ | refine RW2.uIxL rfl ?_
  | refine RCW.len rfl ?_ | refine RCW.isi (b := false) (fun _ h => nomatch h) (fun _ h => nomatch h) rfl ?_ | refine RCW.isi (b := true) (fun _ h => nomatch h) (fun _ h => nomatch h) rfl ?_ | refine TW.tru ?_
  | refine ⟨_, rfl, ⟨by walk_at "p", by walk_at "p", by walk_at "p"⟩, fun _ _ _ _ _ => ?_⟩
  | refine ⟨(fun _ h => nomatch h), (fun _ h => nomatch h), false, false, false, rfl, rfl, rfl, ?_⟩ | refine ⟨(fun _ h => nomatch h), (fun _ h => nomatch h), true, false, true, rfl, rfl, rfl, ?_⟩ | refine ⟨(fun _ h => nomatch h), (fun _ h => nomatch h), false, true, true, rfl, rfl, rfl, ?_⟩
  | refine ⟨le1000 (by first | decide | (simp only [List.length_map, List.length_cons, List.length_nil, List.length_append, List.length_set]; first | done | omega)), ?_⟩ | refine ⟨_, rfl, ?_⟩)
local macro_rules | `(tactic| walk_at "e") => `(tactic| repeat (first | ((with_reducible refine EW.isi2 ?_ ?_); (· rfl)) | ((with_reducible apply EW.lenO); (· exact ⟨rfl, rfl⟩); (· rfl)) | walk_at "s" | walk_at "v" | walk_at "d"))
local macro_rules | `(tactic| walk_at "c") => `(tactic| first | refine br_t rfl ?_ | refine br_f rfl ?_ | refine br_t (decide_eq_true rfl) ?_)
local macro_rules | `(tactic| walk_at "w") => `(tactic| repeat (first | ((with_reducible refine EW.isi2 ?_ ?_); (· rfl)) | ((with_reducible apply EW.lenO); (· exact ⟨rfl, rfl⟩); (· rfl)) | walk_at "s" | walk_at "v" | (with_reducible first | refine SW.seq ?_ | refine SW.ite ?_ | refine SW.ret ?_ | refine SW.next ?_) | walk_at "d" | walk_at "c"))
section
variable {P : Program} {w : World} {K : Frag} {mg : Str → Option Value} {base : Heap}
def NamesOk (ss : List Str) : Prop := ss.length ≤ 20 ∧ ∀ s ∈ ss, strOkN 30 s
theorem letters_ok : (("abcdefghijklmnopqrstuvwxyz" : Str).cps.toList.length : Int) = 26 ∧ ("abcdefghijklmnopqrstuvwxyz" : Str).length ≤ sizeLine ∧ PyData.strOk "abcdefghijklmnopqrstuvwxyz" = true := by
  refine ⟨by decide, le1000 (by decide), by decide +kernel⟩
theorem sum_le_len {hs : List Str} (h : ∀ s ∈ hs, strOkN 1 s) : (hs.map (·.length)).sum ≤ hs.length := by
  induction hs with
  | nil => exact Nat.le_refl 0
  | cons a r ih =>
    have h1 := (h a (by simp)).1
    have h2 := ih fun s hs => h s (by simp [hs])
    rw [List.map_cons, List.sum_cons, List.length_cons]; omega
def sp__law_load_names : PB := fun c ds P => ∃ n : Int, ds = [.int n] ∧ (0 ≤ n ∧ n ≤ 20 ∧ c < 2 ^ 40 - 100) ∧ ∀ (ss : List Str) (c' : Nat), NamesOk ss → c' ≤ c + 40 → P (.lst (ss.map .str)) c'
theorem ok__law_load_names (T : Txt K mg) : FnOk P w K mg base CX0 2 T.f__law_load_names T.fd__law_load_names ["_law_box_here", "_law_many"] (spB K sp__law_load_names) := by
  refine T.F__law_load_names.ok sc__law_load_names (fun vs H Q E h => lenB (fun c ds P h => by obtain ⟨_, rfl, _⟩ := h; rfl) h) (fun cdv A outer s H vs Q E hr h => ⟨_, (pss_cons (ps_asg (pe_tup (pa_cons pe_str (pa_cons (pe_slice (k_sl (K' := K) rfl) (pe_lst (pa_cons pe_str (pa_cons pe_str (pa_cons pe_str (pa_cons pe_str (pa_cons pe_str (pa_cons pe_str pa_nil))))))) po_none (po_some (pe_op u_mul (pv 1) (pe_callTy u_int (by rfl) T.b_int boot_int (pa_cons (pe_cmpR (k_eq (K' := K) rfl (hu64 hr)) (pe_call (ok__law_take T) (hr.mono (by decide)) (by rfl) T.g__law_take T.F__law_take.kp T.bd__law_take .nil pass0 (pa_cons (pv 0) (pa_cons pe_int pa_nil))) pe_int (nomark _)) pa_nil))))) pa_nil))) (k_gtup (K' := K) (n := 2) rfl rfl (pgs_cons (pg_name (i := 2) sc__law_load_names.nd rfl (Or.inr rfl)) (pgs_cons (pg_name (i := 3) sc__law_load_names.nd rfl (Or.inl rfl)) pgs_nil)) rfl rfl))
    (pss_cons (ps_set (i := 4) sc__law_load_names.nd rfl (Or.inl rfl) (u_join pe_str (pe_lc (own := [("_law_turn", 5)]) rfl sc__law_load_names.nd (pi_range1 (by rfl) T.b_range (pa_cons (pe_call (ok__law_take T) (hr.mono (by decide)) (by rfl) T.g__law_take T.F__law_take.kp T.bd__law_take .nil pass0 (pa_cons (pv 0) (pa_cons pe_int pa_nil))) pa_nil)) (blkOk_by (N := N__law_load_names) (sc := defScope s__law_load_names) (by decide +kernel)) (fun _ _ _ _ _ => (pg_name (i := 5) sc__law_load_names.nd rfl (Or.inl rfl))) (fun _ _ _ _ _ => pts_nil) (fun _ _ _ _ _ => (pe_ix (k_ix (K' := K) rfl) (pv 2) (pe_call (ok__law_take T) (hr.mono (by decide)) (by rfl) T.g__law_take T.F__law_take.kp T.bd__law_take .nil pass0 (pa_cons (pv 0) (pa_cons pe_int pa_nil))) (fun _ _ => rfl))))))
    (pss_cons (ps_par (i := 6) (j := 7) rfl sc__law_load_names.nd rfl rfl (by decide) rfl rfl (pa_cons (pe_call (ok__law_take T) (hr.mono (by decide)) (by rfl) T.g__law_take T.F__law_take.kp T.bd__law_take .nil pass0 (pa_cons (pv 0) (pa_cons pe_int pa_nil))) (pa_cons (pe_lst (pa_cons pe_str (pa_cons pe_str (pa_cons pe_str (pa_cons pe_str (pa_cons pe_str pa_nil)))))) pa_nil)) (by rfl))
    (pss_cons (ps_for PassesOwn.never rfl (pi_range2 (by rfl) T.b_range (pa_cons (pe_callB (k_len (K' := K) rfl) (by rfl) T.b_len boot_len (pa_cons (pv 3) pa_nil)) (pa_cons (pv 1) pa_nil))) (pg_name (i := 8) sc__law_load_names.nd rfl (Or.inl rfl))
    (pss_cons (ps_set (i := 9) sc__law_load_names.nd rfl (Or.inl rfl) (pe_op u_add (pe_ix (k_ix (K' := K) rfl) (pv 2) (pe_op op_mod (pe_op u_add (pv 6) (pe_op u_mul pe_int (pv 8))) pe_int) (fun _ _ => rfl)) (pe_ix (k_ix (K' := K) rfl) (pv 2) (pe_op op_fdiv (pv 8) pe_int) (fun _ _ => rfl))))
    (pss_one (ps_expr (pe_bm PySem.F.plainAttrs_list PySem.F.slot_list_append PySem.F.type_list_append mt_append (pv 3) (pa_cons (pe_op u_add (pe_op u_add (pv 4) (pv 9)) (pe_ix (k_ix (K' := K) rfl) (pv 7) (pe_call (ok__law_take T) (hr.mono (by decide)) (by rfl) T.g__law_take T.F__law_take.kp T.bd__law_take .nil pass0 (pa_cons (pv 0) (pa_cons pe_int pa_nil))) (fun _ _ => rfl))) pa_nil))))))
    (pss_one (ps_ret (pv 3))))))), runB (n := 2) (fun c ds P h => by obtain ⟨_, rfl, _⟩ := h; rfl) (by decide) ?_ h⟩)
  rintro b c ds P ⟨n, rfl, ⟨hn0, hn1, hc⟩, hP⟩
  obtain ⟨lt1, lt2, lt3⟩ := letters_ok
  refine SW.seq (SW.asgTup2F ?_)
  walk_at "e"
  refine EF.slice ?_
  walk_at "e"
  refine OW.none (OW.some ?_)
  walk_at "e"
  rename_i r0 c0 hr0 hr1 hc0
  have hz := b01' (decide (r0 = 0))
  have hz2 : 0 ≤ n * (if decide (r0 = 0) = true then 1 else 0 : Int) := Int.mul_nonneg hn0 hz.1
  refine ⟨_, .inl rfl, fun p => ?_⟩
  generalize hcut : _root_.Q.cutD _ _ _ = cs
  have hcs : cs.length ≤ 6 ∧ ∀ d ∈ cs, ∃ s, d = .str s ∧ strOkN 30 s := by
    subst hcut
    refine ⟨Nat.le_trans cut_len (by simp), fun d hd => ?_⟩
    have := cut_sub hd
    simp only [List.mem_cons, List.not_mem_nil, or_false] at this
    rcases this with rfl | rfl | rfl | rfl | rfl | rfl <;> exact ⟨_, rfl, by decide, by decide +kernel⟩
  clear hcut
  obtain ⟨fs, rfl, hfs⟩ := all_mapP hcs.2
  have hfl : fs.length ≤ 6 := by have := hcs.1; rwa [List.length_map] at this
  refine SW.seq (SW.asg (EW.join (EW.cstr ⟨_, rfl, EF.toW (EF.lcDraw (fun _ y => ∃ s, y = .str s ∧ strOkN 1 s) 1 rfl (IW.rng1 ?_))⟩)))
  walk_at "e"
  rename_i r1 c1 hr10 hr11 hc1
  refine ⟨by omega, by omega, by rw [rngD_length]; exact le1000 (by omega), ?_, ?_⟩
  · intro i d c2 hi hc2
    obtain ⟨hi, rfl⟩ := rngD_get hi
    refine GW.name ⟨rfl, ?_⟩
    walk_at "e"
    refine RW2.ixSAny lt2 (by omega) (by omega) fun k hk => ⟨⟨_, rfl, ok_one lt3 hk⟩, by omega⟩
  · intro ys c2 hp hc2
    obtain ⟨hyl, hy⟩ := paired_all (ψ := fun y => ∃ s, y = .str s ∧ strOkN 1 s) hp fun _ _ _ h => h
    obtain ⟨hs, rfl, hhs⟩ := all_mapP hy
    rw [List.length_map] at hyl
    rw [rngD_length] at hyl hc2
    have hsum := sum_le_len hhs
    refine ⟨hs, rfl, ?_, ?_⟩
    · show (hs.map (·.length)).sum + hs.length * 0 ≤ _
      omega
    have hj := join_empty hs 1 hhs
    refine SW.seq (SW.parVV ?_)
    walk_at "e"
    rename_i r2 c3 hr20 hr21 hc3
    refine SW.seq (SW.for_ (is := [8]) (IW.rng2 ?_))
    refine AW.cons (EW.flat (EW.cb (AW.cons (EW.varOwn rfl (AW.nil (RCW.len rfl ⟨rfl, ?_⟩))))))
    walk_at "e"
    refine ⟨_, _, rfl, ⟨by omega, by rw [List.length_map]; omega, by omega, by omega⟩, ?_⟩
    rw [List.length_map]
    refine ⟨fun i ρ c => ∃ (p : Addr) (ss : List Str) (s1 s2 : Slot), ρ = [.box, .val (.int n), .val (.str "abcdefghijklmnopqrstuvwxyz"), .own p (.lst (ss.map .str)), .val (.str (Txt.join "" hs)), .no, .val (.int r2), .val (.lst [.str "", .str "a", .str "sack1", .str " b", .str "-"]), s1, s2] ∧ ss.length = fs.length + i ∧ (∀ s ∈ ss, strOkN 30 s) ∧ c ≤ c3 + i, ⟨p, fs, .no, .no, rfl, rfl, hfs, by omega⟩, ?_, ?_⟩
    · rintro i d ρ1 c4 hi ⟨p, ss, s1, s2, rfl, hl, hss, hc4⟩
      obtain ⟨hi, rfl⟩ := rngD_get hi
      refine GW.name (SW.seq (SW.asg ?_))
      walk_at "e"
      refine RW2.ixSAny lt2 (by omega) (by omega) fun k1 hk1 => ?_
      walk_at "e"
      refine RW2.ixSAny lt2 (by omega) (by omega) fun k2 hk2 => ?_
      have o1 := ok_one lt3 hk1
      have o2 := ok_one lt3 hk2
      have o12 := o1.app o2 (k := 2) (by omega)
      refine RW2.uAdds (le1000 (by have := o1.1; have := o2.1; omega)) ?_
      refine SW.app ⟨_, _, rfl, le1000 (by rw [List.length_map]; omega), ?_⟩
      walk_at "e"
      have o3 := hj.app o12 (k := 5) (by omega)
      refine RW2.uAdds (le1000 (by have := hj.1; have := o12.1; omega)) ?_
      walk_at "e"
      refine RW2.ixAny (by omega) (by simp; omega) fun d hd => ?_
      simp only [List.mem_cons, List.not_mem_nil, or_false] at hd
      have hd : ∃ s, d = .str s ∧ strOkN 5 s := by rcases hd with rfl | rfl | rfl | rfl | rfl <;> exact ⟨_, rfl, by decide, by decide +kernel⟩
      obtain ⟨e, rfl, he⟩ := hd
      have o4 := o3.app he (k := 30) (by omega)
      refine RW2.uAdds (le1000 (by have := o3.1; have := he.1; omega)) ?_
      refine ⟨p, ss ++ [_], _, _, by rw [List.map_append]; rfl, by rw [List.length_append, List.length_singleton]; omega, fun s hs => ?_, by omega⟩
      rcases List.mem_append.mp hs with q | q
      · exact hss s q
      · obtain rfl := List.mem_singleton.mp q; exact o4
    · rintro ρ1 c4 ⟨p, ss, s1, s2, rfl, hl, hss, hc4⟩
      rw [rngD_length] at hl hc4
      exact SW.freeze 3 rfl (SW.ret (EW.var rfl (hP ss _ ⟨by omega, hss⟩ (by omega))))
/-! ### loads -/
def ldD (p : Str × Int) : D := .tup [.str p.1, .int p.2]
def LoadsOk (ls : List (Str × Int)) : Prop := ls.length ≤ 20 ∧ (∀ p ∈ ls, strOkN 30 p.1 ∧ 0 < p.2 ∧ p.2 < 4194304) ∧ ∀ p ∈ ls, ∀ q ∈ ls, p.2 ≤ q.2 → p.2 ∣ q.2
def sp__law_loads : PB := fun c ds P => ∃ (ns : List Int) (n : Int), ds = [.lst (ns.map .int), .int n] ∧ (SizesOk ns ∧ (0 ≤ n ∧ n ≤ 20) ∧ c < 2 ^ 40 - 200) ∧ ∀ (ls : List (Str × Int)) (c' : Nat), LoadsOk ls → c' ≤ c + 80 → P (.lst (ls.map ldD)) c'
theorem ok__law_loads (T : Txt K mg) : FnOk P w K mg base CX0 3 T.f__law_loads T.fd__law_loads ["_law_box_here", "_law_sizes_here", "_law_many"] (spB K sp__law_loads) := by
  refine T.F__law_loads.ok sc__law_loads (fun vs H Q E h => lenB (fun c ds P h => by obtain ⟨_, _, rfl, _⟩ := h; rfl) h) (fun cdv A outer s H vs Q E hr h => ⟨_, (pss_cons (ps_set (i := 3) sc__law_loads.nd rfl (Or.inr rfl) (pe_ifExp (pt_cmpR op_gt (pe_call (ok__law_take T) (hr.mono (by decide)) (by rfl) T.g__law_take T.F__law_take.kp T.bd__law_take .nil pass0 (pa_cons (pv 0) (pa_cons pe_int pa_nil))) pe_int (nomark _)) (pv 1) (pe_lst (pa_cons (pe_ix (k_ix (K' := K) rfl) (pv 1) (pe_call (ok__law_take T) (hr.mono (by decide)) (by rfl) T.g__law_take T.F__law_take.kp T.bd__law_take .nil pass0 (pa_cons (pv 0) (pa_cons (pe_callB (k_len (K' := K) rfl) (by rfl) T.b_len boot_len (pa_cons (pv 1) pa_nil)) pa_nil))) (fun _ _ => rfl)) pa_nil))))
    (pss_one (ps_ret (pe_lc (own := [("_law_name", 4)]) rfl sc__law_loads.nd (k_plist (K' := K) rfl (pe_call (ok__law_load_names T) (hr.mono (by decide)) (by rfl) T.g__law_load_names T.F__law_load_names.kp T.bd__law_load_names .nil pass0 (pa_cons (pv 0) (pa_cons (pv 2) pa_nil)))) (blkOk_by (N := N__law_loads) (sc := defScope s__law_loads) (by decide +kernel)) (fun _ _ _ _ _ => (pg_name (i := 4) sc__law_loads.nd rfl (Or.inl rfl))) (fun _ _ _ _ _ => pts_nil) (fun _ _ _ _ _ => (pe_tup (pa_cons (pv 4) (pa_cons (pe_ix (k_ix (K' := K) rfl) (pv 3) (pe_call (ok__law_take T) (hr.mono (by decide)) (by rfl) T.g__law_take T.F__law_take.kp T.bd__law_take .nil pass0 (pa_cons (pv 0) (pa_cons (pe_callB (k_len (K' := K) rfl) (by rfl) T.b_len boot_len (pa_cons (pv 3) pa_nil)) pa_nil))) (fun _ _ => rfl)) pa_nil)))))))), runB (n := 3) (fun c ds P h => by obtain ⟨_, _, rfl, _⟩ := h; rfl) (by decide) ?_ h⟩)
  rintro b c ds P ⟨ns, n, rfl, ⟨hz, ⟨hn0, hn1⟩, hc⟩, hP⟩
  have hz0 := hz.1
  have hz5 := hz.2.1
  refine SW.seq (SW.asg (EW.mono (Q := fun d c' => ∃ ms : List Int, d = .lst (ms.map .int) ∧ (0 < ms.length ∧ ms.length ≤ 5) ∧ (∀ m ∈ ms, m ∈ ns) ∧ c' ≤ c + 2) ?_ ?_))
  · walk_at "e"
    refine ⟨fun h => ?_, fun h => ?_⟩
    · walk_at "e"
      exact ⟨⟨hz0, hz5⟩, fun _ h => h, by omega⟩
    · walk_at "e"
      refine RW2.ixAny (by omega) (by walk_at "p") fun d hd => ?_
      obtain ⟨m, hm, rfl⟩ := List.mem_map.mp hd
      walk_at "e"
      exact ⟨[m], rfl, ⟨by simp, by simp⟩, fun x hx => by rw [List.mem_singleton.mp hx]; exact hm, by omega⟩
  · rintro d c1 ⟨ms, rfl, ⟨hm0, hm5⟩, hms, hc1⟩
    refine SW.ret (EF.toW (EF.lcDraw (fun d y => ∃ p : Str × Int, y = ldD p ∧ d = .str p.1 ∧ p.2 ∈ ns) 1 rfl (IW.list ?_)))
    walk_at "e"
    refine ⟨⟨hn0, hn1, by omega⟩, fun ss c2 hss hc2 => ⟨_, rfl, le1000 (by rw [List.length_map]; have := hss.1; omega), ?_, ?_⟩⟩
    · intro i d c3 hi hc3
      have hil : i < 20 := by
        obtain ⟨h, _⟩ := List.getElem?_eq_some_iff.mp hi
        rw [List.length_map] at h; have := hss.1; omega
      obtain ⟨s, hs, rfl⟩ := List.mem_map.mp (List.mem_of_getElem? hi)
      refine GW.name ⟨rfl, ?_⟩
      walk_at "e"
      refine RW2.ixAny (by omega) (by walk_at "p") fun d hd => ?_
      obtain ⟨m, hm, rfl⟩ := List.mem_map.mp hd
      walk_at "e"
      exact ⟨⟨(s, m), rfl, rfl, hms m hm⟩, by omega⟩
    · intro ys c3 hp hc3
      obtain ⟨hyl, hy⟩ := paired_all (ψ := fun y => ∃ p : Str × Int, y = ldD p ∧ strOkN 30 p.1 ∧ p.2 ∈ ns) hp fun d y hd ⟨p, h1, h2, h3⟩ => by
        obtain ⟨s, hs, rfl⟩ := List.mem_map.mp hd
        cases h2
        exact ⟨p, h1, hss.2 _ hs, h3⟩
      obtain ⟨ls, rfl, hls⟩ := all_mapP hy
      rw [List.length_map, List.length_map] at hyl
      rw [List.length_map] at hc3
      have hl20 := hss.1
      exact hP ls _ ⟨by omega, fun p hp => ⟨(hls p hp).1, hz.2.2.1 _ (hls p hp).2⟩, fun p hp q hq => hz.chain _ (hls p hp).2 _ (hls q hq).2⟩ (by omega)
end
end K12
namespace K12
open PySem PySem.Spec PyProof.Rows L2 Q
local macro_rules | `(tactic| walk_at "p") => `(tactic| first | omega | (simp only [List.length_map, List.length_cons, List.length_nil, List.length_append, List.length_set]; first | done | omega) | (refine .inl ⟨?_, ?_⟩ <;> omega) | (refine .inr ⟨?_, ?_⟩ <;> omega) | (refine ⟨?_, ?_⟩ <;> omega) | exact .inr (b01 _) | exact .inl (b01 _) | exact le1000 (by first | decide | (simp only [List.length_map, List.length_cons, List.length_nil, List.length_append, List.length_set]; first | done | omega) | omega) | decide)
local macro_rules | `(tactic| walk_at "s") => `(tactic| with_reducible (first
  | refine EW.cint ?_ | refine EW.cstr ?_ | refine EW.cbl ?_ | refine EW.cnon ?_ | refine EW.cty ?_
  | refine AW.nil ?_ | refine AW.cons ?_
  | refine EW.ite ?_ | refine EW.andV ?_ | refine EW.orV ?_ | refine EW.notV ?_ | refine TW.test ?_ | refine TW.tB ?_ | refine TW.and ?_ | refine TW.or ?_ | refine TW.not ?_ | refine TW.yes ?_
  | refine EW.callV ?_ | refine EW.cb ?_ | refine EW.neg ?_ | refine EW.tup ?_ | refine EF.toW (EF.lst ?_) | refine EF.lst ?_
  | refine RW2.ii ?_ | refine RW2.ib ?_ | refine RW2.uAddi ?_ | refine RW2.isN ?_ | refine RW2.notN ?_ | refine RW2.isB ?_ | refine RW2.notB ?_
  | refine RCW.abs ?_ | refine RCW.max2 ?_ | refine RCW.min2 ?_ | refine RCW.inti ?_ | refine RCW.intb ?_))
local macro_rules | `(tactic| walk_at "v") => `(tactic| first
  | ((with_reducible apply EW.var); (· rfl)) | ((with_reducible refine EW.callB ?_ ?_); (· rfl))
  | ((with_reducible refine EW.bx0 ?_ fun _ => ?_); (· exact ⟨rfl, rfl⟩)) | ((with_reducible refine EW.bx1 ?_ fun _ _ _ => ?_); (· exact ⟨rfl, rfl⟩)) | ((with_reducible refine EW.bx2 ?_ ?_); (· exact ⟨rfl, rfl⟩))
  | ((with_reducible apply EW.ixO); (· exact ⟨rfl, rfl⟩)) | ((with_reducible apply EW.varOwn); (· rfl)) | (with_reducible refine EW.op ?_)
  | ((with_reducible refine RW2.ci ?_ ?_); (· walk_at "p")) | ((with_reducible refine RW2.uMuli ?_ ?_); (· walk_at "p")))
local macro_rules | `(tactic| walk_at "d") => `(tactic| first
  | refine RW2.uEqi ?_ | refine RW2.uEqs ?_ | refine RW2.uEqb ?_ | refine RW2.uNei ?_ | refine RW2.uNes ?_ | refine RW2.uNeb ?_
  | refine RW2.uIxT rfl ?_ | refine RW2.uIxL rfl ?_
  | refine RCW.len rfl ?_ | refine RCW.isi (b := false) (fun _ h => nomatch h) (fun _ h => nomatch h) rfl ?_ | refine RCW.isi (b := true) (fun _ h => nomatch h) (fun _ h => nomatch h) rfl ?_ | refine TW.tru ?_
  | refine ⟨_, rfl, ⟨by walk_at "p", by walk_at "p", by walk_at "p"⟩, fun _ _ _ _ _ => ?_⟩
  | refine ⟨(fun _ h => nomatch h), (fun _ h => nomatch h), false, false, false, rfl, rfl, rfl, ?_⟩ | refine ⟨(fun _ h => nomatch h), (fun _ h => nomatch h), true, false, true, rfl, rfl, rfl, ?_⟩ | refine ⟨(fun _ h => nomatch h), (fun _ h => nomatch h), false, true, true, rfl, rfl, rfl, ?_⟩
  | refine ⟨le1000 (by first | decide | (simp only [List.length_map, List.length_cons, List.length_nil, List.length_append, List.length_set]; first | done | omega)), ?_⟩ | refine ⟨_, rfl, ?_⟩)
local macro_rules | `(tactic| walk_at "e") => `(tactic| repeat (first | ((with_reducible refine EW.isi2 ?_ ?_); (· rfl)) | ((with_reducible apply EW.lenO); (· exact ⟨rfl, rfl⟩); (· rfl)) | walk_at "s" | walk_at "v" | walk_at "d"))
local macro_rules | `(tactic| walk_at "c") => `(tactic| first | refine br_t rfl ?_ | refine br_f rfl ?_ | refine br_t (decide_eq_true rfl) ?_)
local macro_rules | `(tactic| walk_at "w") => `(tactic| repeat (first | ((with_reducible refine EW.isi2 ?_ ?_); (· rfl)) | ((with_reducible apply EW.lenO); (· exact ⟨rfl, rfl⟩); (· rfl)) | walk_at "s" | walk_at "v" | (with_reducible first | refine SW.seq ?_ | refine SW.ite ?_ | refine SW.ret ?_ | refine SW.next ?_) | walk_at "d" | walk_at "c"))
section
variable {P : Program} {w : World} {K : Frag} {mg : Str → Option Value} {base : Heap}
def StrengthsOk (ss : List Int) : Prop := ss.length ≤ 10 ∧ ∀ s ∈ ss, 0 ≤ s ∧ s ≤ 1000000
theorem rep01 {xs : List D} {b : Bool} : (List.replicate (if b = true then 1 else 0 : Int).toNat xs).flatten = if b = true then xs else [] := by
  cases b <;> simp
theorem rep01_mem {xs : List D} {b : Bool} {i : Nat} {d : D} (h : (List.replicate (if b = true then 1 else 0 : Int).toNat xs).flatten[i]? = some d) : b = true ∧ d ∈ xs ∧ i < xs.length := by
  rw [rep01] at h
  cases b with
  | true =>
    obtain ⟨hl, _⟩ := List.getElem?_eq_some_iff.mp h
    exact ⟨rfl, List.mem_of_getElem? h, hl⟩
  | false => cases h
theorem rep01_len {xs : List D} {b : Bool} : (List.replicate (if b = true then 1 else 0 : Int).toNat xs).flatten.length ≤ xs.length := by
  rw [rep01]; cases b <;> simp
theorem int_of {ds : List D} {p : Int → Prop} {k : Nat} (h : ∀ d ∈ ds, ∃ n, d = D.int n ∧ p n) (hk : k < ds.length) : ∃ n, ds[k]? = some (.int n) ∧ p n := by
  obtain ⟨n, hn, hp⟩ := h _ (List.getElem_mem hk)
  exact ⟨n, by rw [List.getElem?_eq_getElem hk, hn], hp⟩
theorem set_all {ds : List D} {p : D → Prop} {k : Nat} {x : D} (h : ∀ d ∈ ds, p d) (hx : p x) : ∀ d ∈ ds.set k x, p d := fun d hd => by
  rcases mem_set hd with q | rfl
  · exact h d q
  · exact hx
def sp__law_strengths : PB := fun c ds P => ∃ (ns : List Int) (ls : List (Str × Int)) (n : Int), ds = [.lst (ns.map .int), .lst (ls.map ldD), .int n] ∧ (SizesOk ns ∧ LoadsOk ls ∧ (0 ≤ n ∧ n ≤ 10) ∧ c < 2 ^ 40 - 200) ∧ ∀ (ss : List Int) (c' : Nat), StrengthsOk ss → c' ≤ c + 80 → P (.lst (ss.map .int)) c'
theorem ok__law_strengths (T : Txt K mg) : FnOk P w K mg base CX0 2 T.f__law_strengths T.fd__law_strengths ["_law_box_here", "_law_sizes_here", "_law_loads_here", "_law_many"] (spB K sp__law_strengths) := by
  refine T.F__law_strengths.ok sc__law_strengths (fun vs H Q E h => lenB (fun c ds P h => by obtain ⟨_, _, _, rfl, _⟩ := h; rfl) h) (fun cdv A outer s H vs Q E hr h => ⟨_, (pss_cons (ps_par (i := 4) (j := 5) rfl sc__law_strengths.nd rfl rfl (by decide) rfl rfl (pa_cons (pe_call (ok__law_take T) (hr.mono (by decide)) (by rfl) T.g__law_take T.F__law_take.kp T.bd__law_take .nil pass0 (pa_cons (pv 0) (pa_cons pe_int pa_nil))) (pa_cons (pe_ix (k_ix (K' := K) rfl) (pv 1) (pe_un un_neg pe_int) (fun _ _ => rfl)) pa_nil)) (by rfl))
    (pss_cons (ps_setLc (i := 6) (own := [("_law_k", 7)]) rfl sc__law_strengths.nd rfl rfl (sw_true rfl rfl rfl (by decide +kernel)) (pi_range1 (by rfl) T.b_range (pa_cons (pv 3) pa_nil)) (blkOk_by (N := N__law_strengths) (sc := defScope s__law_strengths) (by decide +kernel)) (fun _ _ _ _ _ => (pg_name (i := 7) sc__law_strengths.nd rfl (Or.inl rfl))) (fun _ _ _ _ _ => pts_nil) (fun _ _ _ _ _ => pe_int))
    (pss_cons (ps_for PassesOwn.never rfl (k_plist (K' := K) rfl (pe_op u_mul (pv 2) (pe_callTy u_int (by rfl) T.b_int boot_int (pa_cons (pe_cmpR op_gt (pv 3) pe_int (nomark _)) pa_nil)))) (k_gtup (K' := K) (n := 2) rfl rfl (pgs_cons (pg_name (i := 8) sc__law_strengths.nd rfl (Or.inl rfl)) (pgs_cons (pg_name (i := 9) sc__law_strengths.nd rfl (Or.inl rfl)) pgs_nil)) rfl rfl)
    (pss_one (ps_augS (pv 6) (pe_call (ok__law_take T) (hr.mono (by decide)) (by rfl) T.g__law_take T.F__law_take.kp T.bd__law_take .nil pass0 (pa_cons (pv 0) (pa_cons (pv 3) pa_nil))) (k_get (K' := K) rfl) (pv 9) ip_add set_list)))
    (pss_cons (ps_if ((pw_or (pt_cmpR (k_eq (K' := K) rfl (hu64 hr)) (pv 4) pe_int (nomark _)) (pw_or1 (pt_cmpR op_gt (pe_callB (k_max (K' := K) rfl rfl) (by rfl) T.b_max boot_max (pa_cons (pe_op u_add (pv 6) (pe_lst (pa_cons pe_int pa_nil))) pa_nil)) (pe_op op_pow pe_int pe_int) (nomark _))))).pt (pss_cons (ps_set (i := 10) sc__law_strengths.nd rfl (Or.inr rfl) (pe_lst (pa_cons pe_int (pa_cons (pv 5) (pa_cons (pe_op u_mul pe_int (pv 5)) (pa_cons (pe_op op_sub (pv 5) pe_int) (pa_cons (pe_op u_add (pe_op u_mul pe_int (pv 5)) pe_int) (pa_cons (pe_ix (k_ix (K' := K) rfl) (pv 1) pe_int (fun _ _ => rfl)) (pa_cons (pe_call (ok__law_take T) (hr.mono (by decide)) (by rfl) T.g__law_take T.F__law_take.kp T.bd__law_take .nil pass0 (pa_cons (pv 0) (pa_cons (pe_op u_add (pe_op op_pow pe_int pe_int) pe_int) pa_nil))) pa_nil)))))))))
    (pss_one (ps_ret (pe_lc (own := [("_law_k", 7)]) rfl sc__law_strengths.nd (pi_range1 (by rfl) T.b_range (pa_cons (pv 3) pa_nil)) (blkOk_by (N := N__law_strengths) (sc := defScope s__law_strengths) (by decide +kernel)) (fun _ _ _ _ _ => (pg_name (i := 7) sc__law_strengths.nd rfl (Or.inl rfl))) (fun _ _ _ _ _ => pts_nil) (fun _ _ _ _ _ => (pe_callB (u_min2 rfl) (by rfl) T.b_min boot_min (pa_cons (pe_op op_pow pe_int pe_int) (pa_cons (pe_ix (k_ix (K' := K) rfl) (pv 10) (pe_call (ok__law_take T) (hr.mono (by decide)) (by rfl) T.g__law_take T.F__law_take.kp T.bd__law_take .nil pass0 (pa_cons (pv 0) (pa_cons pe_int pa_nil))) (fun _ _ => rfl)) pa_nil)))))))) pss_nil)
    (pss_cons (ps_for PassesOwn.never rfl (pi_range1 (by rfl) T.b_range (pa_cons (pe_op u_mul (pv 3) (pe_callTy u_int (by rfl) T.b_int boot_int (pa_cons (pe_cmpR op_gt (pv 4) pe_int (nomark _)) pa_nil))) pa_nil)) (pg_name (i := 7) sc__law_strengths.nd rfl (Or.inl rfl))
    (pss_cons (ps_set (i := 11) sc__law_strengths.nd rfl (Or.inl rfl) (pe_ix (k_ix (K' := K) rfl) (pe_lst (pa_cons pe_int (pa_cons pe_int (pa_cons pe_int (pa_cons (pe_un un_neg pe_int) (pa_cons (pe_op op_sub (pe_ix (k_ix (K' := K) rfl) (pv 1) pe_int (fun _ _ => rfl)) pe_int) (pa_cons (pe_op op_sub pe_int (pe_ix (k_ix (K' := K) rfl) (pv 1) pe_int (fun _ _ => rfl))) pa_nil))))))) (pe_call (ok__law_take T) (hr.mono (by decide)) (by rfl) T.g__law_take T.F__law_take.kp T.bd__law_take .nil pass0 (pa_cons (pv 0) (pa_cons pe_int pa_nil))) (fun _ _ => rfl)))
    (pss_one (ps_asg (pe_callB (u_max2 rfl) (by rfl) T.b_max boot_max (pa_cons pe_int (pa_cons (pe_callB (u_min2 rfl) (by rfl) T.b_min boot_min (pa_cons (pe_op op_pow pe_int pe_int) (pa_cons (pe_op u_add (pe_ix (k_ix (K' := K) rfl) (pv 6) (pv 7) (fun _ _ => rfl)) (pv 11)) pa_nil))) pa_nil))) (pg_sub (pv 6) (pv 7) set_list)))))
    (pss_one (ps_ret (pv 6)))))))), runB (n := 4) (fun c ds P h => by obtain ⟨_, _, _, rfl, _⟩ := h; rfl) (by decide) ?_ h⟩)
  rintro b c ds P ⟨ns, ls, n, rfl, ⟨hz, hls, ⟨hn0, hn1⟩, hc⟩, hP⟩
  have hz0 := hz.1
  have hz5 := hz.2.1
  have hl20 := hls.1
  obtain ⟨great, hgl⟩ : ∃ g, ns.getLast? = some g := ⟨ns.getLast (List.ne_nil_of_length_pos hz0), List.getLast?_eq_getLast _⟩
  have hg := hz.2.2.1 great (List.mem_of_getLast? hgl)
  obtain ⟨least, hle⟩ : ∃ g, ns[0]? = some g := ⟨ns[0], List.getElem?_eq_getElem _⟩
  have hle2 := hz.2.2.1 least (List.mem_of_getElem? hle)
  have at1 : atI (ns.map D.int) (-1) = some (.int great) := atI_neg1 (by rw [List.getLast?_map, hgl]; rfl)
  have at0 : atI (ns.map D.int) 0 = some (.int least) := by rw [atI_ge (by omega) (by walk_at "p")]; show (ns.map D.int)[0]? = _; rw [List.getElem?_map, hle]; rfl
  refine SW.seq (SW.parVV ?_)
  walk_at "e"
  rename_i way c1 hw0 hw1 hc1
  refine RW2.uIxL at1 ?_
  refine SW.seq (SW.asgF (EF.lcDraw (fun _ y => y = .int 0) 0 rfl (IW.rng1 ?_)))
  walk_at "e"
  refine ⟨by omega, by omega, by rw [rngD_length]; exact le1000 (by omega), ?_, ?_⟩
  · intro i d c2 hi hc2
    obtain ⟨hi, rfl⟩ := rngD_get hi
    refine GW.name ⟨rfl, ?_⟩
    walk_at "e"
    exact ⟨rfl, by omega⟩
  intro zs c2 hp hc2 p
  obtain ⟨hzl, hzs⟩ := paired_all (ψ := fun y => ∃ n, y = D.int n ∧ 0 ≤ n) hp fun _ _ _ h => ⟨0, h, by omega⟩
  rw [rngD_length] at hzl hc2
  refine SW.seq (SW.for_ (is := [8, 9]) (IW.list ?_))
  walk_at "e"
  refine RW2.uMull (by cases (decide (n > 0)) <;> decide) (by cases (decide (n > 0)) <;> decide) (by rw [List.length_map]; refine le1000 ?_; cases (decide (n > 0)) <;> simp <;> omega) ?_
  refine ⟨_, rfl, fun i ρ c => ∃ (p : Addr) (ds : List D) (s1 s2 : Slot), ρ = [.box, .val (.lst (ns.map .int)), .val (.lst (ls.map ldD)), .val (.int n), .val (.int way), .val (.int great), .own p (.lst ds), .no, s1, s2, .no, .no] ∧ ds.length = n.toNat ∧ (∀ d ∈ ds, ∃ n, d = D.int n ∧ 0 ≤ n) ∧ c ≤ c1 + i, ⟨p, zs, .no, .no, rfl, hzl, hzs, by omega⟩, ?_, ?_⟩
  · rintro i d ρ1 c3 hi ⟨p, ds, s1, s2, rfl, hdl, hds, hc3⟩
    obtain ⟨hb, hd, hil⟩ := rep01_mem hi
    have hn : 0 < n := of_decide_eq_true hb
    rw [List.length_map] at hil
    obtain ⟨q, hq, rfl⟩ := List.mem_map.mp hd
    have hq2 := hls.2.1 q hq
    refine GW.nm2 (SW.augS ⟨_, _, rfl, ?_⟩)
    walk_at "e"
    rename_i r c4 hr0 hr1 hc4
    have hrl : r.toNat < ds.length := by omega
    obtain ⟨a, ha, ha0⟩ := int_of hds hrl
    refine ⟨_, _, a, rfl, ixN_ge hr0 (by omega), ha, ?_⟩
    walk_at "e"
    exact ⟨p, _, _, _, rfl, by rw [List.length_set]; exact hdl, set_all hds ⟨_, rfl, by omega⟩, by omega⟩
  rintro ρ1 c3 ⟨p, ds, s1, s2, rfl, hdl, hds, hc3⟩
  have hc3 : c3 ≤ c1 + 20 := by have := rep01_len (xs := ls.map ldD) (b := decide (0 < n)); rw [List.length_map] at this; omega
  clear hzl hzs hp
  obtain ⟨zs, rfl, hzs⟩ := all_mapP hds
  rw [List.length_map] at hdl
  refine SW.seq (SW.ite (TW.mono (QT := fun b c => c = c3 ∧ (b = false → ∀ z ∈ zs, z ≤ 1000000)) ?_ ?_))
  · walk_at "e"
    refine ⟨fun h => ?_, fun h => ?_⟩
    · exact ⟨rfl, fun h => nomatch h⟩
    · walk_at "e"
      refine RW2.uAddl (le1000 (by simp; omega)) ?_
      walk_at "e"
      rw [show zs.map D.int ++ [D.int 0] = (zs ++ [0]).map D.int by simp]
      refine RCW.max (by simp) fun m hm hle => ?_
      walk_at "e"
      refine ⟨rfl, fun h z hz => ?_⟩
      have := hle z (by simp [hz])
      have h := of_decide_eq_false h
      have e6 : (10 : Int) ^ Int.toNat 6 = 1000000 := by decide
      omega
  rintro bb c4 ⟨rfl, hbb⟩
  refine ⟨fun hb => ?_, fun hb => ?_⟩
  · refine SW.seq (SW.asg ?_)
    walk_at "e"
    refine RW2.uIxL at0 ?_
    walk_at "e"
    rename_i r c5 hr0 hr1 hc5
    have e6 : (10 : Int) ^ Int.toNat 6 = 1000000 := by decide
    refine SW.ret (EF.toW (EF.lcDraw (fun _ y => ∃ m : Int, y = .int m ∧ 0 ≤ m ∧ m ≤ 1000000) 1 rfl (IW.rng1 ?_)))
    walk_at "e"
    refine ⟨by omega, by omega, by rw [rngD_length]; exact le1000 (by omega), ?_, ?_⟩
    · intro i d c6 hi hc6
      obtain ⟨hi, rfl⟩ := rngD_get hi
      refine GW.name ⟨rfl, ?_⟩
      walk_at "e"
      refine RW2.ixAny (by omega) (by simp; omega) fun d hd => ?_
      simp only [List.mem_cons, List.not_mem_nil, or_false] at hd
      have hd : ∃ m : Int, d = .int m ∧ 0 ≤ m := by rcases hd with rfl | rfl | rfl | rfl | rfl | rfl | rfl <;> exact ⟨_, rfl, by omega⟩
      obtain ⟨m, rfl, hm⟩ := hd
      walk_at "e"
      refine ⟨?_, by omega⟩
      rw [e6]
      refine ⟨_, rfl, ?_, ?_⟩ <;> split <;> omega
    · intro ys c6 hp hc6
      obtain ⟨hyl, hy⟩ := paired_all (ψ := fun y => ∃ m : Int, y = .int m ∧ 0 ≤ m ∧ m ≤ 1000000) hp fun _ _ _ h => h
      obtain ⟨ms, rfl, hms⟩ := all_mapP hy
      rw [List.length_map, rngD_length] at hyl
      rw [rngD_length] at hc6
      exact hP ms _ ⟨by omega, hms⟩ (by omega)
  · have hz6 := hbb hb
    refine SW.next (SW.seq (SW.for_ (is := [7]) (IW.rng1 ?_)))
    walk_at "e"
    have hcnt : ∃ k : Int, n * (if decide (1 < way) = true then 1 else 0) = k ∧ 0 ≤ k ∧ k ≤ n := by
      cases decide (1 < way) <;> simp <;> omega
    obtain ⟨k, hk, hk0, hk1⟩ := hcnt
    rw [hk]
    refine ⟨by omega, by omega, fun i ρ c => ∃ (p : Addr) (zs : List Int) (s1 s2 s3 s4 s5 : Slot), ρ = [.box, .val (.lst (ns.map .int)), .val (.lst (ls.map ldD)), .val (.int n), .val (.int way), .val (.int great), .own p (.lst (zs.map .int)), s1, s2, s3, s4, s5] ∧ zs.length = n.toNat ∧ (∀ z ∈ zs, 0 ≤ z ∧ z ≤ 1000000) ∧ c ≤ c4 + i, ⟨p, zs, _, _, _, _, _, rfl, hdl, fun z hz => ⟨hzs z hz, hz6 z hz⟩, by omega⟩, ?_, ?_⟩
    · rintro i d ρ1 c5 hi ⟨p, zs, s1, s2, s3, s4, s5, rfl, hdl, hzs, hc5⟩
      obtain ⟨hi, rfl⟩ := rngD_get hi
      refine GW.name (SW.seq (SW.asg ?_))
      walk_at "e"
      refine RW2.uIxL at0 ?_
      walk_at "e"
      refine RW2.uIxL at0 ?_
      walk_at "e"
      refine RW2.ixAny (by omega) (by simp; omega) fun d hd => ?_
      simp only [List.mem_cons, List.not_mem_nil, or_false] at hd
      have hd : ∃ m : Int, d = .int m := by rcases hd with rfl | rfl | rfl | rfl | rfl | rfl <;> exact ⟨_, rfl⟩
      obtain ⟨m, rfl⟩ := hd
      have hil : i < zs.length := by omega
      refine SW.store ⟨_, _, rfl, ?_⟩
      walk_at "e"
      have e6 : (10 : Int) ^ Int.toNat 6 = 1000000 := by decide
      refine ⟨_, .int zs[i], rfl, by rw [atI_ge (by omega) (by walk_at "p"), show ((0 : Int) + (i : Int)).toNat = i by omega, List.getElem?_map, List.getElem?_eq_getElem hil]; rfl, ?_⟩
      walk_at "e"
      refine ⟨_, i, rfl, by rw [ixN_ge (by omega) (by walk_at "p"), show ((0 : Int) + (i : Int)).toNat = i by omega], p, zs.set i _, _, _, _, _, _, by rw [← List.map_set]; rfl, by rw [List.length_set]; exact hdl, fun z hz => ?_, by omega⟩
      rcases mem_set hz with q | rfl
      · exact hzs z q
      · rw [e6]; refine ⟨?_, ?_⟩ <;> split <;> split <;> omega
    · rintro ρ1 c5 ⟨p, zs, s1, s2, s3, s4, s5, rfl, hdl, hzs, hc5⟩
      rw [rngD_length] at hc5
      exact SW.freeze 6 rfl (SW.ret (EW.var rfl (hP zs _ ⟨by omega, hzs⟩ (by omega))))
end
end K12
namespace K12
open PySem PySem.Spec PyProof.Rows L2 Q
local macro_rules | `(tactic| walk_at "p") => `(tactic| first | omega | (simp only [List.length_map, List.length_cons, List.length_nil, List.length_append, List.length_set]; first | done | omega) | (refine .inl ⟨?_, ?_⟩ <;> omega) | (refine .inr ⟨?_, ?_⟩ <;> omega) | (refine ⟨?_, ?_⟩ <;> omega) | exact .inr (b01 _) | exact .inl (b01 _) | exact le1000 (by first | decide | (simp only [List.length_map, List.length_cons, List.length_nil, List.length_append, List.length_set]; first | done | omega) | omega) | decide)
local macro_rules | `(tactic| walk_at "s") => `(tactic| with_reducible (first
  | refine EW.cint ?_ | refine EW.cstr ?_ | refine EW.cbl ?_ | refine EW.cnon ?_ | refine EW.cty ?_
  | refine AW.nil ?_ | refine AW.cons ?_
  | refine EW.ite ?_ | refine EW.andV ?_ | refine EW.orV ?_ | refine EW.notV ?_ | refine TW.test ?_ | refine TW.tB ?_ | refine TW.and ?_ | refine TW.or ?_ | refine TW.not ?_ | refine TW.yes ?_
  | refine EW.callV ?_ | refine EW.cb ?_ | refine EW.neg ?_ | refine EW.tup ?_ | refine EF.toW (EF.lst ?_) | refine EF.lst ?_
  | refine RW2.ii ?_ | refine RW2.ib ?_ | refine RW2.uAddi ?_ | refine RW2.isN ?_ | refine RW2.notN ?_ | refine RW2.isB ?_ | refine RW2.notB ?_
  | refine RCW.abs ?_ | refine RCW.max2 ?_ | refine RCW.min2 ?_ | refine RCW.inti ?_ | refine RCW.intb ?_))
local macro_rules | `(tactic| walk_at "v") => `(tactic| first
  | ((with_reducible apply EW.var); (· rfl)) | ((with_reducible refine EW.callB ?_ ?_); (· rfl))
  | ((with_reducible refine EW.bx0 ?_ fun _ => ?_); (· exact ⟨rfl, rfl⟩)) | ((with_reducible refine EW.bx1 ?_ fun _ _ _ => ?_); (· exact ⟨rfl, rfl⟩)) | ((with_reducible refine EW.bx2 ?_ ?_); (· exact ⟨rfl, rfl⟩))
  | ((with_reducible apply EW.ixO); (· exact ⟨rfl, rfl⟩)) | ((with_reducible apply EW.varOwn); (· rfl)) | (with_reducible refine EW.op ?_)
  | ((with_reducible refine RW2.ci ?_ ?_); (· walk_at "p")) | ((with_reducible refine RW2.uMuli ?_ ?_); (· walk_at "p")))
local macro_rules | `(tactic| walk_at "d") => `(tactic| first
  | refine RW2.uEqi ?_ | refine RW2.uEqs ?_ | refine RW2.uEqb ?_ | refine RW2.uNei ?_ | refine RW2.uNes ?_ | refine RW2.uNeb ?_
  | refine RW2.uIxT rfl ?_ | refine RW2.uIxL rfl ?_
  | refine RCW.len rfl ?_ | refine RCW.isi (b := false) (fun _ h => nomatch h) (fun _ h => nomatch h) rfl ?_ | refine RCW.isi (b := true) (fun _ h => nomatch h) (fun _ h => nomatch h) rfl ?_ | refine TW.tru ?_
  | refine ⟨_, rfl, ⟨by walk_at "p", by walk_at "p", by walk_at "p"⟩, fun _ _ _ _ _ => ?_⟩
  | refine ⟨(fun _ h => nomatch h), (fun _ h => nomatch h), false, false, false, rfl, rfl, rfl, ?_⟩ | refine ⟨(fun _ h => nomatch h), (fun _ h => nomatch h), true, false, true, rfl, rfl, rfl, ?_⟩ | refine ⟨(fun _ h => nomatch h), (fun _ h => nomatch h), false, true, true, rfl, rfl, rfl, ?_⟩
  | refine ⟨le1000 (by first | decide | (simp only [List.length_map, List.length_cons, List.length_nil, List.length_append, List.length_set]; first | done | omega)), ?_⟩ | refine ⟨_, rfl, ?_⟩)
local macro_rules | `(tactic| walk_at "e") => `(tactic| repeat (first | ((with_reducible refine EW.isi2 ?_ ?_); (· rfl)) | ((with_reducible apply EW.lenO); (· exact ⟨rfl, rfl⟩); (· rfl)) | walk_at "s" | walk_at "v" | walk_at "d"))
local macro_rules | `(tactic| walk_at "c") => `(tactic| first | refine br_t rfl ?_ | refine br_f rfl ?_ | refine br_t (decide_eq_true rfl) ?_)
local macro_rules | `(tactic| walk_at "w") => `(tactic| repeat (first | ((with_reducible refine EW.isi2 ?_ ?_); (· rfl)) | ((with_reducible apply EW.lenO); (· exact ⟨rfl, rfl⟩); (· rfl)) | walk_at "s" | walk_at "v" | (with_reducible first | refine SW.seq ?_ | refine SW.ite ?_ | refine SW.ret ?_ | refine SW.next ?_) | walk_at "d" | walk_at "c"))
section
variable {P : Program} {w : World} {K : Frag} {mg : Str → Option Value} {base : Heap}
theorem sum_set : ∀ (ls : List Nat) (k x y : Nat), ls[k]? = some y → (ls.set k x).sum + y = ls.sum + x
  | [], _, _, _, h => nomatch h
  | a :: r, 0, x, y, h => by cases h; simp only [List.set_cons_zero, List.sum_cons]; omega
  | a :: r, k + 1, x, y, h => by
    have := sum_set r k x y h
    simp only [List.set_cons_succ, List.sum_cons]; omega
def rowD (r : List Str) : D := .lst (r.map .str)
def RowsOk (rows : List (List Str)) : Prop := rows.length ≤ 10 ∧ (rows.map (·.length)).sum ≤ 20 ∧ ∀ r ∈ rows, ∀ s ∈ r, strOkN 30 s
theorem len_le_sum {rows : List (List Str)} {r : List Str} (h : r ∈ rows) : r.length ≤ (rows.map (·.length)).sum := by
  induction rows with
  | nil => cases h
  | cons a t ih =>
    rw [List.map_cons, List.sum_cons]
    rcases List.mem_cons.mp h with rfl | q
    · omega
    · have := ih q; omega
theorem rows_app {rows : List (List Str)} {k : Nat} {r : List Str} {s : Str} {m : Nat} (hk : rows[k]? = some r) (hm : (rows.map (·.length)).sum ≤ m) (ho : ∀ r ∈ rows, ∀ s ∈ r, strOkN 30 s) (hs : strOkN 30 s) :
    ((rows.set k (r ++ [s])).map (·.length)).sum ≤ m + 1 ∧ ∀ r' ∈ rows.set k (r ++ [s]), ∀ s ∈ r', strOkN 30 s := by
  constructor
  · rw [List.map_set]
    have := sum_set (rows.map (·.length)) k (r ++ [s]).length r.length (by rw [List.getElem?_map, hk]; rfl)
    have e : (r ++ [s]).length = r.length + 1 := by simp
    omega
  · intro r' hr' s' hs'
    rcases List.mem_or_eq_of_mem_set hr' with q | rfl
    · exact ho r' q s' hs'
    · rcases List.mem_append.mp hs' with q | q
      · exact ho r (List.mem_of_getElem? hk) s' q
      · obtain rfl := List.mem_singleton.mp q; exact hs
def sp__law_drawn_rows : PB := fun c ds P => ∃ (ls : List (Str × Int)) (n : Int), ds = [.lst (ls.map ldD), .int n] ∧ (LoadsOk ls ∧ (0 ≤ n ∧ n ≤ 10) ∧ c < 2 ^ 40 - 200) ∧ ∀ (rows : List (List Str)) (c' : Nat), RowsOk rows → c' ≤ c + 20 → P (.lst (rows.map rowD)) c'
theorem ok__law_drawn_rows (T : Txt K mg) : FnOk P w K mg base CX0 2 T.f__law_drawn_rows T.fd__law_drawn_rows ["_law_box_here", "_law_loads_here", "_law_many"] (spB K sp__law_drawn_rows) := by
  refine T.F__law_drawn_rows.ok sc__law_drawn_rows (fun vs H Q E h => lenB (fun c ds P h => by obtain ⟨_, _, rfl, _⟩ := h; rfl) h) (fun cdv A outer s H vs Q E hr h => ⟨_, (pss_cons (ps_setLc (i := 3) (own := [("_law_k", 4)]) rfl sc__law_drawn_rows.nd rfl rfl (sw_true rfl rfl rfl (by decide +kernel)) (pi_range1 (by rfl) T.b_range (pa_cons (pv 2) pa_nil)) (blkOk_by (N := N__law_drawn_rows) (sc := defScope s__law_drawn_rows) (by decide +kernel)) (fun _ _ _ _ _ => (pg_name (i := 4) sc__law_drawn_rows.nd rfl (Or.inl rfl))) (fun _ _ _ _ _ => pts_nil) (fun _ _ _ _ _ => (pe_lst pa_nil)))
    (pss_cons (ps_for PassesOwn.never rfl (k_plist (K' := K) rfl (pe_op u_mul (pv 1) (pe_callTy u_int (by rfl) T.b_int boot_int (pa_cons (pe_cmpR op_gt (pv 2) pe_int (nomark _)) pa_nil)))) (k_gtup (K' := K) (n := 2) rfl rfl (pgs_cons (pg_name (i := 5) sc__law_drawn_rows.nd rfl (Or.inl rfl)) (pgs_cons (pg_name (i := 6) sc__law_drawn_rows.nd rfl (Or.inl rfl)) pgs_nil)) rfl rfl)
    (pss_one (ps_expr (pe_bm PySem.F.plainAttrs_list PySem.F.slot_list_append PySem.F.type_list_append mt_append (pe_ix (k_ix (K' := K) rfl) (pv 3) (pe_call (ok__law_take T) (hr.mono (by decide)) (by rfl) T.g__law_take T.F__law_take.kp T.bd__law_take .nil pass0 (pa_cons (pv 0) (pa_cons (pv 2) pa_nil))) (fun _ _ => rfl)) (pa_cons (pv 5) pa_nil)))))
    (pss_one (ps_ret (pv 3))))), runB (n := 3) (fun c ds P h => by obtain ⟨_, _, rfl, _⟩ := h; rfl) (by decide) ?_ h⟩)
  rintro b c ds P ⟨ls, n, rfl, ⟨hls, ⟨hn0, hn1⟩, hc⟩, hP⟩
  have hl20 := hls.1
  refine SW.seq (SW.asgR (ER.empties rfl (IW.rng1 ?_)))
  walk_at "e"
  refine ⟨by omega, by omega, by rw [rngD_length]; exact le1000 (by omega), fun d hd => ?_, ?_⟩
  · obtain ⟨i, hi⟩ := List.getElem?_of_mem hd
    obtain ⟨hi, rfl⟩ := rngD_get hi
    exact GW.name rfl
  intro p rs hrs
  rw [rngD_length] at hrs
  refine SW.seq (SW.for_ (is := [5, 6]) (IW.list ?_))
  walk_at "e"
  refine RW2.uMull (by cases (decide (n > 0)) <;> decide) (by cases (decide (n > 0)) <;> decide) (by rw [List.length_map]; refine le1000 ?_; cases (decide (n > 0)) <;> simp <;> omega) ?_
  refine ⟨_, rfl, fun i ρ c' => ∃ (p : Addr) (rs : List (Addr × List D)) (rows : List (List Str)) (s1 s2 : Slot), ρ = [.box, .val (.lst (ls.map ldD)), .val (.int n), .own p (.rows rs), .no, s1, s2] ∧ rs.map (·.2) = rows.map (·.map .str) ∧ rows.length = n.toNat ∧ (rows.map (·.length)).sum ≤ i ∧ (∀ r ∈ rows, ∀ s ∈ r, strOkN 30 s) ∧ c' ≤ c + i, ⟨p, rs, List.replicate n.toNat [], _, _, rfl, by rw [hrs]; simp, by simp, by simp, ?_, by omega⟩, ?_, ?_⟩
  · intro r hr s hs
    obtain rfl := List.eq_of_mem_replicate hr
    cases hs
  · rintro i d ρ1 c3 hi ⟨p, rs, rows, s1, s2, rfl, hrs, hrl, hsum, hok, hc3⟩
    obtain ⟨hb, hd, hil⟩ := rep01_mem hi
    have hn : 0 < n := of_decide_eq_true hb
    rw [List.length_map] at hil
    obtain ⟨q, hq, rfl⟩ := List.mem_map.mp hd
    have hq2 := hls.2.1 q hq
    have hlen : rs.length = n.toNat := by have := congrArg List.length hrs; simpa [hrl] using this
    refine GW.nm2 (SW.rowApp ⟨_, _, rfl, ?_⟩)
    walk_at "e"
    rename_i r c4 hr0 hr1 hc4
    have hrl' : r.toNat < rows.length := by omega
    have hk : rows[r.toNat]? = some rows[r.toNat] := List.getElem?_eq_getElem hrl'
    have h2 := len_le_sum (List.getElem_mem hrl')
    refine ⟨_, _, rows[r.toNat].map .str, rfl, ixN_ge hr0 (by omega), by rw [hrs, List.getElem?_map, hk]; rfl, small1000 (by rw [List.length_map]; omega), ?_⟩
    walk_at "e"
    obtain ⟨h3, h4⟩ := rows_app hk hsum hok hq2.1
    exact ⟨p, _, rows.set r.toNat (rows[r.toNat] ++ [q.1]), _, _, rfl, by rw [setR_snd, hrs, List.map_set, List.map_append]; rfl, by rw [List.length_set]; exact hrl, h3, h4, by omega⟩
  · rintro ρ1 c3 ⟨p, rs, rows, s1, s2, rfl, hrs, hrl, hsum, hok, hc3⟩
    have hc3 : c3 ≤ c + 20 := by have := rep01_len (xs := ls.map ldD) (b := decide (0 < n)); rw [List.length_map] at this; omega
    have hs20 : (rows.map (·.length)).sum ≤ 20 := by have := rep01_len (xs := ls.map ldD) (b := decide (0 < n)); rw [List.length_map] at this; omega
    refine SW.freezeO 3 ⟨_, _, rfl, SW.ret (EW.var rfl ?_)⟩
    show P (.lst (rs.map fun r => .lst r.2)) c3
    rw [show (rs.map fun r => D.lst r.2) = rows.map rowD by
      rw [show (rs.map fun r => D.lst r.2) = (rs.map (·.2)).map D.lst by simp, hrs, List.map_map]; rfl]
    exact hP rows _ ⟨by omega, hs20, hok⟩ hc3
/-! ### data of some depth -/
def Dn : Nat → D → Prop
  | 0, _ => False
  | n + 1, d => d = .non ∨ (∃ b, d = .bl b) ∨ (∃ i, d = .int i) ∨ (∃ s, d = .str s) ∨ ∃ l, (d = .lst l ∨ d = .tup l) ∧ l.length ≤ 1000 ∧ ∀ x ∈ l, Dn n x
theorem zip_self (l : List D) : zipD l l = l.map fun d => .tup [d, d] := by
  induction l with
  | nil => rfl
  | cons a r ih => simp only [zipD, List.zip_cons_cons, List.zipWith_cons_cons, List.map_cons] at ih ⊢; rw [← ih]
def sp__law_same (n : Nat) : PV := fun ds P => ∃ d : D, ds = [d, d] ∧ Dn n d ∧ P (.bl true)
theorem ok__law_same (T : Txt K mg) : ∀ n : Nat, FnOk P w K mg base CX0 (n + 1) T.f__law_same T.fd__law_same ["_law_found", "_law_due"] (spV K (sp__law_same n)) := by
  intro n
  induction n
  case zero => exact ⟨fun vs H Q E h => (no_V (fun ds P h => by obtain ⟨_, rfl, h, _⟩ := h; exact h.elim) h).elim, fun A outer s H args us vs Q E hr he hb hv h => (no_V (fun ds P h => by obtain ⟨_, rfl, h, _⟩ := h; exact h.elim) h).elim⟩
  rename_i n IH
  refine T.F__law_same.ok sc__law_same (fun vs H Q E h => lenV (fun ds P h => by obtain ⟨_, rfl, _⟩ := h; rfl) h) (fun cdv A outer s H vs Q E hr h => ⟨_, (pss_cons (ps_if (pt_tru (pe_callB (k_isiT (K' := K) rfl) (by rfl) T.b_isinstance boot_isinstance (pa_cons (pv 1) (pa_cons (pe_tup (pa_cons (pe_bltn (v := .ty "list") (by rfl) T.b_list boot_list rfl) (pa_cons (pe_bltn (v := .ty "tuple") (by rfl) T.b_tuple boot_tuple rfl) pa_nil))) pa_nil))) (fun _ => rfl)) (pss_cons (ps_if ((pw_or (pt_cmpR (k_ne (K' := K) rfl (hu64 hr)) (pe_callB (k_isi (K' := K) rfl) (by rfl) T.b_isinstance boot_isinstance (pa_cons (pv 0) (pa_cons (pe_bltn (v := .ty "list") (by rfl) T.b_list boot_list rfl) pa_nil))) (pe_callB (k_isi (K' := K) rfl) (by rfl) T.b_isinstance boot_isinstance (pa_cons (pv 1) (pa_cons (pe_bltn (v := .ty "list") (by rfl) T.b_list boot_list rfl) pa_nil))) (nomark _)) (pw_or1 (pt_cmpR (k_ne (K' := K) rfl (hu64 hr)) (pe_callB (k_isi (K' := K) rfl) (by rfl) T.b_isinstance boot_isinstance (pa_cons (pv 0) (pa_cons (pe_bltn (v := .ty "tuple") (by rfl) T.b_tuple boot_tuple rfl) pa_nil))) (pe_callB (k_isi (K' := K) rfl) (by rfl) T.b_isinstance boot_isinstance (pa_cons (pv 1) (pa_cons (pe_bltn (v := .ty "tuple") (by rfl) T.b_tuple boot_tuple rfl) pa_nil))) (nomark _))))).pt (pss_one (ps_ret pe_bl)) pss_nil)
    (pss_one (ps_ret (pe_and (pe_cmpR (k_eq (K' := K) rfl (hu64 hr)) (pe_callB (k_len (K' := K) rfl) (by rfl) T.b_len boot_len (pa_cons (pv 0) pa_nil)) (pe_callB (k_len (K' := K) rfl) (by rfl) T.b_len boot_len (pa_cons (pv 1) pa_nil)) (nomark _)) (pe_one (pe_callB (k_all (K' := K) rfl rfl) (by rfl) T.b_all boot_all (pa_cons (pe_lc (own := [("_law_one", 2), ("_law_other", 3)]) rfl sc__law_same.nd (k_pzip (K' := K) rfl (by rfl) T.b_zip (pa_cons (pv 0) (pa_cons (pv 1) pa_nil))) (blkOk_by (N := N__law_same) (sc := defScope s__law_same) (by decide +kernel)) (fun _ _ _ _ _ => (k_gtup (K' := K) (n := 2) rfl rfl (pgs_cons (pg_name (i := 2) sc__law_same.nd rfl (Or.inl rfl)) (pgs_cons (pg_name (i := 3) sc__law_same.nd rfl (Or.inl rfl)) pgs_nil)) rfl rfl)) (fun _ _ _ _ _ => pts_nil) (fun _ _ _ _ _ => (pe_call IH (hr.mono (by omega)) (by rfl) T.g__law_same T.F__law_same.kp T.bd__law_same .nil pass0 (pa_cons (pv 2) (pa_cons (pv 3) pa_nil))))) pa_nil))))))) pss_nil)
    (pss_cons (ps_if ((pw_or (pt_cmpR op_isN1 (pv 1) pe_non (nomark _)) (pw_or1 (pt_cmpR op_isN1 (pv 0) pe_non (nomark _))))).pt (pss_one (ps_ret (pe_and (pe_cmpR op_isN1 (pv 1) pe_non (nomark _)) (pe_one (pe_cmpR op_isN1 (pv 0) pe_non (nomark _)))))) pss_nil)
    (pss_cons (ps_if ((pw_or (pt_tru (pe_callB (k_isi (K' := K) rfl) (by rfl) T.b_isinstance boot_isinstance (pa_cons (pv 1) (pa_cons (pe_bltn (v := .ty "bool") (by rfl) T.b_bool boot_bool rfl) pa_nil))) (fun _ => rfl)) (pw_or1 (pt_tru (pe_callB (k_isi (K' := K) rfl) (by rfl) T.b_isinstance boot_isinstance (pa_cons (pv 1) (pa_cons (pe_bltn (v := .ty "str") (by rfl) T.b_str boot_str rfl) pa_nil))) (fun _ => rfl))))).pt (pss_one (ps_ret (pe_and (pe_cmpR (k_eq (K' := K) rfl (hu64 hr)) (pe_callB (k_isi (K' := K) rfl) (by rfl) T.b_isinstance boot_isinstance (pa_cons (pv 0) (pa_cons (pe_bltn (v := .ty "bool") (by rfl) T.b_bool boot_bool rfl) pa_nil))) (pe_callB (k_isi (K' := K) rfl) (by rfl) T.b_isinstance boot_isinstance (pa_cons (pv 1) (pa_cons (pe_bltn (v := .ty "bool") (by rfl) T.b_bool boot_bool rfl) pa_nil))) (nomark _)) (pe_one (pe_cmpR (k_eq (K' := K) rfl (hu64 hr)) (pv 0) (pv 1) (nomark _)))))) pss_nil)
    (pss_one (ps_ret (pe_and (pe_callB (k_isi (K' := K) rfl) (by rfl) T.b_isinstance boot_isinstance (pa_cons (pv 0) (pa_cons (pe_bltn (v := .ty "int") (by rfl) T.b_int boot_int rfl) pa_nil))) (pe_and (pe_not (pe_callB (k_isi (K' := K) rfl) (by rfl) T.b_isinstance boot_isinstance (pa_cons (pv 0) (pa_cons (pe_bltn (v := .ty "bool") (by rfl) T.b_bool boot_bool rfl) pa_nil)))) (pe_one (pe_cmpR (k_eq (K' := K) rfl (hu64 hr)) (pv 0) (pv 1) (nomark _)))))))))), runV (n := 2) (fun ds P h => by obtain ⟨_, rfl, _⟩ := h; rfl) (by decide) ?_ h⟩)
  rintro ds P ⟨d, rfl, hd, hP⟩
  rcases hd with rfl | ⟨b, rfl⟩ | ⟨i, rfl⟩ | ⟨s, rfl⟩ | ⟨l, rfl | rfl, hl, hx⟩
  · walk_at "w"
    exact hP
  · walk_at "w"
    rw [decide_eq_true (rfl : b = b)]; exact hP
  · walk_at "w"
    rw [decide_eq_true (rfl : i = i)]; exact hP
  · walk_at "w"
    rw [decide_eq_true (rfl : s = s)]; exact hP
  · walk_at "w"
    refine EF.toW (EF.lcMap l (fun d => .tup [d, d]) (fun _ => true) .bl rfl (IW.zipA ?_))
    walk_at "w"
    refine ⟨l, l, .inl rfl, zip_self l, le1000 hl, fun d hd => GW.nm2 ⟨rfl, EW.callV ?_⟩, ?_⟩
    · walk_at "w"
      exact ⟨hx d hd, rfl, rfl⟩
    · walk_at "w"
      refine RCW.all ?_
      rw [show (l.map fun _ => true).all id = true by simp]; exact hP
  · walk_at "w"
    refine EF.toW (EF.lcMap l (fun d => .tup [d, d]) (fun _ => true) .bl rfl (IW.zipA ?_))
    walk_at "w"
    refine ⟨l, l, .inr rfl, zip_self l, le1000 hl, fun d hd => GW.nm2 ⟨rfl, EW.callV ?_⟩, ?_⟩
    · walk_at "w"
      exact ⟨hx d hd, rfl, rfl⟩
    · walk_at "w"
      refine RCW.all ?_
      rw [show (l.map fun _ => true).all id = true by simp]; exact hP
end
end K12
namespace K12
open PySem PySem.Spec PyProof.Rows L2 Q
local macro_rules | `(tactic| walk_at "p") => `(tactic| first | omega | (simp only [List.length_map, List.length_cons, List.length_nil, List.length_append, List.length_set]; first | done | omega) | (refine .inl ⟨?_, ?_⟩ <;> omega) | (refine .inr ⟨?_, ?_⟩ <;> omega) | (refine ⟨?_, ?_⟩ <;> omega) | exact .inr (b01 _) | exact .inl (b01 _) | exact le1000 (by first | decide | (simp only [List.length_map, List.length_cons, List.length_nil, List.length_append, List.length_set]; first | done | omega) | omega) | decide)
local macro_rules | `(tactic| walk_at "s") => `(tactic| with_reducible (first
  | refine EW.cint ?_ | refine EW.cstr ?_ | refine EW.cbl ?_ | refine EW.cnon ?_ | refine EW.cty ?_
  | refine AW.nil ?_ | refine AW.cons ?_
  | refine EW.ite ?_ | refine EW.andV ?_ | refine EW.orV ?_ | refine EW.notV ?_ | refine TW.test ?_ | refine TW.tB ?_ | refine TW.and ?_ | refine TW.or ?_ | refine TW.not ?_ | refine TW.yes ?_
  | refine EW.callV ?_ | refine EW.cb ?_ | refine EW.neg ?_ | refine EW.tup ?_ | refine EF.toW (EF.lst ?_) | refine EF.lst ?_
  | refine RW2.ii ?_ | refine RW2.ib ?_ | refine RW2.uAddi ?_ | refine RW2.isN ?_ | refine RW2.notN ?_ | refine RW2.isB ?_ | refine RW2.notB ?_
  | refine RCW.abs ?_ | refine RCW.max2 ?_ | refine RCW.min2 ?_ | refine RCW.inti ?_ | refine RCW.intb ?_))
local macro_rules | `(tactic| walk_at "v") => `(tactic| first
  | ((with_reducible apply EW.var); (· rfl)) | ((with_reducible refine EW.callB ?_ ?_); (· rfl))
  | ((with_reducible refine EW.bx0 ?_ fun _ => ?_); (· exact ⟨rfl, rfl⟩)) | ((with_reducible refine EW.bx1 ?_ fun _ _ _ => ?_); (· exact ⟨rfl, rfl⟩)) | ((with_reducible refine EW.bx2 ?_ ?_); (· exact ⟨rfl, rfl⟩))
  | ((with_reducible apply EW.ixO); (· exact ⟨rfl, rfl⟩)) | ((with_reducible apply EW.varOwn); (· rfl)) | (with_reducible refine EW.op ?_)
  | ((with_reducible refine RW2.ci ?_ ?_); (· walk_at "p")) | ((with_reducible refine RW2.uMuli ?_ ?_); (· walk_at "p")))
local macro_rules | `(tactic| walk_at "d") => `(tactic| first
  | refine RW2.uEqi ?_ | refine RW2.uEqs ?_ | refine RW2.uEqb ?_ | refine RW2.uNei ?_ | refine RW2.uNes ?_ | refine RW2.uNeb ?_
  | refine RW2.uIxT rfl ?_ | refine RW2.uIxL rfl ?_
  | refine RCW.len rfl ?_ | refine RCW.isi (b := false) (fun _ h => nomatch h) (fun _ h => nomatch h) rfl ?_ | refine RCW.isi (b := true) (fun _ h => nomatch h) (fun _ h => nomatch h) rfl ?_ | refine TW.tru ?_
  | refine ⟨_, rfl, ⟨by walk_at "p", by walk_at "p", by walk_at "p"⟩, fun _ _ _ _ _ => ?_⟩
  | refine ⟨(fun _ h => nomatch h), (fun _ h => nomatch h), false, false, false, rfl, rfl, rfl, ?_⟩ | refine ⟨(fun _ h => nomatch h), (fun _ h => nomatch h), true, false, true, rfl, rfl, rfl, ?_⟩ | refine ⟨(fun _ h => nomatch h), (fun _ h => nomatch h), false, true, true, rfl, rfl, rfl, ?_⟩
  | refine ⟨le1000 (by first | decide | (simp only [List.length_map, List.length_cons, List.length_nil, List.length_append, List.length_set]; first | done | omega)), ?_⟩ | refine ⟨_, rfl, ?_⟩)
local macro_rules | `(tactic| walk_at "e") => `(tactic| repeat (first | ((with_reducible refine EW.isi2 ?_ ?_); (· rfl)) | ((with_reducible apply EW.lenO); (· exact ⟨rfl, rfl⟩); (· rfl)) | walk_at "s" | walk_at "v" | walk_at "d"))
local macro_rules | `(tactic| walk_at "c") => `(tactic| first | refine br_t rfl ?_ | refine br_f rfl ?_ | refine br_t (decide_eq_true rfl) ?_)
local macro_rules | `(tactic| walk_at "w") => `(tactic| repeat (first | ((with_reducible refine EW.isi2 ?_ ?_); (· rfl)) | ((with_reducible apply EW.lenO); (· exact ⟨rfl, rfl⟩); (· rfl)) | walk_at "s" | walk_at "v" | (with_reducible first | refine SW.seq ?_ | refine SW.ite ?_ | refine SW.ret ?_ | refine SW.next ?_) | walk_at "d" | walk_at "c"))
section
variable {P : Program} {w : World} {K : Frag} {mg : Str → Option Value} {base : Heap}
def sp__law_copied (n : Nat) : PV := fun ds P => ∃ d : D, ds = [d] ∧ Dn n d ∧ P d
theorem ok__law_copied (T : Txt K mg) : ∀ n : Nat, FnOk P w K mg base CX0 (n + 1) T.f__law_copied T.fd__law_copied ["_law_thing"] (spV K (sp__law_copied n)) := by
  intro n
  induction n
  case zero => exact ⟨fun vs H Q E h => (no_V (fun ds P h => by obtain ⟨_, rfl, h, _⟩ := h; exact h.elim) h).elim, fun A outer s H args us vs Q E hr he hb hv h => (no_V (fun ds P h => by obtain ⟨_, rfl, h, _⟩ := h; exact h.elim) h).elim⟩
  rename_i n IH
  refine T.F__law_copied.ok sc__law_copied (fun vs H Q E h => lenV (fun ds P h => by obtain ⟨_, rfl, _⟩ := h; rfl) h) (fun cdv A outer s H vs Q E hr h => ⟨_, (pss_cons (ps_if (pt_tru (pe_callB (k_isi (K' := K) rfl) (by rfl) T.b_isinstance boot_isinstance (pa_cons (pv 0) (pa_cons (pe_bltn (v := .ty "list") (by rfl) T.b_list boot_list rfl) pa_nil))) (fun _ => rfl)) (pss_one (ps_ret (pe_lc (own := [("_law_part", 1)]) rfl sc__law_copied.nd (k_plist (K' := K) rfl (pv 0)) (blkOk_by (N := N__law_copied) (sc := defScope s__law_copied) (by decide +kernel)) (fun _ _ _ _ _ => (pg_name (i := 1) sc__law_copied.nd rfl (Or.inl rfl))) (fun _ _ _ _ _ => pts_nil) (fun _ _ _ _ _ => (pe_call IH (hr.mono (by omega)) (by rfl) T.g__law_copied T.F__law_copied.kp T.bd__law_copied .nil pass0 (pa_cons (pv 1) pa_nil)))))) pss_nil)
    (pss_one (ps_ret (pe_ifExp (pt_tru (pe_callB (k_isi (K' := K) rfl) (by rfl) T.b_isinstance boot_isinstance (pa_cons (pv 0) (pa_cons (pe_bltn (v := .ty "tuple") (by rfl) T.b_tuple boot_tuple rfl) pa_nil))) (fun _ => rfl)) (pe_callTy (k_tpl (K' := K) rfl) (by rfl) T.b_tuple boot_tuple (pa_cons (pe_lc (own := [("_law_part", 1)]) rfl sc__law_copied.nd (k_ptup (K' := K) rfl (pv 0)) (blkOk_by (N := N__law_copied) (sc := defScope s__law_copied) (by decide +kernel)) (fun _ _ _ _ _ => (pg_name (i := 1) sc__law_copied.nd rfl (Or.inl rfl))) (fun _ _ _ _ _ => pts_nil) (fun _ _ _ _ _ => (pe_call IH (hr.mono (by omega)) (by rfl) T.g__law_copied T.F__law_copied.kp T.bd__law_copied .nil pass0 (pa_cons (pv 1) pa_nil)))) pa_nil)) (pv 0))))), runV (n := 1) (fun ds P h => by obtain ⟨_, rfl, _⟩ := h; rfl) (by decide) ?_ h⟩)
  rintro ds P ⟨d, rfl, hd, hP⟩
  rcases hd with rfl | ⟨b, rfl⟩ | ⟨i, rfl⟩ | ⟨s, rfl⟩ | ⟨l, rfl | rfl, hl, hx⟩
  · walk_at "w"
    exact hP
  · walk_at "w"
    exact hP
  · walk_at "w"
    exact hP
  · walk_at "w"
    exact hP
  · walk_at "w"
    refine EF.toW (EF.lcMap l id id id rfl (IW.list ?_))
    walk_at "w"
    refine ⟨by rw [List.map_id], le1000 hl, fun d hd => GW.name ⟨rfl, ?_⟩, ?_⟩
    · walk_at "w"
      exact ⟨hx d hd, rfl, rfl⟩
    · rw [List.map_id, List.map_id]; exact hP
  · walk_at "w"
    refine EF.toW (EF.lcMap l id id id rfl (IW.tup ?_))
    walk_at "w"
    refine ⟨by rw [List.map_id], le1000 hl, fun d hd => GW.name ⟨rfl, ?_⟩, ?_⟩
    · walk_at "w"
      exact ⟨hx d hd, rfl, rfl⟩
    · walk_at "w"
      rw [List.map_id, List.map_id]
      exact RCW.tuple (.inl rfl) hP
def spF__law_copied : PF := fun ds P => ∃ l : List D, ds = [.lst l] ∧ ((∀ d ∈ l, Dn 1 d) ∧ l.length ≤ 1000) ∧ P l
theorem okF__law_copied (T : Txt K mg) : FnOk P w K mg base CX0 3 T.f__law_copied T.fd__law_copied ["_law_thing"] (spF K spF__law_copied) := by
  refine T.F__law_copied.ok sc__law_copied (fun vs H Q E h => lenF (fun ds P h => by obtain ⟨_, rfl, _⟩ := h; rfl) h) (fun cdv A outer s H vs Q E hr h => ⟨_, (pss_cons (ps_if (pt_tru (pe_callB (k_isi (K' := K) rfl) (by rfl) T.b_isinstance boot_isinstance (pa_cons (pv 0) (pa_cons (pe_bltn (v := .ty "list") (by rfl) T.b_list boot_list rfl) pa_nil))) (fun _ => rfl)) (pss_one (ps_ret (pe_lc (own := [("_law_part", 1)]) rfl sc__law_copied.nd (k_plist (K' := K) rfl (pv 0)) (blkOk_by (N := N__law_copied) (sc := defScope s__law_copied) (by decide +kernel)) (fun _ _ _ _ _ => (pg_name (i := 1) sc__law_copied.nd rfl (Or.inl rfl))) (fun _ _ _ _ _ => pts_nil) (fun _ _ _ _ _ => (pe_call (ok__law_copied T 1) (hr.mono (by omega)) (by rfl) T.g__law_copied T.F__law_copied.kp T.bd__law_copied .nil pass0 (pa_cons (pv 1) pa_nil)))))) pss_nil)
    (pss_one (ps_ret (pe_ifExp (pt_tru (pe_callB (k_isi (K' := K) rfl) (by rfl) T.b_isinstance boot_isinstance (pa_cons (pv 0) (pa_cons (pe_bltn (v := .ty "tuple") (by rfl) T.b_tuple boot_tuple rfl) pa_nil))) (fun _ => rfl)) (pe_callTy (k_tpl (K' := K) rfl) (by rfl) T.b_tuple boot_tuple (pa_cons (pe_lc (own := [("_law_part", 1)]) rfl sc__law_copied.nd (k_ptup (K' := K) rfl (pv 0)) (blkOk_by (N := N__law_copied) (sc := defScope s__law_copied) (by decide +kernel)) (fun _ _ _ _ _ => (pg_name (i := 1) sc__law_copied.nd rfl (Or.inl rfl))) (fun _ _ _ _ _ => pts_nil) (fun _ _ _ _ _ => (pe_call (ok__law_copied T 1) (hr.mono (by omega)) (by rfl) T.g__law_copied T.F__law_copied.kp T.bd__law_copied .nil pass0 (pa_cons (pv 1) pa_nil)))) pa_nil)) (pv 0))))), runF (n := 1) (fun ds P h => by obtain ⟨_, rfl, _⟩ := h; rfl) (by decide) ?_ h⟩)
  rintro ds P ⟨l, rfl, ⟨hx, hl⟩, hP⟩
  refine SF.seqIf ?_
  walk_at "w"
  refine ⟨rfl, SF.ret (EF.lcMap l id id id rfl (IW.list ?_))⟩
  walk_at "w"
  refine ⟨by rw [List.map_id], le1000 hl, fun d hd => GW.name ⟨rfl, ?_⟩, ?_⟩
  · walk_at "w"
    exact ⟨hx d hd, rfl, rfl⟩
  · rw [List.map_id, List.map_id]; exact hP
def spR__law_copied : PR := fun ds P => ∃ rows : List (List D), ds = [.lst (rows.map .lst)] ∧ ((∀ r ∈ rows, r.length ≤ 1000 ∧ ∀ d ∈ r, Dn 1 d) ∧ rows.length ≤ 1000) ∧ P rows
theorem okR__law_copied (T : Txt K mg) : FnOk P w K mg base CX0 4 T.f__law_copied T.fd__law_copied ["_law_thing"] (spR K spR__law_copied) := by
  refine T.F__law_copied.ok sc__law_copied (fun vs H Q E h => lenR (fun ds P h => by obtain ⟨_, rfl, _⟩ := h; rfl) h) (fun cdv A outer s H vs Q E hr h => ⟨_, (pss_cons (ps_if (pt_tru (pe_callB (k_isi (K' := K) rfl) (by rfl) T.b_isinstance boot_isinstance (pa_cons (pv 0) (pa_cons (pe_bltn (v := .ty "list") (by rfl) T.b_list boot_list rfl) pa_nil))) (fun _ => rfl)) (pss_one (ps_ret (pe_lc (own := [("_law_part", 1)]) rfl sc__law_copied.nd (k_plist (K' := K) rfl (pv 0)) (blkOk_by (N := N__law_copied) (sc := defScope s__law_copied) (by decide +kernel)) (fun _ _ _ _ _ => (pg_name (i := 1) sc__law_copied.nd rfl (Or.inl rfl))) (fun _ _ _ _ _ => pts_nil) (fun _ _ _ _ _ => (pe_call (okF__law_copied T) (hr.mono (by omega)) (by rfl) T.g__law_copied T.F__law_copied.kp T.bd__law_copied .nil pass0 (pa_cons (pv 1) pa_nil)))))) pss_nil)
    (pss_one (ps_ret (pe_ifExp (pt_tru (pe_callB (k_isi (K' := K) rfl) (by rfl) T.b_isinstance boot_isinstance (pa_cons (pv 0) (pa_cons (pe_bltn (v := .ty "tuple") (by rfl) T.b_tuple boot_tuple rfl) pa_nil))) (fun _ => rfl)) (pe_callTy (k_tpl (K' := K) rfl) (by rfl) T.b_tuple boot_tuple (pa_cons (pe_lc (own := [("_law_part", 1)]) rfl sc__law_copied.nd (k_ptup (K' := K) rfl (pv 0)) (blkOk_by (N := N__law_copied) (sc := defScope s__law_copied) (by decide +kernel)) (fun _ _ _ _ _ => (pg_name (i := 1) sc__law_copied.nd rfl (Or.inl rfl))) (fun _ _ _ _ _ => pts_nil) (fun _ _ _ _ _ => (pe_call (okF__law_copied T) (hr.mono (by omega)) (by rfl) T.g__law_copied T.F__law_copied.kp T.bd__law_copied .nil pass0 (pa_cons (pv 1) pa_nil)))) pa_nil)) (pv 0))))), runR (n := 1) (fun ds P h => by obtain ⟨_, rfl, _⟩ := h; rfl) (by decide) ?_ h⟩)
  rintro ds P ⟨rows, rfl, ⟨hx, hl⟩, hP⟩
  refine SRw.seqIf ?_
  walk_at "w"
  refine ⟨rfl, SRw.ret (ER.lcF rows .lst id rfl (IW.list ?_))⟩
  walk_at "w"
  refine ⟨rfl, le1000 hl, fun d hd => GW.name ⟨rfl, EF.callF ?_⟩, ?_⟩
  · walk_at "w"
    exact ⟨⟨(hx d hd).2, (hx d hd).1⟩, rfl, rfl⟩
  · rw [List.map_id]; exact hP
end
end K12
namespace K12
open PySem PySem.Spec PyProof.Rows L2 Q
local macro_rules | `(tactic| walk_at "p") => `(tactic| first | omega | (simp only [List.length_map, List.length_cons, List.length_nil, List.length_append, List.length_set]; first | done | omega) | (refine .inl ⟨?_, ?_⟩ <;> omega) | (refine .inr ⟨?_, ?_⟩ <;> omega) | (refine ⟨?_, ?_⟩ <;> omega) | exact .inr (b01 _) | exact .inl (b01 _) | exact le1000 (by first | decide | (simp only [List.length_map, List.length_cons, List.length_nil, List.length_append, List.length_set]; first | done | omega) | omega) | decide)
local macro_rules | `(tactic| walk_at "s") => `(tactic| with_reducible (first
  | refine EW.cint ?_ | refine EW.cstr ?_ | refine EW.cbl ?_ | refine EW.cnon ?_ | refine EW.cty ?_
  | refine AW.nil ?_ | refine AW.cons ?_
  | refine EW.ite ?_ | refine EW.andV ?_ | refine EW.orV ?_ | refine EW.notV ?_ | refine TW.test ?_ | refine TW.tB ?_ | refine TW.and ?_ | refine TW.or ?_ | refine TW.not ?_ | refine TW.yes ?_
  | refine EW.callV ?_ | refine EW.cb ?_ | refine EW.neg ?_ | refine EW.tup ?_ | refine EF.toW (EF.lst ?_) | refine EF.lst ?_
  | refine RW2.ii ?_ | refine RW2.ib ?_ | refine RW2.uAddi ?_ | refine RW2.isN ?_ | refine RW2.notN ?_ | refine RW2.isB ?_ | refine RW2.notB ?_
  | refine RCW.abs ?_ | refine RCW.max2 ?_ | refine RCW.min2 ?_ | refine RCW.inti ?_ | refine RCW.intb ?_))
local macro_rules | `(tactic| walk_at "v") => `(tactic| first
  | ((with_reducible apply EW.var); (· rfl)) | ((with_reducible refine EW.callB ?_ ?_); (· rfl))
  | ((with_reducible refine EW.bx0 ?_ fun _ => ?_); (· exact ⟨rfl, rfl⟩)) | ((with_reducible refine EW.bx1 ?_ fun _ _ _ => ?_); (· exact ⟨rfl, rfl⟩)) | ((with_reducible refine EW.bx2 ?_ ?_); (· exact ⟨rfl, rfl⟩))
  | ((with_reducible apply EW.ixO); (· exact ⟨rfl, rfl⟩)) | ((with_reducible apply EW.varOwn); (· rfl)) | (with_reducible refine EW.op ?_)
  | ((with_reducible refine RW2.ci ?_ ?_); (· walk_at "p")) | ((with_reducible refine RW2.uMuli ?_ ?_); (· walk_at "p")))
local macro_rules | `(tactic| walk_at "d") => `(tactic| first
  | refine RW2.uEqi ?_ | refine RW2.uEqs ?_ | refine RW2.uEqb ?_ | refine RW2.uNei ?_ | refine RW2.uNes ?_ | refine RW2.uNeb ?_
  | refine RW2.uIxT rfl ?_ | refine RW2.uIxL rfl ?_
  | refine RCW.len rfl ?_ | refine RCW.isi (b := false) (fun _ h => nomatch h) (fun _ h => nomatch h) rfl ?_ | refine RCW.isi (b := true) (fun _ h => nomatch h) (fun _ h => nomatch h) rfl ?_ | refine TW.tru ?_
  | refine ⟨_, rfl, ⟨by walk_at "p", by walk_at "p", by walk_at "p"⟩, fun _ _ _ _ _ => ?_⟩
  | refine ⟨(fun _ h => nomatch h), (fun _ h => nomatch h), false, false, false, rfl, rfl, rfl, ?_⟩ | refine ⟨(fun _ h => nomatch h), (fun _ h => nomatch h), true, false, true, rfl, rfl, rfl, ?_⟩ | refine ⟨(fun _ h => nomatch h), (fun _ h => nomatch h), false, true, true, rfl, rfl, rfl, ?_⟩
  | refine ⟨le1000 (by first | decide | (simp only [List.length_map, List.length_cons, List.length_nil, List.length_append, List.length_set]; first | done | omega)), ?_⟩ | refine ⟨_, rfl, ?_⟩)
local macro_rules | `(tactic| walk_at "e") => `(tactic| repeat (first | ((with_reducible refine EW.isi2 ?_ ?_); (· rfl)) | ((with_reducible apply EW.lenO); (· exact ⟨rfl, rfl⟩); (· rfl)) | walk_at "s" | walk_at "v" | walk_at "d"))
local macro_rules | `(tactic| walk_at "c") => `(tactic| first | refine br_t rfl ?_ | refine br_f rfl ?_ | refine br_t (decide_eq_true rfl) ?_)
local macro_rules | `(tactic| walk_at "w") => `(tactic| repeat (first | ((with_reducible refine EW.isi2 ?_ ?_); (· rfl)) | ((with_reducible apply EW.lenO); (· exact ⟨rfl, rfl⟩); (· rfl)) | walk_at "s" | walk_at "v" | (with_reducible first | refine SW.seq ?_ | refine SW.ite ?_ | refine SW.ret ?_ | refine SW.next ?_) | walk_at "d" | walk_at "c"))
section
variable {P : Program} {w : World} {K : Frag} {mg : Str → Option Value} {base : Heap}
/-! ### what a laying is -/
def fK (p : Str × Int) : Key × D := (.inr p.1, .int p.2)
def putS (kvs : List (Str × Int)) (k : Str) (v : Int) : List (Str × Int) :=
  if (kvs.any fun kv => decide (kv.1 = k)) = true then kvs.map (fun kv => if kv.1 = k then (kv.1, v) else kv) else kvs ++ [(k, v)]
def kvsOf (ls : List (Str × Int)) : List (Str × Int) := ls.foldl (fun acc kv => putS acc kv.1 kv.2) []
theorem put_form (kvs : List (Str × Int)) (k : Str) (v : Int) : putD (kvs.map fK) (.inr k) (.int v) = (putS kvs k v).map fK := by
  unfold putD putS
  have e : ((kvs.map fK).any fun kv => decide (kv.1 = Sum.inr k)) = kvs.any fun kv => decide (kv.1 = k) := by
    rw [List.any_map]; congr 1; funext q; simp [fK]
  rw [e]
  split
  · rw [List.map_map, List.map_map]
    apply List.map_congr_left
    intro q _
    simp only [Function.comp, fK, Sum.inr.injEq]
    split <;> simp
  · rw [List.map_append]; rfl
theorem merge_form (ls : List (Str × Int)) : mergeD (ls.map fK) = (kvsOf ls).map fK := by
  have key : ∀ (ls acc : List (Str × Int)), (ls.map fK).foldl (fun acc kv => putD acc kv.1 kv.2) (acc.map fK) = (ls.foldl (fun acc kv => putS acc kv.1 kv.2) acc).map fK := by
    intro ls
    induction ls with
    | nil => intro acc; rfl
    | cons a r ih =>
      intro acc
      rw [List.map_cons, List.foldl_cons, List.foldl_cons]
      show List.foldl _ (putD (acc.map fK) (.inr a.1) (.int a.2)) (r.map fK) = _
      rw [put_form]; exact ih _
  exact key ls []
theorem put_len (kvs : List (Str × Int)) (k : Str) (v : Int) : (putS kvs k v).length ≤ kvs.length + 1 := by
  unfold putS; split <;> simp
theorem kvs_len (ls : List (Str × Int)) : (kvsOf ls).length ≤ ls.length := by
  have key : ∀ (ls acc : List (Str × Int)), (ls.foldl (fun acc kv => putS acc kv.1 kv.2) acc).length ≤ acc.length + ls.length := by
    intro ls
    induction ls with
    | nil => intro acc; exact Nat.le_refl _
    | cons a r ih => intro acc; rw [List.foldl_cons, List.length_cons]; have := ih (putS acc a.1 a.2); have := put_len acc a.1 a.2; omega
  have := key ls []
  rw [List.length_nil] at this
  unfold kvsOf; omega
def wtS : List (Str × Int) → Str → Option Int
  | [], _ => none
  | kv :: r, n => if kv.1 = n then some kv.2 else wtS r n
theorem look_wt : ∀ (kvs : List (Str × Int)) (n : Str), lookD ((kvs.map fK).map (·.1)) ((kvs.map fK).map (·.2)) (.inr n) = (wtS kvs n).map .int
  | [], _ => rfl
  | kv :: r, n => by
    rw [List.map_cons, List.map_cons, List.map_cons, lookD, wtS, look_wt r n]
    by_cases e : kv.1 = n
    · rw [if_pos e, if_pos (show (fK kv).1 = Sum.inr n from congrArg Sum.inr e)]; rfl
    · rw [if_neg e, if_neg (show ¬ (fK kv).1 = Sum.inr n from fun z => e (Sum.inr.inj z))]
def GoodRow (kvs : List (Str × Int)) (q : List Str × Int) : Prop := (∀ n ∈ q.1, (wtS kvs n).isSome = true) ∧ (q.1.map fun n => (wtS kvs n).getD 0).sum ≤ q.2
def LaidP (ls : List (Str × Int)) (ss : List Int) (d : D) : Prop :=
  ∃ nss : List (List Str), d = .lst (nss.map rowD) ∧ nss.length = ss.length ∧ (∀ q ∈ nss.zip ss, GoodRow (kvsOf ls) q) ∧ nss.flatten.Perm ((kvsOf ls).map (·.1))
def ItemOk (d : D) : Prop := ∃ cs, (d = .lst cs ∨ d = .tup cs) ∧ ∀ c ∈ cs, Dn 2 c
def szI : D → Nat
  | .lst cs => cs.length | .tup cs => cs.length | _ => 0
def ThingOk (d : D) : Prop := ∃ xs, d = .lst xs ∧ xs.length ≤ 12 ∧ (∀ i ∈ xs, ItemOk i) ∧ (xs.map szI).sum ≤ 21
def cellB (kvs : List (Str × Int)) : D → Bool
  | .str n => (wtS kvs n).isSome
  | _ => false
theorem cells_names {kvs : List (Str × Int)} : ∀ {cs : List D}, (cs.map (cellB kvs)).all id = true → ∃ ns : List Str, cs = ns.map .str ∧ ∀ n ∈ ns, (wtS kvs n).isSome = true
  | [], _ => ⟨[], rfl, fun _ h => nomatch h⟩
  | c :: r, h => by
    rw [List.map_cons, List.all_cons, Bool.and_eq_true] at h
    obtain ⟨ns, rfl, hn⟩ := cells_names h.2
    cases c with
    | str n => exact ⟨n :: ns, rfl, fun x hx => by
        rcases List.mem_cons.mp hx with rfl | q
        · exact h.1
        · exact hn x q⟩
    | _ => cases h.1
theorem names_cells {kvs : List (Str × Int)} {ns : List Str} (h : ∀ n ∈ ns, (wtS kvs n).isSome = true) : ((ns.map D.str).map (cellB kvs)).all id = true := by
  rw [List.map_map, List.all_map, List.all_eq_true]
  intro n hn; exact h n hn
theorem str_inj : ∀ {a b : List Str}, a.map D.str = b.map D.str → a = b
  | [], [], _ => rfl
  | [], _ :: _, h => nomatch h
  | _ :: _, [], h => nomatch h
  | x :: a, y :: b, h => by
    rw [List.map_cons, List.map_cons] at h
    injection h with h1 h2
    injection h1 with h1
    rw [h1, str_inj h2]
theorem row_inj {a b : List Str} (h : rowD a = rowD b) : a = b := by
  unfold rowD at h; injection h with h; exact str_inj h
theorem rows_inj : ∀ {a b : List (List Str)}, a.map rowD = b.map rowD → a = b
  | [], [], _ => rfl
  | [], _ :: _, h => nomatch h
  | _ :: _, [], h => nomatch h
  | x :: a, y :: b, h => by
    rw [List.map_cons, List.map_cons] at h
    injection h with h1 h2
    rw [row_inj h1, rows_inj h2]
/-- a laying's row, at its place -/
theorem laid_at {ls : List (Str × Int)} {ss : List Int} {xs : List D} (h : LaidP ls ss (.lst xs)) {i : Nat} {x : D} {s : Int} (hx : xs[i]? = some x) (hs : ss[i]? = some s) : ∃ ns, x = rowD ns ∧ GoodRow (kvsOf ls) (ns, s) := by
  obtain ⟨nss, e, hl, hg, _⟩ := h
  injection e with e
  subst e
  rw [List.getElem?_map] at hx
  cases hn : nss[i]? with
  | none => rw [hn] at hx; cases hx
  | some ns =>
    rw [hn] at hx; cases hx
    exact ⟨ns, rfl, hg _ (List.mem_of_getElem? (i := i) (by rw [List.getElem?_zip_eq_some]; exact ⟨hn, hs⟩))⟩
theorem flat_size : ∀ (nss : List (List Str)), ((nss.map rowD).map szI).sum = nss.flatten.length
  | [] => rfl
  | a :: r => by
    rw [List.map_cons, List.map_cons, List.sum_cons, List.flatten_cons, List.length_append, flat_size r]
    show (a.map D.str).length + _ = _
    rw [List.length_map]
theorem mem_le_sum : ∀ {ns : List Nat} {n : Nat}, n ∈ ns → n ≤ ns.sum
  | a :: r, n, h => by
    rw [List.sum_cons]
    rcases List.mem_cons.mp h with rfl | q
    · omega
    · have := mem_le_sum q; omega
theorem put_keys {kvs : List (Str × Int)} {k : Str} {v : Int} {q : Str × Int} (h : q ∈ putS kvs k v) : q.1 = k ∨ ∃ r ∈ kvs, r.1 = q.1 := by
  unfold putS at h
  split at h
  · obtain ⟨r, hr, rfl⟩ := List.mem_map.mp h
    refine .inr ⟨r, hr, ?_⟩
    split <;> rfl
  · rcases List.mem_append.mp h with q | q
    · exact .inr ⟨_, q, rfl⟩
    · obtain rfl := List.mem_singleton.mp q; exact .inl rfl
theorem kvs_keys {ls : List (Str × Int)} {q : Str × Int} (h : q ∈ kvsOf ls) : ∃ r ∈ ls, r.1 = q.1 := by
  have key : ∀ (ls acc : List (Str × Int)) (q : Str × Int), q ∈ ls.foldl (fun acc kv => putS acc kv.1 kv.2) acc → (∃ r ∈ ls, r.1 = q.1) ∨ ∃ r ∈ acc, r.1 = q.1 := by
    intro ls
    induction ls with
    | nil => intro acc q h; exact .inr ⟨q, h, rfl⟩
    | cons a r ih =>
      intro acc q h
      rw [List.foldl_cons] at h
      rcases ih _ q h with ⟨x, hx, e⟩ | ⟨x, hx, e⟩
      · exact .inl ⟨x, List.mem_cons_of_mem _ hx, e⟩
      · rcases put_keys hx with e2 | ⟨y, hy, e2⟩
        · exact .inl ⟨a, by simp, by rw [← e, e2]⟩
        · exact .inr ⟨y, hy, e2.trans e⟩
  rcases key ls [] q h with h | ⟨_, h, _⟩
  · exact h
  · cases h
theorem key_ok {ls : List (Str × Int)} (hl : LoadsOk ls) {q : Str × Int} (h : q ∈ kvsOf ls) : PyData.strOk q.1 = true := by
  obtain ⟨r, hr, e⟩ := kvs_keys h
  rw [← e]; exact (hl.2.1 r hr).1.2
theorem wt_mem : ∀ {kvs : List (Str × Int)} {n : Str}, (wtS kvs n).isSome = true → ∃ q ∈ kvs, q.1 = n
  | [], _, h => nomatch h
  | kv :: r, n, h => by
    rw [wtS] at h
    by_cases e : kv.1 = n
    · exact ⟨kv, by simp, e⟩
    · rw [if_neg e] at h
      obtain ⟨q, hq, e⟩ := wt_mem h
      exact ⟨q, List.mem_cons_of_mem _ hq, e⟩
theorem wt_ok {ls : List (Str × Int)} (hl : LoadsOk ls) {n : Str} (h : (wtS (kvsOf ls) n).isSome = true) : PyData.strOk n = true := by
  obtain ⟨q, hq, rfl⟩ := wt_mem h
  exact key_ok hl hq
theorem sum_take {α : Type} (f : α → Nat) : ∀ (xs : List α) (i : Nat), ((xs.take i).map f).sum ≤ (xs.map f).sum
  | [], i => by simp
  | a :: r, 0 => by simp
  | a :: r, i + 1 => by
    rw [List.take_succ_cons, List.map_cons, List.map_cons, List.sum_cons, List.sum_cons]
    have := sum_take f r i; omega
theorem zip_snoc {α β : Type} : ∀ (xs : List α) (x : α) {ss : List β} {s : β}, xs.length < ss.length → ss[xs.length]? = some s → (xs ++ [x]).zip ss = xs.zip ss ++ [(x, s)]
  | [], x, s' :: ss, s, _, h => by cases h; simp
  | a :: r, x, s' :: ss, s, hl, h => by
    simp only [List.length_cons] at hl h
    simp only [List.cons_append, List.zip_cons_cons, List.cons.injEq, true_and]
    exact zip_snoc r x (by omega) (by simpa using h)
end
end K12
namespace K12
open PySem PySem.Spec PyProof.Rows L2 Q
local macro_rules | `(tactic| walk_at "p") => `(tactic| first | omega | (simp only [List.length_map, List.length_cons, List.length_nil, List.length_append, List.length_set]; first | done | omega) | (refine .inl ⟨?_, ?_⟩ <;> omega) | (refine .inr ⟨?_, ?_⟩ <;> omega) | (refine ⟨?_, ?_⟩ <;> omega) | exact .inr (b01 _) | exact .inl (b01 _) | exact le1000 (by first | decide | (simp only [List.length_map, List.length_cons, List.length_nil, List.length_append, List.length_set]; first | done | omega) | omega) | decide)
local macro_rules | `(tactic| walk_at "s") => `(tactic| with_reducible (first
  | refine EW.cint ?_ | refine EW.cstr ?_ | refine EW.cbl ?_ | refine EW.cnon ?_ | refine EW.cty ?_
  | refine AW.nil ?_ | refine AW.cons ?_
  | refine EW.ite ?_ | refine EW.andV ?_ | refine EW.orV ?_ | refine EW.notV ?_ | refine TW.test ?_ | refine TW.tB ?_ | refine TW.and ?_ | refine TW.or ?_ | refine TW.not ?_ | refine TW.yes ?_
  | refine EW.callV ?_ | refine EW.cb ?_ | refine EW.neg ?_ | refine EW.tup ?_ | refine EF.toW (EF.lst ?_) | refine EF.lst ?_
  | refine RW2.ii ?_ | refine RW2.ib ?_ | refine RW2.uAddi ?_ | refine RW2.isN ?_ | refine RW2.notN ?_ | refine RW2.isB ?_ | refine RW2.notB ?_
  | refine RCW.abs ?_ | refine RCW.max2 ?_ | refine RCW.min2 ?_ | refine RCW.inti ?_ | refine RCW.intb ?_))
local macro_rules | `(tactic| walk_at "v") => `(tactic| first
  | ((with_reducible apply EW.var); (· rfl)) | ((with_reducible refine EW.callB ?_ ?_); (· rfl))
  | ((with_reducible refine EW.bx0 ?_ fun _ => ?_); (· exact ⟨rfl, rfl⟩)) | ((with_reducible refine EW.bx1 ?_ fun _ _ _ => ?_); (· exact ⟨rfl, rfl⟩)) | ((with_reducible refine EW.bx2 ?_ ?_); (· exact ⟨rfl, rfl⟩))
  | ((with_reducible apply EW.ixO); (· exact ⟨rfl, rfl⟩)) | ((with_reducible apply EW.varOwn); (· rfl)) | (with_reducible refine EW.op ?_)
  | ((with_reducible refine RW2.ci ?_ ?_); (· walk_at "p")) | ((with_reducible refine RW2.uMuli ?_ ?_); (· walk_at "p")))
local macro_rules | `(tactic| walk_at "d") => `(tactic| first
  | refine RW2.uEqi ?_ | refine RW2.uEqs ?_ | refine RW2.uEqb ?_ | refine RW2.uNei ?_ | refine RW2.uNes ?_ | refine RW2.uNeb ?_
  | refine RW2.uIxT rfl ?_ | refine RW2.uIxL rfl ?_
  | refine RCW.len rfl ?_ | refine RCW.isi (b := false) (fun _ h => nomatch h) (fun _ h => nomatch h) rfl ?_ | refine RCW.isi (b := true) (fun _ h => nomatch h) (fun _ h => nomatch h) rfl ?_ | refine TW.tru ?_
  | refine ⟨_, rfl, ⟨by walk_at "p", by walk_at "p", by walk_at "p"⟩, fun _ _ _ _ _ => ?_⟩
  | refine ⟨(fun _ h => nomatch h), (fun _ h => nomatch h), false, false, false, rfl, rfl, rfl, ?_⟩ | refine ⟨(fun _ h => nomatch h), (fun _ h => nomatch h), true, false, true, rfl, rfl, rfl, ?_⟩ | refine ⟨(fun _ h => nomatch h), (fun _ h => nomatch h), false, true, true, rfl, rfl, rfl, ?_⟩
  | refine ⟨le1000 (by first | decide | (simp only [List.length_map, List.length_cons, List.length_nil, List.length_append, List.length_set]; first | done | omega)), ?_⟩ | refine ⟨_, rfl, ?_⟩)
local macro_rules | `(tactic| walk_at "e") => `(tactic| repeat (first | ((with_reducible refine EW.isi2 ?_ ?_); (· rfl)) | ((with_reducible apply EW.lenO); (· exact ⟨rfl, rfl⟩); (· rfl)) | walk_at "s" | walk_at "v" | walk_at "d"))
local macro_rules | `(tactic| walk_at "c") => `(tactic| first | refine br_t rfl ?_ | refine br_f rfl ?_ | refine br_t (decide_eq_true rfl) ?_)
local macro_rules | `(tactic| walk_at "w") => `(tactic| repeat (first | ((with_reducible refine EW.isi2 ?_ ?_); (· rfl)) | ((with_reducible apply EW.lenO); (· exact ⟨rfl, rfl⟩); (· rfl)) | walk_at "s" | walk_at "v" | (with_reducible first | refine SW.seq ?_ | refine SW.ite ?_ | refine SW.ret ?_ | refine SW.next ?_) | walk_at "d" | walk_at "c"))
section
variable {P : Program} {w : World} {K : Frag} {mg : Str → Option Value} {base : Heap}
def sp_laid_rightly : PV := fun ds P => ∃ (ls : List (Str × Int)) (ss : List Int) (d : D), ds = [.lst (ls.map ldD), .lst (ss.map .int), d] ∧ (LoadsOk ls ∧ StrengthsOk ss ∧ (ThingOk d ∨ ∃ l, d = .tup l)) ∧ ∀ b : Bool, (b = true ↔ LaidP ls ss d) → P (.bl b)
theorem ok_laid_rightly (T : Txt K mg) : FnOk P w K mg base CX0 1 T.f_laid_rightly T.fd_laid_rightly ["loads", "strengths", "rows"] (spV K sp_laid_rightly) := by
  refine T.F_laid_rightly.ok sc_laid_rightly (fun vs H Q E h => lenV (fun ds P h => by obtain ⟨_, _, _, rfl, _⟩ := h; rfl) h) (fun cdv A outer s H vs Q E hr h => ⟨_, (pss_cons (ps_if ((pw_or (pt_not (pt_tru (pe_callB (k_isi (K' := K) rfl) (by rfl) T.b_isinstance boot_isinstance (pa_cons (pv 2) (pa_cons (pe_bltn (v := .ty "list") (by rfl) T.b_list boot_list rfl) pa_nil))) (fun _ => rfl))) (pw_or1 (pt_cmpR (k_ne (K' := K) rfl (hu64 hr)) (pe_callB (k_len (K' := K) rfl) (by rfl) T.b_len boot_len (pa_cons (pv 2) pa_nil)) (pe_callB (k_len (K' := K) rfl) (by rfl) T.b_len boot_len (pa_cons (pv 1) pa_nil)) (nomark _))))).pt (pss_one (ps_ret pe_bl)) pss_nil)
    (pss_cons (ps_asg (pe_tup (pa_cons (pe_callTy (k_dict (K' := K) rfl rfl) (by rfl) T.b_dict boot_dict (pa_cons (pv 0) pa_nil)) (pa_cons (pe_lst pa_nil) pa_nil))) (k_gtup (K' := K) (n := 2) rfl rfl (pgs_cons (pg_name (i := 3) sc_laid_rightly.nd rfl (Or.inr rfl)) (pgs_cons (pg_name (i := 4) sc_laid_rightly.nd rfl (Or.inl rfl)) pgs_nil)) rfl rfl))
    (pss_cons (ps_for PassesOwn.never rfl (k_pzip (K' := K) rfl (by rfl) T.b_zip (pa_cons (pv 2) (pa_cons (pv 1) pa_nil))) (k_gtup (K' := K) (n := 2) rfl rfl (pgs_cons (pg_name (i := 5) sc_laid_rightly.nd rfl (Or.inl rfl)) (pgs_cons (pg_name (i := 6) sc_laid_rightly.nd rfl (Or.inl rfl)) pgs_nil)) rfl rfl)
    (pss_cons (ps_if ((pw_or (pt_not (pt_tru (pe_callB (k_isi (K' := K) rfl) (by rfl) T.b_isinstance boot_isinstance (pa_cons (pv 5) (pa_cons (pe_bltn (v := .ty "list") (by rfl) T.b_list boot_list rfl) pa_nil))) (fun _ => rfl))) (pw_or1 (pt_not (pt_tru (pe_callB (k_all (K' := K) rfl rfl) (by rfl) T.b_all boot_all (pa_cons (pe_lc (own := [("name", 7)]) rfl sc_laid_rightly.nd (k_plist (K' := K) rfl (pv 5)) (blkOk_by (N := N_laid_rightly) (sc := defScope s_laid_rightly) (by decide +kernel)) (fun _ _ _ _ _ => (pg_name (i := 7) sc_laid_rightly.nd rfl (Or.inl rfl))) (fun _ _ _ _ _ => pts_nil) (fun _ _ _ _ _ => (pe_and (pe_callB (k_isi (K' := K) rfl) (by rfl) T.b_isinstance boot_isinstance (pa_cons (pv 7) (pa_cons (pe_bltn (v := .ty "str") (by rfl) T.b_str boot_str rfl) pa_nil))) (pe_one (pe_cmp (pc_din (hu_of hr) (pv 7) (pv 3))))))) pa_nil)) (fun _ => rfl)))))).pt (pss_one (ps_ret pe_bl)) pss_nil)
    (pss_cons (ps_if (pt_cmpR op_gt (pe_callB (k_sum (K' := K) rfl rfl) (by rfl) T.b_sum boot_sum (pa_cons (pe_lc (own := [("name", 7)]) rfl sc_laid_rightly.nd (k_plist (K' := K) rfl (pv 5)) (blkOk_by (N := N_laid_rightly) (sc := defScope s_laid_rightly) (by decide +kernel)) (fun _ _ _ _ _ => (pg_name (i := 7) sc_laid_rightly.nd rfl (Or.inl rfl))) (fun _ _ _ _ _ => pts_nil) (fun _ _ _ _ _ => (pe_dget (hu_of hr) (pv 3) (pv 7) (fun _ _ => rfl)))) pa_nil)) (pv 6) (nomark _)) (pss_one (ps_ret pe_bl)) pss_nil)
    (pss_one (ps_expr (pe_bm PySem.F.plainAttrs_list PySem.F.slot_list_extend PySem.F.type_list_extend mt_extend (pv 4) (pa_cons (pv 5) pa_nil)))))))
    (pss_one (ps_ret (pe_cmpR (k_eq (K' := K) rfl (hu64 hr)) (pe_callB (k_srt (K' := K) rfl rfl) (by rfl) T.b_sorted boot_sorted (pa_cons (pv 4) pa_nil)) (pe_callB (k_srt (K' := K) rfl rfl) (by rfl) T.b_sorted boot_sorted (pa_cons (pv 3) pa_nil)) (nomark _))))))), runV (n := 3) (fun ds P h => by obtain ⟨_, _, _, rfl, _⟩ := h; rfl) (by decide) ?_ h⟩)
  rintro ds P ⟨ls, ss, d, rfl, ⟨hls, hss, hd⟩, hP⟩
  have hl20 := hls.1
  have hs10 := hss.1
  have no : ¬ LaidP ls ss d → P (.bl false) := fun h => hP false ⟨(fun e => nomatch e), fun e => (h e).elim⟩
  rcases hd with ⟨xs, rfl, hx12, hxi, hsz⟩ | ⟨l, rfl⟩
  · refine SW.seq (SW.ite ?_)
    walk_at "w"
    refine ⟨fun h => ?_, fun h => ?_⟩
    · walk_at "w"
      refine no fun hl => ?_
      obtain ⟨nss, e, hl, _⟩ := hl
      injection e with e
      subst e
      simp [hl] at h
    · have hxl : xs.length = ss.length := by
        simp only [Bool.not_eq_false', decide_eq_true_eq, List.length_map] at h; omega
      walk_at "w"
      refine SW.asgTup2F ?_
      walk_at "e"
      rw [show ls.map ldD = (ls.map fK).map prD by rw [List.map_map]; rfl]
      refine RCW.dict ?_
      rw [merge_form]
      refine EF.lst (AW.nil ⟨le1000 (by simp), fun p => ?_⟩)
      have hkl := kvs_len ls
      generalize hkv : kvsOf ls = kvs at *
      refine SW.seq (SW.for_ (is := [5, 6]) (IW.zipA ?_))
      walk_at "e"
      refine ⟨xs, ss.map .int, .inl rfl, fun i ρ c => ∃ (p : Addr) (nss : List (List Str)) (s1 s2 : Slot), ρ = [.val (.lst ((ls.map fK).map prD)), .val (.lst (ss.map .int)), .val (.lst xs), .val (dicD (kvs.map fK)), .own p (.lst (nss.flatten.map .str)), s1, s2, .no] ∧ nss.length = i ∧ xs.take i = nss.map rowD ∧ (∀ q ∈ nss.zip ss, GoodRow kvs q) ∧ c = 0, ⟨p, [], _, _, rfl, rfl, rfl, (fun _ h => nomatch h), rfl⟩, ?_, ?_⟩
      · rintro i d ρ1 c2 hi ⟨p, nss, s1, s2, rfl, hnl, hnt, hng, rfl⟩
        obtain ⟨x, s', hx, hs', rfl⟩ := zipD_get hi
        rw [List.getElem?_map] at hs'
        obtain ⟨s, hs, rfl⟩ : ∃ s, ss[i]? = some s ∧ s' = .int s := by
          cases q : ss[i]? with
          | none => rw [q] at hs'; cases hs'
          | some s => rw [q] at hs'; cases hs'; exact ⟨s, rfl, rfl⟩
        have hat : LaidP ls ss (.lst xs) → ∃ ns, x = rowD ns ∧ GoodRow kvs (ns, s) := fun hl => hkv ▸ laid_at hl hx hs
        obtain ⟨cs, rfl | rfl, hcs⟩ := hxi x (List.mem_of_getElem? hx)
        · refine GW.nm2 (SW.seq (SW.ite ?_))
          walk_at "w"
          have hcl : cs.length ≤ 21 := Nat.le_trans (mem_le_sum (List.mem_map.mpr ⟨_, List.mem_of_getElem? hx, rfl⟩)) hsz
          refine EF.toW (EF.lcMap cs id (cellB kvs) .bl rfl (IW.list ?_))
          walk_at "w"
          refine ⟨by rw [List.map_id], le1000 (by omega), fun d hd => GW.name ⟨rfl, ?_⟩, ?_⟩
          · obtain rfl | ⟨b, rfl⟩ | ⟨i, rfl⟩ | ⟨s, rfl⟩ | ⟨l, rfl | rfl, _⟩ := hcs d hd
            · walk_at "w"
              exact ⟨rfl, rfl⟩
            · walk_at "w"
              exact ⟨rfl, rfl⟩
            · walk_at "w"
              exact ⟨rfl, rfl⟩
            · walk_at "w"
              refine EW.din ?_
              walk_at "w"
              refine ⟨_, _, .inr s, rfl, rfl, ?_⟩
              rw [look_wt, Option.isSome_map]
              exact ⟨rfl, rfl⟩
            · walk_at "w"
              exact ⟨rfl, rfl⟩
            · walk_at "w"
              exact ⟨rfl, rfl⟩
          · walk_at "w"
            refine RCW.all ?_
            walk_at "w"
            refine ⟨fun h => ?_, fun h => ?_⟩
            · walk_at "w"
              refine no fun hl => ?_
              obtain ⟨ns, hn, hg⟩ := hat hl
              injection hn with hn
              subst hn
              rw [names_cells hg.1] at h
              cases h
            · have h : (cs.map (cellB kvs)).all id = true := by simpa using h
              obtain ⟨ns, rfl, hns⟩ := cells_names h
              walk_at "w"
              refine EF.toW (EF.lcMap ns .str (fun n => (wtS kvs n).getD 0) .int rfl (IW.list ?_))
              walk_at "w"
              rw [List.length_map] at hcl
              refine ⟨rfl, le1000 (by omega), fun n hn => GW.name ⟨rfl, EW.dget ?_⟩, ?_⟩
              · walk_at "w"
                obtain ⟨w, hw⟩ := Option.isSome_iff_exists.mp (hns n hn)
                refine ⟨_, _, .inr n, .int w, rfl, rfl, by rw [look_wt, hw]; rfl, ?_⟩
                rw [hw]; exact ⟨rfl, rfl⟩
              · walk_at "w"
                refine RCW.sum ?_
                walk_at "w"
                refine ⟨fun h => ?_, fun h => ?_⟩
                · walk_at "w"
                  refine no fun hl => ?_
                  obtain ⟨ns', hn, hg⟩ := hat hl
                  obtain rfl : ns = ns' := row_inj hn
                  have h := of_decide_eq_true h
                  have : (ns.map fun n => (wtS kvs n).getD 0).sum ≤ s := hg.2
                  omega
                · walk_at "w"
                  refine SW.ext ⟨_, _, rfl, EW.var rfl ⟨_, rfl, le1000 ?_, p, nss ++ [ns], .val (.lst (ns.map .str)), .val (.int s), ?_, ?_, ?_, ?_, rfl⟩⟩
                  · have h1 := flat_size nss
                    have h2 : ((xs.take i).map szI).sum ≤ (xs.map szI).sum := sum_take szI xs i
                    rw [hnt, h1] at h2
                    rw [List.length_map, List.length_map]; omega
                  · rw [List.flatten_append, List.map_append, List.flatten_singleton]; rfl
                  · rw [List.length_append, hnl]; rfl
                  · rw [List.take_add_one, hx, hnt, List.map_append]; rfl
                  · intro q hq
                    have hil : i < ss.length := (List.getElem?_eq_some_iff.mp hs).1
                    rw [zip_snoc nss ns (by omega) (hnl ▸ hs)] at hq
                    rcases List.mem_append.mp hq with q | q
                    · exact hng _ q
                    · obtain rfl := List.mem_singleton.mp q
                      have h := of_decide_eq_false h
                      refine ⟨hns, ?_⟩
                      show (ns.map fun n => (wtS kvs n).getD 0).sum ≤ s
                      omega
        · refine GW.nm2 (SW.seq (SW.ite ?_))
          walk_at "w"
          refine no fun hl => ?_
          obtain ⟨ns, h, _⟩ := hat hl
          cases h
      · rintro ρ1 c2 ⟨p, nss, s1, s2, rfl, hnl, hnt, hng, rfl⟩
        rw [zipD_length, List.length_map, ← hxl, Nat.min_self] at hnl hnt
        rw [List.take_length] at hnt
        subst hnt
        have hfl : nss.flatten.length ≤ 21 := flat_size nss ▸ hsz
        have hok : ∀ n ∈ nss.flatten, PyData.strOk n = true := by
          intro n hn
          obtain ⟨ns, hns, hn⟩ := List.mem_flatten.mp hn
          obtain ⟨k, hk, rfl⟩ := List.getElem_of_mem hns
          have hk2 : k < ss.length := by omega
          have hg := hng (nss[k], ss[k]) (List.mem_of_getElem? (i := k) (by rw [List.getElem?_zip_eq_some]; exact ⟨List.getElem?_eq_getElem hk, List.getElem?_eq_getElem hk2⟩))
          exact wt_ok hls (hkv ▸ hg.1 n hn)
        have hok2 : ∀ n ∈ kvs.map (·.1), PyData.strOk n = true := by
          intro n hn
          obtain ⟨q, hq, rfl⟩ := List.mem_map.mp hn
          exact key_ok hls (hkv ▸ hq)
        have hdic : dicD (kvs.map fK) = .dic ((kvs.map (·.1)).map Sum.inr) ((kvs.map fK).map (·.2)) := by
          show D.dic ((kvs.map fK).map (·.1)) _ = _
          congr 1
          rw [List.map_map, List.map_map]; rfl
        rw [hdic]
        refine SW.freeze 4 rfl (SW.ret ?_)
        walk_at "e"
        refine RCW.ofF (RCF.uSorteds (by omega) fun ms hp hs => ?_)
        walk_at "e"
        refine RCW.ofF (RCF.uSortedd (by rw [List.length_map]; omega) fun ms2 hp2 hs2 => ?_)
        refine RW2.uEqD (cmp_strs fun s h => hok s (hp.mem_iff.mp h)) (cmp_strs fun s h => hok2 s (hp2.mem_iff.mp h)) (hP _ ?_)
        rw [eqv_sorted hp hs hp2 hs2]
        constructor
        · intro h
          exact ⟨nss, rfl, by rw [hnl]; simpa using hxl, hkv ▸ hng, hkv ▸ h⟩
        · rintro ⟨nss', e, _, _, h⟩
          injection e with e
          obtain rfl := rows_inj e
          exact hkv ▸ h
  · refine SW.seq (SW.ite ?_)
    walk_at "w"
    exact no fun ⟨_, h, _⟩ => nomatch h
end
end K12
namespace K12
open PySem PySem.Spec PyProof.Rows L2 Q
local macro_rules | `(tactic| walk_at "p") => `(tactic| first | omega | (simp only [List.length_map, List.length_cons, List.length_nil, List.length_append, List.length_set]; first | done | omega) | (refine .inl ⟨?_, ?_⟩ <;> omega) | (refine .inr ⟨?_, ?_⟩ <;> omega) | (refine ⟨?_, ?_⟩ <;> omega) | exact .inr (b01 _) | exact .inl (b01 _) | exact le1000 (by first | decide | (simp only [List.length_map, List.length_cons, List.length_nil, List.length_append, List.length_set]; first | done | omega) | omega) | decide)
local macro_rules | `(tactic| walk_at "s") => `(tactic| with_reducible (first
  | refine EW.cint ?_ | refine EW.cstr ?_ | refine EW.cbl ?_ | refine EW.cnon ?_ | refine EW.cty ?_
  | refine AW.nil ?_ | refine AW.cons ?_
  | refine EW.ite ?_ | refine EW.andV ?_ | refine EW.orV ?_ | refine EW.notV ?_ | refine TW.test ?_ | refine TW.tB ?_ | refine TW.and ?_ | refine TW.or ?_ | refine TW.not ?_ | refine TW.yes ?_
  | refine EW.callV ?_ | refine EW.cb ?_ | refine EW.neg ?_ | refine EW.tup ?_ | refine EF.toW (EF.lst ?_) | refine EF.lst ?_
  | refine RW2.ii ?_ | refine RW2.ib ?_ | refine RW2.uAddi ?_ | refine RW2.isN ?_ | refine RW2.notN ?_ | refine RW2.isB ?_ | refine RW2.notB ?_
  | refine RCW.abs ?_ | refine RCW.max2 ?_ | refine RCW.min2 ?_ | refine RCW.inti ?_ | refine RCW.intb ?_))
local macro_rules | `(tactic| walk_at "v") => `(tactic| first
  | ((with_reducible apply EW.var); (· rfl)) | ((with_reducible refine EW.callB ?_ ?_); (· rfl))
  | ((with_reducible refine EW.bx0 ?_ fun _ => ?_); (· exact ⟨rfl, rfl⟩)) | ((with_reducible refine EW.bx1 ?_ fun _ _ _ => ?_); (· exact ⟨rfl, rfl⟩)) | ((with_reducible refine EW.bx2 ?_ ?_); (· exact ⟨rfl, rfl⟩))
  | ((with_reducible apply EW.ixO); (· exact ⟨rfl, rfl⟩)) | ((with_reducible apply EW.varOwn); (· rfl)) | (with_reducible refine EW.op ?_)
  | ((with_reducible refine RW2.ci ?_ ?_); (· walk_at "p")) | ((with_reducible refine RW2.uMuli ?_ ?_); (· walk_at "p")))
local macro_rules | `(tactic| walk_at "d") => `(tactic| first
  | refine RW2.uEqi ?_ | refine RW2.uEqs ?_ | refine RW2.uEqb ?_ | refine RW2.uNei ?_ | refine RW2.uNes ?_ | refine RW2.uNeb ?_
  | refine RW2.uIxT rfl ?_ | refine RW2.uIxL rfl ?_
  | refine RCW.len rfl ?_ | refine RCW.isi (b := false) (fun _ h => nomatch h) (fun _ h => nomatch h) rfl ?_ | refine RCW.isi (b := true) (fun _ h => nomatch h) (fun _ h => nomatch h) rfl ?_ | refine TW.tru ?_
  | refine ⟨_, rfl, ⟨by walk_at "p", by walk_at "p", by walk_at "p"⟩, fun _ _ _ _ _ => ?_⟩
  | refine ⟨(fun _ h => nomatch h), (fun _ h => nomatch h), false, false, false, rfl, rfl, rfl, ?_⟩ | refine ⟨(fun _ h => nomatch h), (fun _ h => nomatch h), true, false, true, rfl, rfl, rfl, ?_⟩ | refine ⟨(fun _ h => nomatch h), (fun _ h => nomatch h), false, true, true, rfl, rfl, rfl, ?_⟩
  | refine ⟨le1000 (by first | decide | (simp only [List.length_map, List.length_cons, List.length_nil, List.length_append, List.length_set]; first | done | omega)), ?_⟩ | refine ⟨_, rfl, ?_⟩)
local macro_rules | `(tactic| walk_at "e") => `(tactic| repeat (first | ((with_reducible refine EW.isi2 ?_ ?_); (· rfl)) | ((with_reducible apply EW.lenO); (· exact ⟨rfl, rfl⟩); (· rfl)) | walk_at "s" | walk_at "v" | walk_at "d"))
local macro_rules | `(tactic| walk_at "c") => `(tactic| first | refine br_t rfl ?_ | refine br_f rfl ?_ | refine br_t (decide_eq_true rfl) ?_)
local macro_rules | `(tactic| walk_at "w") => `(tactic| repeat (first | ((with_reducible refine EW.isi2 ?_ ?_); (· rfl)) | ((with_reducible apply EW.lenO); (· exact ⟨rfl, rfl⟩); (· rfl)) | walk_at "s" | walk_at "v" | (with_reducible first | refine SW.seq ?_ | refine SW.ite ?_ | refine SW.ret ?_ | refine SW.next ?_) | walk_at "d" | walk_at "c"))
section
variable {P : Program} {w : World} {K : Frag} {mg : Str → Option Value} {base : Heap}
def sp__law_laid : PV := fun ds P => ∃ (ls : List (Str × Int)) (ss : List Int) (d : D), ds = [.lst (ls.map ldD), .lst (ss.map .int), d] ∧ (LoadsOk ls ∧ StrengthsOk ss ∧ (ThingOk d ∨ ∃ l, d = .tup l)) ∧ ∀ b : Bool, (b = true ↔ LaidP ls ss d) → P (.bl b)
theorem ok__law_laid (T : Txt K mg) : FnOk P w K mg base CX0 1 T.f__law_laid T.fd__law_laid ["_law_loads_here", "_law_strengths_here", "_law_rows"] (spV K sp__law_laid) := by
  refine T.F__law_laid.ok sc__law_laid (fun vs H Q E h => lenV (fun ds P h => by obtain ⟨_, _, _, rfl, _⟩ := h; rfl) h) (fun cdv A outer s H vs Q E hr h => ⟨_, (pss_cons (ps_if ((pw_or (pt_not (pt_tru (pe_callB (k_isi (K' := K) rfl) (by rfl) T.b_isinstance boot_isinstance (pa_cons (pv 2) (pa_cons (pe_bltn (v := .ty "list") (by rfl) T.b_list boot_list rfl) pa_nil))) (fun _ => rfl))) (pw_or1 (pt_cmpR (k_ne (K' := K) rfl (hu64 hr)) (pe_callB (k_len (K' := K) rfl) (by rfl) T.b_len boot_len (pa_cons (pv 2) pa_nil)) (pe_callB (k_len (K' := K) rfl) (by rfl) T.b_len boot_len (pa_cons (pv 1) pa_nil)) (nomark _))))).pt (pss_one (ps_ret pe_bl)) pss_nil)
    (pss_cons (ps_asg (pe_tup (pa_cons (pe_callTy (k_dict (K' := K) rfl rfl) (by rfl) T.b_dict boot_dict (pa_cons (pv 0) pa_nil)) (pa_cons (pe_lst pa_nil) pa_nil))) (k_gtup (K' := K) (n := 2) rfl rfl (pgs_cons (pg_name (i := 3) sc__law_laid.nd rfl (Or.inr rfl)) (pgs_cons (pg_name (i := 4) sc__law_laid.nd rfl (Or.inl rfl)) pgs_nil)) rfl rfl))
    (pss_cons (ps_for PassesOwn.never rfl (k_pzip (K' := K) rfl (by rfl) T.b_zip (pa_cons (pv 2) (pa_cons (pv 1) pa_nil))) (k_gtup (K' := K) (n := 2) rfl rfl (pgs_cons (pg_name (i := 5) sc__law_laid.nd rfl (Or.inl rfl)) (pgs_cons (pg_name (i := 6) sc__law_laid.nd rfl (Or.inl rfl)) pgs_nil)) rfl rfl)
    (pss_cons (ps_if ((pw_or (pt_not (pt_tru (pe_callB (k_isi (K' := K) rfl) (by rfl) T.b_isinstance boot_isinstance (pa_cons (pv 5) (pa_cons (pe_bltn (v := .ty "list") (by rfl) T.b_list boot_list rfl) pa_nil))) (fun _ => rfl))) (pw_or1 (pt_not (pt_tru (pe_callB (k_all (K' := K) rfl rfl) (by rfl) T.b_all boot_all (pa_cons (pe_lc (own := [("_law_name", 7)]) rfl sc__law_laid.nd (k_plist (K' := K) rfl (pv 5)) (blkOk_by (N := N__law_laid) (sc := defScope s__law_laid) (by decide +kernel)) (fun _ _ _ _ _ => (pg_name (i := 7) sc__law_laid.nd rfl (Or.inl rfl))) (fun _ _ _ _ _ => pts_nil) (fun _ _ _ _ _ => (pe_and (pe_callB (k_isi (K' := K) rfl) (by rfl) T.b_isinstance boot_isinstance (pa_cons (pv 7) (pa_cons (pe_bltn (v := .ty "str") (by rfl) T.b_str boot_str rfl) pa_nil))) (pe_one (pe_cmp (pc_din (hu_of hr) (pv 7) (pv 3))))))) pa_nil)) (fun _ => rfl)))))).pt (pss_one (ps_ret pe_bl)) pss_nil)
    (pss_cons (ps_if (pt_cmpR op_gt (pe_callB (k_sum (K' := K) rfl rfl) (by rfl) T.b_sum boot_sum (pa_cons (pe_lc (own := [("_law_name", 7)]) rfl sc__law_laid.nd (k_plist (K' := K) rfl (pv 5)) (blkOk_by (N := N__law_laid) (sc := defScope s__law_laid) (by decide +kernel)) (fun _ _ _ _ _ => (pg_name (i := 7) sc__law_laid.nd rfl (Or.inl rfl))) (fun _ _ _ _ _ => pts_nil) (fun _ _ _ _ _ => (pe_dget (hu_of hr) (pv 3) (pv 7) (fun _ _ => rfl)))) pa_nil)) (pv 6) (nomark _)) (pss_one (ps_ret pe_bl)) pss_nil)
    (pss_one (ps_expr (pe_bm PySem.F.plainAttrs_list PySem.F.slot_list_extend PySem.F.type_list_extend mt_extend (pv 4) (pa_cons (pv 5) pa_nil)))))))
    (pss_one (ps_ret (pe_cmpR (k_eq (K' := K) rfl (hu64 hr)) (pe_callB (k_srt (K' := K) rfl rfl) (by rfl) T.b_sorted boot_sorted (pa_cons (pv 4) pa_nil)) (pe_callB (k_srt (K' := K) rfl rfl) (by rfl) T.b_sorted boot_sorted (pa_cons (pv 3) pa_nil)) (nomark _))))))), runV (n := 3) (fun ds P h => by obtain ⟨_, _, _, rfl, _⟩ := h; rfl) (by decide) ?_ h⟩)
  rintro ds P ⟨ls, ss, d, rfl, ⟨hls, hss, hd⟩, hP⟩
  have hl20 := hls.1
  have hs10 := hss.1
  have no : ¬ LaidP ls ss d → P (.bl false) := fun h => hP false ⟨(fun e => nomatch e), fun e => (h e).elim⟩
  rcases hd with ⟨xs, rfl, hx12, hxi, hsz⟩ | ⟨l, rfl⟩
  · refine SW.seq (SW.ite ?_)
    walk_at "w"
    refine ⟨fun h => ?_, fun h => ?_⟩
    · walk_at "w"
      refine no fun hl => ?_
      obtain ⟨nss, e, hl, _⟩ := hl
      injection e with e
      subst e
      simp [hl] at h
    · have hxl : xs.length = ss.length := by
        simp only [Bool.not_eq_false', decide_eq_true_eq, List.length_map] at h; omega
      walk_at "w"
      refine SW.asgTup2F ?_
      walk_at "e"
      rw [show ls.map ldD = (ls.map fK).map prD by rw [List.map_map]; rfl]
      refine RCW.dict ?_
      rw [merge_form]
      refine EF.lst (AW.nil ⟨le1000 (by simp), fun p => ?_⟩)
      have hkl := kvs_len ls
      generalize hkv : kvsOf ls = kvs at *
      refine SW.seq (SW.for_ (is := [5, 6]) (IW.zipA ?_))
      walk_at "e"
      refine ⟨xs, ss.map .int, .inl rfl, fun i ρ c => ∃ (p : Addr) (nss : List (List Str)) (s1 s2 : Slot), ρ = [.val (.lst ((ls.map fK).map prD)), .val (.lst (ss.map .int)), .val (.lst xs), .val (dicD (kvs.map fK)), .own p (.lst (nss.flatten.map .str)), s1, s2, .no] ∧ nss.length = i ∧ xs.take i = nss.map rowD ∧ (∀ q ∈ nss.zip ss, GoodRow kvs q) ∧ c = 0, ⟨p, [], _, _, rfl, rfl, rfl, (fun _ h => nomatch h), rfl⟩, ?_, ?_⟩
      · rintro i d ρ1 c2 hi ⟨p, nss, s1, s2, rfl, hnl, hnt, hng, rfl⟩
        obtain ⟨x, s', hx, hs', rfl⟩ := zipD_get hi
        rw [List.getElem?_map] at hs'
        obtain ⟨s, hs, rfl⟩ : ∃ s, ss[i]? = some s ∧ s' = .int s := by
          cases q : ss[i]? with
          | none => rw [q] at hs'; cases hs'
          | some s => rw [q] at hs'; cases hs'; exact ⟨s, rfl, rfl⟩
        have hat : LaidP ls ss (.lst xs) → ∃ ns, x = rowD ns ∧ GoodRow kvs (ns, s) := fun hl => hkv ▸ laid_at hl hx hs
        obtain ⟨cs, rfl | rfl, hcs⟩ := hxi x (List.mem_of_getElem? hx)
        · refine GW.nm2 (SW.seq (SW.ite ?_))
          walk_at "w"
          have hcl : cs.length ≤ 21 := Nat.le_trans (mem_le_sum (List.mem_map.mpr ⟨_, List.mem_of_getElem? hx, rfl⟩)) hsz
          refine EF.toW (EF.lcMap cs id (cellB kvs) .bl rfl (IW.list ?_))
          walk_at "w"
          refine ⟨by rw [List.map_id], le1000 (by omega), fun d hd => GW.name ⟨rfl, ?_⟩, ?_⟩
          · obtain rfl | ⟨b, rfl⟩ | ⟨i, rfl⟩ | ⟨s, rfl⟩ | ⟨l, rfl | rfl, _⟩ := hcs d hd
            · walk_at "w"
              exact ⟨rfl, rfl⟩
            · walk_at "w"
              exact ⟨rfl, rfl⟩
            · walk_at "w"
              exact ⟨rfl, rfl⟩
            · walk_at "w"
              refine EW.din ?_
              walk_at "w"
              refine ⟨_, _, .inr s, rfl, rfl, ?_⟩
              rw [look_wt, Option.isSome_map]
              exact ⟨rfl, rfl⟩
            · walk_at "w"
              exact ⟨rfl, rfl⟩
            · walk_at "w"
              exact ⟨rfl, rfl⟩
          · walk_at "w"
            refine RCW.all ?_
            walk_at "w"
            refine ⟨fun h => ?_, fun h => ?_⟩
            · walk_at "w"
              refine no fun hl => ?_
              obtain ⟨ns, hn, hg⟩ := hat hl
              injection hn with hn
              subst hn
              rw [names_cells hg.1] at h
              cases h
            · have h : (cs.map (cellB kvs)).all id = true := by simpa using h
              obtain ⟨ns, rfl, hns⟩ := cells_names h
              walk_at "w"
              refine EF.toW (EF.lcMap ns .str (fun n => (wtS kvs n).getD 0) .int rfl (IW.list ?_))
              walk_at "w"
              rw [List.length_map] at hcl
              refine ⟨rfl, le1000 (by omega), fun n hn => GW.name ⟨rfl, EW.dget ?_⟩, ?_⟩
              · walk_at "w"
                obtain ⟨w, hw⟩ := Option.isSome_iff_exists.mp (hns n hn)
                refine ⟨_, _, .inr n, .int w, rfl, rfl, by rw [look_wt, hw]; rfl, ?_⟩
                rw [hw]; exact ⟨rfl, rfl⟩
              · walk_at "w"
                refine RCW.sum ?_
                walk_at "w"
                refine ⟨fun h => ?_, fun h => ?_⟩
                · walk_at "w"
                  refine no fun hl => ?_
                  obtain ⟨ns', hn, hg⟩ := hat hl
                  obtain rfl : ns = ns' := row_inj hn
                  have h := of_decide_eq_true h
                  have : (ns.map fun n => (wtS kvs n).getD 0).sum ≤ s := hg.2
                  omega
                · walk_at "w"
                  refine SW.ext ⟨_, _, rfl, EW.var rfl ⟨_, rfl, le1000 ?_, p, nss ++ [ns], .val (.lst (ns.map .str)), .val (.int s), ?_, ?_, ?_, ?_, rfl⟩⟩
                  · have h1 := flat_size nss
                    have h2 : ((xs.take i).map szI).sum ≤ (xs.map szI).sum := sum_take szI xs i
                    rw [hnt, h1] at h2
                    rw [List.length_map, List.length_map]; omega
                  · rw [List.flatten_append, List.map_append, List.flatten_singleton]; rfl
                  · rw [List.length_append, hnl]; rfl
                  · rw [List.take_add_one, hx, hnt, List.map_append]; rfl
                  · intro q hq
                    have hil : i < ss.length := (List.getElem?_eq_some_iff.mp hs).1
                    rw [zip_snoc nss ns (by omega) (hnl ▸ hs)] at hq
                    rcases List.mem_append.mp hq with q | q
                    · exact hng _ q
                    · obtain rfl := List.mem_singleton.mp q
                      have h := of_decide_eq_false h
                      refine ⟨hns, ?_⟩
                      show (ns.map fun n => (wtS kvs n).getD 0).sum ≤ s
                      omega
        · refine GW.nm2 (SW.seq (SW.ite ?_))
          walk_at "w"
          refine no fun hl => ?_
          obtain ⟨ns, h, _⟩ := hat hl
          cases h
      · rintro ρ1 c2 ⟨p, nss, s1, s2, rfl, hnl, hnt, hng, rfl⟩
        rw [zipD_length, List.length_map, ← hxl, Nat.min_self] at hnl hnt
        rw [List.take_length] at hnt
        subst hnt
        have hfl : nss.flatten.length ≤ 21 := flat_size nss ▸ hsz
        have hok : ∀ n ∈ nss.flatten, PyData.strOk n = true := by
          intro n hn
          obtain ⟨ns, hns, hn⟩ := List.mem_flatten.mp hn
          obtain ⟨k, hk, rfl⟩ := List.getElem_of_mem hns
          have hk2 : k < ss.length := by omega
          have hg := hng (nss[k], ss[k]) (List.mem_of_getElem? (i := k) (by rw [List.getElem?_zip_eq_some]; exact ⟨List.getElem?_eq_getElem hk, List.getElem?_eq_getElem hk2⟩))
          exact wt_ok hls (hkv ▸ hg.1 n hn)
        have hok2 : ∀ n ∈ kvs.map (·.1), PyData.strOk n = true := by
          intro n hn
          obtain ⟨q, hq, rfl⟩ := List.mem_map.mp hn
          exact key_ok hls (hkv ▸ hq)
        have hdic : dicD (kvs.map fK) = .dic ((kvs.map (·.1)).map Sum.inr) ((kvs.map fK).map (·.2)) := by
          show D.dic ((kvs.map fK).map (·.1)) _ = _
          congr 1
          rw [List.map_map, List.map_map]; rfl
        rw [hdic]
        refine SW.freeze 4 rfl (SW.ret ?_)
        walk_at "e"
        refine RCW.ofF (RCF.uSorteds (by omega) fun ms hp hs => ?_)
        walk_at "e"
        refine RCW.ofF (RCF.uSortedd (by rw [List.length_map]; omega) fun ms2 hp2 hs2 => ?_)
        refine RW2.uEqD (cmp_strs fun s h => hok s (hp.mem_iff.mp h)) (cmp_strs fun s h => hok2 s (hp2.mem_iff.mp h)) (hP _ ?_)
        rw [eqv_sorted hp hs hp2 hs2]
        constructor
        · intro h
          exact ⟨nss, rfl, by rw [hnl]; simpa using hxl, hkv ▸ hng, hkv ▸ h⟩
        · rintro ⟨nss', e, _, _, h⟩
          injection e with e
          obtain rfl := rows_inj e
          exact hkv ▸ h
  · refine SW.seq (SW.ite ?_)
    walk_at "w"
    exact no fun ⟨_, h, _⟩ => nomatch h
end
end K12
namespace K12
open PySem PySem.Spec PyProof.Rows L2 Q
local macro_rules | `(tactic| walk_at "p") => `(tactic| first | omega | (simp only [List.length_map, List.length_cons, List.length_nil, List.length_append, List.length_set]; first | done | omega) | (refine .inl ⟨?_, ?_⟩ <;> omega) | (refine .inr ⟨?_, ?_⟩ <;> omega) | (refine ⟨?_, ?_⟩ <;> omega) | exact .inr (b01 _) | exact .inl (b01 _) | exact le1000 (by first | decide | (simp only [List.length_map, List.length_cons, List.length_nil, List.length_append, List.length_set]; first | done | omega) | omega) | decide)
local macro_rules | `(tactic| walk_at "s") => `(tactic| with_reducible (first
  | refine EW.cint ?_ | refine EW.cstr ?_ | refine EW.cbl ?_ | refine EW.cnon ?_ | refine EW.cty ?_
  | refine AW.nil ?_ | refine AW.cons ?_
  | refine EW.ite ?_ | refine EW.andV ?_ | refine EW.orV ?_ | refine EW.notV ?_ | refine TW.test ?_ | refine TW.tB ?_ | refine TW.and ?_ | refine TW.or ?_ | refine TW.not ?_ | refine TW.yes ?_
  | refine EW.callV ?_ | refine EW.cb ?_ | refine EW.neg ?_ | refine EW.tup ?_ | refine EF.toW (EF.lst ?_) | refine EF.lst ?_
  | refine RW2.ii ?_ | refine RW2.ib ?_ | refine RW2.uAddi ?_ | refine RW2.isN ?_ | refine RW2.notN ?_ | refine RW2.isB ?_ | refine RW2.notB ?_
  | refine RCW.abs ?_ | refine RCW.max2 ?_ | refine RCW.min2 ?_ | refine RCW.inti ?_ | refine RCW.intb ?_))
local macro_rules | `(tactic| walk_at "v") => `(tactic| first
  | ((with_reducible apply EW.var); (· rfl)) | ((with_reducible refine EW.callB ?_ ?_); (· rfl))
  | ((with_reducible refine EW.bx0 ?_ fun _ => ?_); (· exact ⟨rfl, rfl⟩)) | ((with_reducible refine EW.bx1 ?_ fun _ _ _ => ?_); (· exact ⟨rfl, rfl⟩)) | ((with_reducible refine EW.bx2 ?_ ?_); (· exact ⟨rfl, rfl⟩))
  | ((with_reducible apply EW.ixO); (· exact ⟨rfl, rfl⟩)) | ((with_reducible apply EW.varOwn); (· rfl)) | (with_reducible refine EW.op ?_)
  | ((with_reducible refine RW2.ci ?_ ?_); (· walk_at "p")) | ((with_reducible refine RW2.uMuli ?_ ?_); (· walk_at "p")))
local macro_rules | `(tactic| walk_at "d") => `(tactic| first
  | refine RW2.uEqi ?_ | refine RW2.uEqs ?_ | refine RW2.uEqb ?_ | refine RW2.uNei ?_ | refine RW2.uNes ?_ | refine RW2.uNeb ?_
  | refine RW2.uIxT rfl ?_ | refine RW2.uIxL rfl ?_
  | refine RCW.len rfl ?_ | refine RCW.isi (b := false) (fun _ h => nomatch h) (fun _ h => nomatch h) rfl ?_ | refine RCW.isi (b := true) (fun _ h => nomatch h) (fun _ h => nomatch h) rfl ?_ | refine TW.tru ?_
  | refine ⟨_, rfl, ⟨by walk_at "p", by walk_at "p", by walk_at "p"⟩, fun _ _ _ _ _ => ?_⟩
  | refine ⟨(fun _ h => nomatch h), (fun _ h => nomatch h), false, false, false, rfl, rfl, rfl, ?_⟩ | refine ⟨(fun _ h => nomatch h), (fun _ h => nomatch h), true, false, true, rfl, rfl, rfl, ?_⟩ | refine ⟨(fun _ h => nomatch h), (fun _ h => nomatch h), false, true, true, rfl, rfl, rfl, ?_⟩
  | refine ⟨le1000 (by first | decide | (simp only [List.length_map, List.length_cons, List.length_nil, List.length_append, List.length_set]; first | done | omega)), ?_⟩ | refine ⟨_, rfl, ?_⟩)
local macro_rules | `(tactic| walk_at "e") => `(tactic| repeat (first | ((with_reducible refine EW.isi2 ?_ ?_); (· rfl)) | ((with_reducible apply EW.lenO); (· exact ⟨rfl, rfl⟩); (· rfl)) | walk_at "s" | walk_at "v" | walk_at "d"))
local macro_rules | `(tactic| walk_at "c") => `(tactic| first | refine br_t rfl ?_ | refine br_f rfl ?_ | refine br_t (decide_eq_true rfl) ?_)
local macro_rules | `(tactic| walk_at "w") => `(tactic| repeat (first | ((with_reducible refine EW.isi2 ?_ ?_); (· rfl)) | ((with_reducible apply EW.lenO); (· exact ⟨rfl, rfl⟩); (· rfl)) | walk_at "s" | walk_at "v" | (with_reducible first | refine SW.seq ?_ | refine SW.ite ?_ | refine SW.ret ?_ | refine SW.next ?_) | walk_at "d" | walk_at "c"))
section
variable {P : Program} {w : World} {K : Frag} {mg : Str → Option Value} {base : Heap}
/-! ### who bears what -/
theorem sumI_set : ∀ (ls : List Int) (k : Nat) (x y : Int), ls[k]? = some y → (ls.set k x).sum + y = ls.sum + x
  | [], _, _, _, h => nomatch h
  | a :: r, 0, x, y, h => by cases h; simp only [List.set_cons_zero, List.sum_cons]; omega
  | a :: r, k + 1, x, y, h => by
    have := sumI_set r k x y h
    simp only [List.set_cons_succ, List.sum_cons]; omega
def InvG (ss : List Int) (placed : List (Str × Int)) (fs : List Int) : Prop :=
  fs.length = ss.length ∧ ∀ w : Int, 0 < w → (∀ p ∈ placed, w ∣ p.2) → (fs.map (· / w)).sum + (placed.map (·.2)).sum / w = roomZ ss w
theorem InvG.start (ss : List Int) : InvG ss [] ss := ⟨rfl, fun w _ _ => by
  show roomZ ss w + 0 / w = _
  rw [Int.zero_ediv, Int.add_zero]⟩
theorem InvG.step {ss fs : List Int} {placed : List (Str × Int)} {p : Str × Int} {k : Nat} {f : Int} (h : InvG ss placed fs) (hk : fs[k]? = some f) : InvG ss (placed ++ [p]) (fs.set k (f - p.2)) := by
  refine ⟨by rw [List.length_set]; exact h.1, fun w hw hd => ?_⟩
  have h1 := h.2 w hw fun q hq => hd q (List.mem_append_left _ hq)
  have hp := hd p (by simp)
  rw [List.map_set]
  have h2 := sumI_set (fs.map (· / w)) k ((f - p.2) / w) (f / w) (by rw [List.getElem?_map, hk]; rfl)
  have h3 : (f - p.2) / w = f / w - p.2 / w := Int.sub_ediv_of_dvd f hp
  have h4 : ((placed ++ [p]).map (·.2)).sum = (placed.map (·.2)).sum + p.2 := by
    rw [List.map_append, List.sum_append]; simp
  have h5 : ((placed.map (·.2)).sum + p.2) / w = (placed.map (·.2)).sum / w + p.2 / w := Int.add_ediv_of_dvd_right hp
  rw [h4, h5]
  omega
theorem sum_perm {a b : List Int} (h : a.Perm b) : a.sum = b.sum := by
  induction h with
  | nil => rfl
  | cons x _ ih => rw [List.sum_cons, List.sum_cons, ih]
  | swap x y l => simp only [List.sum_cons]; omega
  | trans _ _ h1 h2 => rw [h1, h2]
theorem sum_nonneg' : ∀ {a : List Int}, (∀ x ∈ a, 0 ≤ x) → 0 ≤ a.sum
  | [], _ => by simp
  | x :: r, h => by
    rw [List.sum_cons]
    have := h x (by simp)
    have := sum_nonneg' fun y hy => h y (List.mem_cons_of_mem _ hy)
    omega
theorem some_pos : ∀ {a : List Int}, 1 ≤ a.sum → ∃ x ∈ a, 1 ≤ x
  | [], h => by simp at h
  | x :: r, h => by
    rw [List.sum_cons] at h
    by_cases hx : 1 ≤ x
    · exact ⟨x, by simp, hx⟩
    · obtain ⟨y, hy, h1⟩ := some_pos (a := r) (by omega)
      exact ⟨y, List.mem_cons_of_mem _ hy, h1⟩
theorem InvG.some {ss fs : List Int} {placed rest ls : List (Str × Int)} {p : Str × Int} (h : InvG ss placed fs) (hp : (placed ++ p :: rest).Perm ls) (hpos : ∀ q ∈ ls, 0 < q.2) (hge : ∀ q ∈ placed, p.2 ≤ q.2) (hch : ∀ a ∈ ls, ∀ b ∈ ls, a.2 ≤ b.2 → a.2 ∣ b.2)
    (hfit : unitsZ (ls.map (·.2)) p.2 ≤ roomZ ss p.2) : ∃ f ∈ fs, p.2 ≤ f := by
  have hpm : p ∈ ls := hp.mem_iff.mp (by simp)
  have hw := hpos p hpm
  have hd : ∀ q ∈ placed, p.2 ∣ q.2 := fun q hq => hch p hpm q (hp.mem_iff.mp (by simp [hq])) (hge q hq)
  have h1 := h.2 p.2 hw hd
  have h2 : ((ls.map (·.2)).filter fun w => decide (p.2 ≤ w)).sum = (((placed ++ p :: rest).map (·.2)).filter fun w => decide (p.2 ≤ w)).sum := sum_perm ((hp.symm.map _).filter _)
  have h3 : ((placed.map (·.2)).filter fun w => decide (p.2 ≤ w)) = placed.map (·.2) := by
    rw [List.filter_eq_self]
    intro a ha
    obtain ⟨q, hq, rfl⟩ := List.mem_map.mp ha
    exact decide_eq_true (hge q hq)
  have h4 : 0 ≤ ((rest.map (·.2)).filter fun w => decide (p.2 ≤ w)).sum := sum_nonneg' fun x hx => by
    have := of_decide_eq_true (List.mem_filter.mp hx).2
    omega
  rw [List.map_append, List.map_cons, List.filter_append, List.filter_cons, if_pos (by simp), h3, List.sum_append, List.sum_cons] at h2
  unfold unitsZ at hfit
  rw [h2] at hfit
  have h5 : ((placed.map (·.2)).sum + p.2) / p.2 ≤ ((placed.map (·.2)).sum + (p.2 + ((rest.map (·.2)).filter fun w => decide (p.2 ≤ w)).sum)) / p.2 := Int.ediv_le_ediv hw (by omega)
  have h6 : ((placed.map (·.2)).sum + p.2) / p.2 = (placed.map (·.2)).sum / p.2 + 1 := Int.add_ediv_of_dvd_right (Int.dvd_refl _) |>.trans (by rw [Int.ediv_self (by omega)])
  obtain ⟨x, hx, h7⟩ := some_pos (a := fs.map (· / p.2)) (by omega)
  obtain ⟨f, hf, rfl⟩ := List.mem_map.mp hx
  refine ⟨f, hf, ?_⟩
  have := Int.ediv_mul_le f (show p.2 ≠ 0 by omega)
  have h8 : 1 * p.2 ≤ f / p.2 * p.2 := Int.mul_le_mul_of_nonneg_right h7 (by omega)
  omega
def sp_size_over : PV := fun ds P => ∃ (ls : List (Str × Int)) (ss : List Int), ds = [.lst (ls.map ldD), .lst (ss.map .int)] ∧ (LoadsOk ls ∧ StrengthsOk ss) ∧ (∀ s : Int, P (.int s)) ∧ ((∀ p ∈ ls, unitsZ (ls.map (·.2)) p.2 ≤ roomZ ss p.2) → P .non)
theorem ok_size_over (T : Txt K mg) : FnOk P w K mg base CX0 2 T.f_size_over T.fd_size_over ["loads", "strengths"] (spV K sp_size_over) := by
  refine T.F_size_over.ok sc_size_over (fun vs H Q E h => lenV (fun ds P h => by obtain ⟨_, _, rfl, _⟩ := h; rfl) h) (fun cdv A outer s H vs Q E hr h => ⟨_, (pss_cons (ps_setLc (i := 2) (own := [("name", 3), ("weight", 4)]) rfl sc_size_over.nd rfl rfl (sw_true rfl rfl rfl (by decide +kernel)) (k_plist (K' := K) rfl (pv 0)) (blkOk_by (N := N_size_over) (sc := defScope s_size_over) (by decide +kernel)) (fun _ _ _ _ _ => (k_gtup (K' := K) (n := 2) rfl rfl (pgs_cons (pg_name (i := 3) sc_size_over.nd rfl (Or.inl rfl)) (pgs_cons (pg_name (i := 4) sc_size_over.nd rfl (Or.inl rfl)) pgs_nil)) rfl rfl)) (fun _ _ _ _ _ => pts_nil) (fun _ _ _ _ _ => (pv 4)))
    (pss_cons (ps_for PassesOwn.never rfl (k_plist (K' := K) rfl (k_rev (K' := K) rfl (pe_sortedSet (by rfl) T.b_sorted (by rfl) T.b_set (pv 2)))) (pg_name (i := 5) sc_size_over.nd rfl (Or.inl rfl))
    (pss_one (ps_if (pt_cmpR op_gt (pe_call (ok_units_of T) (hr.mono (by decide)) (by rfl) T.g_units_of T.F_units_of.kp T.bd_units_of .nil pass0 (pa_cons (pv 2) (pa_cons (pv 5) pa_nil))) (pe_call (ok_room_of T) (hr.mono (by decide)) (by rfl) T.g_room_of T.F_room_of.kp T.bd_room_of .nil pass0 (pa_cons (pv 1) (pa_cons (pv 5) pa_nil))) (nomark _)) (pss_one (ps_ret (pv 5))) pss_nil)))
    (pss_one (ps_ret pe_non)))), runV (n := 2) (fun ds P h => by obtain ⟨_, _, rfl, _⟩ := h; rfl) (by decide) ?_ h⟩)
  rintro ds P ⟨ls, ss, rfl, ⟨hls, hss⟩, hP1, hP2⟩
  have hl20 := hls.1
  have hs10 := hss.1
  refine SW.seq (SW.asg (EF.toW (EF.lcMap ls ldD (·.2) .int rfl (IW.list ?_))))
  walk_at "w"
  refine ⟨rfl, le1000 (by omega), fun p hp => GW.nm2 ⟨rfl, ?_⟩, ?_⟩
  · walk_at "w"
    exact ⟨rfl, rfl⟩
  refine SW.seq (SW.for_ (is := [5]) (IW.list (EF.toW (EF.rev (EF.toW (EF.sortedSet ?_))))))
  walk_at "w"
  refine ⟨by rw [List.length_map]; omega, fun ms hms hmem => ⟨_, rfl, _, rfl, ?_⟩⟩
  rw [← List.map_reverse]
  refine ⟨fun i ρ c => ∃ s1, ρ = [.val (.lst (ls.map ldD)), .val (.lst (ss.map .int)), .val (.lst ((ls.map (·.2)).map .int)), .no, .no, s1] ∧ (∀ m ∈ ms.reverse.take i, unitsZ (ls.map (·.2)) m ≤ roomZ ss m) ∧ c = 0, ⟨_, rfl, by simp, rfl⟩, ?_, ?_⟩
  · rintro i d ρ1 c2 hi ⟨s1, rfl, hdone, rfl⟩
    rw [List.getElem?_map] at hi
    obtain ⟨m, hm, rfl⟩ : ∃ m, ms.reverse[i]? = some m ∧ d = .int m := by
      cases q : ms.reverse[i]? with
      | none => rw [q] at hi; cases hi
      | some s => rw [q] at hi; cases hi; exact ⟨s, rfl, rfl⟩
    have hmm : m ∈ ls.map (·.2) := (hmem m).mp (List.mem_reverse.mp (List.mem_of_getElem? hm))
    obtain ⟨p, hp, rfl⟩ := List.mem_map.mp hmm
    have hp2 := (hls.2.1 p hp).2
    refine GW.name (SW.ite ?_)
    walk_at "w"
    refine ⟨_, _, rfl, ⟨by omega, by omega, by rw [List.length_map]; omega⟩, ?_⟩
    walk_at "w"
    refine ⟨_, _, rfl, ⟨by omega, by omega, by omega⟩, ?_⟩
    walk_at "w"
    refine ⟨fun h => ?_, fun h => ?_⟩
    · walk_at "w"
      exact hP1 _
    · walk_at "w"
      refine ⟨fun m hm' => ?_, rfl⟩
      rw [List.take_add_one, hm] at hm'
      rcases List.mem_append.mp hm' with q | q
      · exact hdone m q
      · obtain rfl := List.mem_singleton.mp q
        have := of_decide_eq_false h
        omega
  · rintro ρ1 c2 ⟨s1, rfl, hdone, rfl⟩
    rw [List.length_map, List.take_length] at hdone
    walk_at "w"
    exact hP2 fun p hp => hdone _ (List.mem_reverse.mpr ((hmem _).mpr (List.mem_map.mpr ⟨p, hp, rfl⟩)))
theorem enum_ints (fs : List Int) : enumD (fs.map .int) = fs.zipIdx.map fun q => .tup [.int (q.2 : Nat), .int q.1] := by
  unfold enumD
  rw [List.zipIdx_map, List.map_map]; rfl
def sp_first_bearer : PV := fun ds P => ∃ (fs : List Int) (w : Int), ds = [.lst (fs.map .int), .int w] ∧ (fs.length ≤ 1000 ∧ ∃ f ∈ fs, w ≤ f) ∧ ∀ (k : Nat) (f : Int), fs[k]? = some f → w ≤ f → P (.int k)
theorem ok_first_bearer (T : Txt K mg) : FnOk P w K mg base CX0 1 T.f_first_bearer T.fd_first_bearer ["free", "weight"] (spV K sp_first_bearer) := by
  refine T.F_first_bearer.ok sc_first_bearer (fun vs H Q E h => lenV (fun ds P h => by obtain ⟨_, _, rfl, _⟩ := h; rfl) h) (fun cdv A outer s H vs Q E hr h => ⟨_, (pss_one (ps_ret (pe_ix (k_ix (K' := K) rfl) (pe_lc (own := [("at", 2), ("left", 3)]) rfl sc_first_bearer.nd (k_penum (K' := K) rfl (by rfl) T.b_enumerate (pa_cons (pv 0) pa_nil)) (blkOk_by (N := N_first_bearer) (sc := defScope s_first_bearer) (by decide +kernel)) (fun _ _ _ _ _ => (k_gtup (K' := K) (n := 2) rfl rfl (pgs_cons (pg_name (i := 2) sc_first_bearer.nd rfl (Or.inl rfl)) (pgs_cons (pg_name (i := 3) sc_first_bearer.nd rfl (Or.inl rfl)) pgs_nil)) rfl rfl)) (fun _ _ _ _ _ => (pts_one (pt_cmpR op_ge (pv 3) (pv 1) (nomark _)))) (fun _ _ _ _ _ => (pv 2))) pe_int (fun _ _ => rfl)))), runV (n := 2) (fun ds P h => by obtain ⟨_, _, rfl, _⟩ := h; rfl) (by decide) ?_ h⟩)
  rintro ds P ⟨fs, w, rfl, ⟨hl, f0, hf0, hw0⟩, hP⟩
  refine SW.ret ?_
  walk_at "e"
  refine EF.toW (EF.lcFil fs.zipIdx (fun q => .tup [.int (q.2 : Nat), .int q.1]) (fun q => decide (w ≤ q.1)) (fun q => ((q.2 : Nat) : Int)) .int rfl (IW.enum ?_))
  walk_at "e"
  refine ⟨enum_ints fs, le1000 (by simpa using hl), fun q hq => GW.nm2 ⟨rfl, ?_⟩, ?_⟩
  · walk_at "e"
    refine ⟨rfl, rfl, fun _ => ?_⟩
    walk_at "e"
    exact ⟨rfl, rfl⟩
  · walk_at "e"
    have hin : ∀ q ∈ fs.zipIdx, fs[q.2]? = some q.1 := fun q hq => by simpa using List.mk_mem_zipIdx_iff_getElem?.mp hq
    obtain ⟨k0, hk0, e0⟩ := List.getElem_of_mem hf0
    have hne : (f0, k0) ∈ fs.zipIdx.filter fun q => decide (w ≤ q.1) := List.mem_filter.mpr ⟨List.mk_mem_zipIdx_iff_getElem?.mpr (by rw [List.getElem?_eq_getElem hk0, e0]), decide_eq_true hw0⟩
    have hlen : 0 < (fs.zipIdx.filter fun q => decide (w ≤ q.1)).length := List.length_pos_of_mem hne
    refine RW2.ixAny (by omega) (by rw [List.length_map, List.length_map]; omega) fun d hd => ?_
    obtain ⟨n, hn, rfl⟩ := List.mem_map.mp hd
    obtain ⟨q, hq, rfl⟩ := List.mem_map.mp hn
    obtain ⟨hq1, hq2⟩ := List.mem_filter.mp hq
    exact hP q.2 q.1 (hin q hq1) (of_decide_eq_true hq2)
def keyW : D → PyData
  | .tup [_, .int w] => .int (-w)
  | _ => .none
theorem sorted_desc (ls : List (Str × Int)) : ∃ ls' : List (Str × Int), (ls.map ldD).mergeSort (PySem.W.dataLe false keyW) = ls'.map ldD ∧ ls'.Perm ls ∧ ls'.Pairwise fun p q => q.2 ≤ p.2 := by
  refine ⟨ls.mergeSort fun p q => decide (q.2 ≤ p.2), ?_, List.mergeSort_perm _ _, ?_⟩
  · refine (List.map_mergeSort fun a _ b _ => ?_).symm
    have h := congrFun (congrFun (PySem.W.dataLe_int (β := Str × Int) fun p => -p.2) a) b
    show _ = PySem.W.dataLe false (fun p : Str × Int => .int (-p.2)) a b
    rw [h]
    exact decide_eq_decide.mpr ⟨fun h => by omega, fun h => by omega⟩
  · refine (List.pairwise_mergeSort (fun a b c h1 h2 => ?_) (fun a b => ?_) ls).imp fun h => of_decide_eq_true h
    · have h1 := of_decide_eq_true h1
      have h2 := of_decide_eq_true h2
      exact decide_eq_true (by omega)
    · by_cases h : b.2 ≤ a.2
      · rw [decide_eq_true h]; rfl
      · rw [decide_eq_true (show a.2 ≤ b.2 by omega), Bool.or_true]
theorem keyW_int {d : D} {ls : List (Str × Int)} (h : d ∈ ls.map ldD) : ∃ n, keyW d = .int n := by
  obtain ⟨p, _, rfl⟩ := List.mem_map.mp h
  exact ⟨_, rfl⟩
def sp_laden_by : PV := fun ds P => ∃ (ls : List (Str × Int)) (ss : List Int), ds = [.lst (ls.map ldD), .lst (ss.map .int)] ∧ (LoadsOk ls ∧ StrengthsOk ss) ∧ (∀ s : Int, P (.tup [.str "over", .int s])) ∧ (∀ rows : List (List Str), RowsOk rows → P (.tup [.str "laid", .lst (rows.map rowD)]))
theorem ok_laden_by (T : Txt K mg) : FnOk P w K mg base CX0 4 T.f_laden_by T.fd_laden_by ["loads", "strengths"] (spV K sp_laden_by) := by
  refine T.F_laden_by.ok sc_laden_by (fun vs H Q E h => lenV (fun ds P h => by obtain ⟨_, _, rfl, _⟩ := h; rfl) h) (fun cdv A outer s H vs Q E hr h => ⟨_, (pss_cons (ps_set (i := 2) sc_laden_by.nd rfl (Or.inl rfl) (pe_call (ok_size_over T) (hr.mono (by decide)) (by rfl) T.g_size_over T.F_size_over.kp T.bd_size_over .nil pass0 (pa_cons (pv 0) (pa_cons (pv 1) pa_nil))))
    (pss_cons (ps_if (pt_cmpR op_notN1 (pv 2) pe_non (nomark _)) (pss_one (ps_ret (pe_tup (pa_cons pe_str (pa_cons (pv 2) pa_nil))))) pss_nil)
    (pss_cons (ps_setLc (i := 3) (own := [("strength", 4)]) rfl sc_laden_by.nd rfl rfl (sw_true rfl rfl rfl (by decide +kernel)) (k_plist (K' := K) rfl (pv 1)) (blkOk_by (N := N_laden_by) (sc := defScope s_laden_by) (by decide +kernel)) (fun _ _ _ _ _ => (pg_name (i := 4) sc_laden_by.nd rfl (Or.inl rfl))) (fun _ _ _ _ _ => pts_nil) (fun _ _ _ _ _ => (pe_lst pa_nil)))
    (pss_cons (ps_set (i := 5) sc_laden_by.nd rfl (Or.inl rfl) (pe_callTy (k_lst (K' := K) rfl) (by rfl) T.b_list boot_list (pa_cons (pv 1) pa_nil)))
    (pss_cons (ps_for PassesOwn.never rfl (k_plist (K' := K) rfl (pe_callBK (cr_sortedBy T.F_lighter_behind sc_lighter_behind rfl T.bd_lighter_behind rfl (hr.mono (by decide))) (by rfl) T.b_sorted boot_sorted (pa_cons (pv 0) pa_nil) (pk_cons (pe_glob (v := .ref T.f_lighter_behind) (by rfl) T.g_lighter_behind rfl) pk_nil))) (k_gtup (K' := K) (n := 2) rfl rfl (pgs_cons (pg_name (i := 6) sc_laden_by.nd rfl (Or.inl rfl)) (pgs_cons (pg_name (i := 7) sc_laden_by.nd rfl (Or.inl rfl)) pgs_nil)) rfl rfl)
    (pss_cons (ps_set (i := 8) sc_laden_by.nd rfl (Or.inl rfl) (pe_call (ok_first_bearer T) (hr.mono (by decide)) (by rfl) T.g_first_bearer T.F_first_bearer.kp T.bd_first_bearer .nil pass0 (pa_cons (pv 5) (pa_cons (pv 7) pa_nil))))
    (pss_cons (ps_expr (pe_bm PySem.F.plainAttrs_list PySem.F.slot_list_append PySem.F.type_list_append mt_append (pe_ix (k_ix (K' := K) rfl) (pv 3) (pv 8) (fun _ _ => rfl)) (pa_cons (pv 6) pa_nil)))
    (pss_one (ps_augS (pv 5) (pv 8) (k_get (K' := K) rfl) (pv 7) ip_sub set_list)))))
    (pss_one (ps_ret (pe_tup (pa_cons pe_str (pa_cons (pv 3) pa_nil)))))))))), runV (n := 2) (fun ds P h => by obtain ⟨_, _, rfl, _⟩ := h; rfl) (by decide) ?_ h⟩)
  rintro ds P ⟨ls, ss, rfl, ⟨hls, hss⟩, hP1, hP2⟩
  have hl20 := hls.1
  have hs10 := hss.1
  refine SW.seq (SW.asg (EW.mono (Q := fun d c => c = 0 ∧ ((∃ s : Int, d = .int s) ∨ d = .non ∧ ∀ p ∈ ls, unitsZ (ls.map (·.2)) p.2 ≤ roomZ ss p.2)) ?_ ?_))
  · walk_at "e"
    exact ⟨_, _, rfl, ⟨hls, hss⟩, fun s => ⟨rfl, .inl ⟨s, rfl⟩⟩, fun h => ⟨rfl, .inr ⟨rfl, h⟩⟩⟩
  rintro d c1 ⟨rfl, ⟨s, rfl⟩ | ⟨rfl, hfit⟩⟩
  · walk_at "w"
    exact hP1 s
  walk_at "w"
  refine SW.asgR (ER.empties rfl (IW.list ?_))
  walk_at "w"
  refine ⟨fun d hd => GW.name rfl, fun p rs hrs => ?_⟩
  rw [List.length_map] at hrs
  walk_at "w"
  refine SW.asgF (EF.cb ?_)
  walk_at "w"
  refine RCF.list (.inl rfl) fun p2 => ?_
  walk_at "w"
  refine SW.for_ (is := [6, 7]) (IW.list (EF.toW (EF.sortedBy keyW rfl ?_)))
  walk_at "w"
  refine ⟨?_, ?_, ?_, ?_, ?_⟩
  · intro S H v d hd r cdv A outer s
    obtain ⟨p, _, rfl⟩ := List.mem_map.mp hd
    obtain ⟨a, vs, rfl, ha, rr⟩ := r.tup_inv
    obtain ⟨v1, ws, rfl, _, rr⟩ := rr.cons_inv
    obtain ⟨v2, ws2, rfl, r2, rr3⟩ := rr.cons_inv
    obtain rfl := r2.int_inv
    obtain rfl := rr3.nil_inv
    exact pd0_val (pv0_neg (pv0_item (pv0_name (i := 0) rfl (Or.inl rfl) rfl) pv0_int ha.sq rfl (fun _ _ => rfl))) rfl
  · intro d hd d' hd'
    obtain ⟨x, hx, rfl⟩ := List.mem_map.mp hd
    obtain ⟨y, hy, rfl⟩ := List.mem_map.mp hd'
    obtain ⟨n, e⟩ := keyW_int hx
    obtain ⟨m, e'⟩ := keyW_int hy
    rw [e, e']; rfl
  · refine .inr fun d hd => ?_
    obtain ⟨x, hx, rfl⟩ := List.mem_map.mp hd
    obtain ⟨n, e⟩ := keyW_int hx
    rw [e]
    exact ⟨(fun h => nomatch h), fun _ h => nomatch h⟩
  · intro d hd
    obtain ⟨n, e⟩ := keyW_int hd
    rw [e]; simp [PyData.depth]
  obtain ⟨ls', e, hperm, hdesc⟩ := sorted_desc ls
  rw [e]
  refine ⟨_, rfl, fun i ρ c => ∃ (p : Addr) (rs : List (Addr × List D)) (p2 : Addr) (fs : List Int) (rows : List (List Str)) (s1 s2 s3 : Slot), ρ = [.val (.lst (ls.map ldD)), .val (.lst (ss.map .int)), .val .non, .own p (.rows rs), .no, .own p2 (.lst (fs.map .int)), s1, s2, s3] ∧ rs.map (·.2) = rows.map (·.map .str) ∧ rows.length = ss.length ∧ (rows.map (·.length)).sum ≤ i ∧ (∀ r ∈ rows, ∀ s ∈ r, strOkN 30 s) ∧ InvG ss (ls'.take i) fs ∧ c = 0, ⟨p, rs, p2, ss, List.replicate ss.length [], .no, .no, .no, rfl, by rw [hrs]; simp, by simp, by simp, ?_, InvG.start ss, rfl⟩, ?_, ?_⟩
  · intro r hr s hs
    obtain rfl := List.eq_of_mem_replicate hr
    cases hs
  · rintro i d ρ1 c3 hi ⟨p, rs, p2, fs, rows, s1, s2, s3, rfl, hrs, hrl, hsum, hok, hinv, rfl⟩
    rw [List.getElem?_map] at hi
    obtain ⟨q, hq, rfl⟩ : ∃ q, ls'[i]? = some q ∧ d = ldD q := by
      cases h : ls'[i]? with
      | none => rw [h] at hi; cases hi
      | some s => rw [h] at hi; cases hi; exact ⟨s, rfl, rfl⟩
    have hqm : q ∈ ls := hperm.mem_iff.mp (List.mem_of_getElem? hq)
    have hq2 := hls.2.1 q hqm
    obtain ⟨hil, _⟩ := List.getElem?_eq_some_iff.mp hq
    have hil2 : i < 20 := by have := hperm.length_eq; omega
    have hlen : rs.length = ss.length := by have := congrArg List.length hrs; simpa [hrl] using this
    have hsplit : ls' = ls'.take i ++ q :: ls'.drop (i + 1) := by
      rw [← List.getElem?_eq_some_iff.mp hq |>.2, List.getElem_cons_drop, List.take_append_drop]
    have hb : ∃ f ∈ fs, q.2 ≤ f := by
      refine InvG.some (rest := ls'.drop (i + 1)) hinv (by rw [← hsplit]; exact hperm) (fun q hq => (hls.2.1 q hq).2.1) ?_ hls.2.2 (hfit q hqm)
      intro a ha
      rw [hsplit] at hdesc
      exact (List.pairwise_append.mp hdesc).2.2 a ha q (by simp)
    refine GW.nm2 (SW.seq (SW.asg (EW.flat (EW.callV (AW.cons (EW.varOwn rfl ?_))))))
    walk_at "e"
    refine ⟨fs, q.2, rfl, ⟨by have := hinv.1; omega, hb⟩, fun k f hk hf => ⟨rfl, ?_⟩⟩
    obtain ⟨hkl, _⟩ := List.getElem?_eq_some_iff.mp hk
    have hkl2 : k < rows.length := by have := hinv.1; omega
    have hrk : rows[k]? = some rows[k] := List.getElem?_eq_getElem hkl2
    have h2 := len_le_sum (List.getElem_mem hkl2)
    refine SW.seq (SW.rowApp ⟨_, _, rfl, ?_⟩)
    walk_at "e"
    refine ⟨_, k, rows[k].map .str, rfl, ixN_ge (by omega) (by omega), by rw [hrs, List.getElem?_map, hrk]; rfl, small1000 (by rw [List.length_map]; omega), ?_⟩
    walk_at "e"
    refine SW.augS ⟨_, _, rfl, ?_⟩
    walk_at "e"
    refine ⟨_, k, f, rfl, ixN_ge (by omega) (by walk_at "p"), by rw [List.getElem?_map, hk]; rfl, ?_⟩
    walk_at "e"
    obtain ⟨h3, h4⟩ := rows_app hrk hsum hok hq2.1
    refine ⟨p, _, p2, fs.set k (f - q.2), rows.set k (rows[k] ++ [q.1]), _, _, _, by rw [List.map_set]; rfl, by rw [setR_snd, hrs, List.map_set, List.map_append]; rfl, by rw [List.length_set]; exact hrl, h3, h4, ?_, rfl⟩
    rw [List.take_add_one, hq]
    exact hinv.step hk
  · rintro ρ1 c3 ⟨p, rs, p2, fs, rows, s1, s2, s3, rfl, hrs, hrl, hsum, hok, hinv, rfl⟩
    rw [List.length_map, hperm.length_eq] at hsum
    refine SW.freezeO 3 ⟨_, _, rfl, SW.ret ?_⟩
    walk_at "e"
    show P (.tup [.str "laid", .lst (rs.map fun r => .lst r.2)])
    rw [show (rs.map fun r => D.lst r.2) = rows.map rowD by
      rw [show (rs.map fun r => D.lst r.2) = (rs.map (·.2)).map D.lst by simp, hrs, List.map_map]; rfl]
    exact hP2 rows ⟨by omega, by omega, hok⟩
end
end K12
namespace K12
open PySem PySem.Spec PyProof.Rows L2 Q
local macro_rules | `(tactic| walk_at "p") => `(tactic| first | omega | (simp only [List.length_map, List.length_cons, List.length_nil, List.length_append, List.length_set]; first | done | omega) | (refine .inl ⟨?_, ?_⟩ <;> omega) | (refine .inr ⟨?_, ?_⟩ <;> omega) | (refine ⟨?_, ?_⟩ <;> omega) | exact .inr (b01 _) | exact .inl (b01 _) | exact le1000 (by first | decide | (simp only [List.length_map, List.length_cons, List.length_nil, List.length_append, List.length_set]; first | done | omega) | omega) | decide)
local macro_rules | `(tactic| walk_at "s") => `(tactic| with_reducible (first
  | refine EW.cint ?_ | refine EW.cstr ?_ | refine EW.cbl ?_ | refine EW.cnon ?_ | refine EW.cty ?_
  | refine AW.nil ?_ | refine AW.cons ?_
  | refine EW.ite ?_ | refine EW.andV ?_ | refine EW.orV ?_ | refine EW.notV ?_ | refine TW.test ?_ | refine TW.tB ?_ | refine TW.and ?_ | refine TW.or ?_ | refine TW.not ?_ | refine TW.yes ?_
  | refine EW.callV ?_ | refine EW.cb ?_ | refine EW.neg ?_ | refine EW.tup ?_ | refine EF.toW (EF.lst ?_) | refine EF.lst ?_
  | refine RW2.ii ?_ | refine RW2.ib ?_ | refine RW2.uAddi ?_ | refine RW2.isN ?_ | refine RW2.notN ?_ | refine RW2.isB ?_ | refine RW2.notB ?_
  | refine RCW.abs ?_ | refine RCW.max2 ?_ | refine RCW.min2 ?_ | refine RCW.inti ?_ | refine RCW.intb ?_))
local macro_rules | `(tactic| walk_at "v") => `(tactic| first
  | ((with_reducible apply EW.var); (· rfl)) | ((with_reducible refine EW.callB ?_ ?_); (· rfl))
  | ((with_reducible refine EW.bx0 ?_ fun _ => ?_); (· exact ⟨rfl, rfl⟩)) | ((with_reducible refine EW.bx1 ?_ fun _ _ _ => ?_); (· exact ⟨rfl, rfl⟩)) | ((with_reducible refine EW.bx2 ?_ ?_); (· exact ⟨rfl, rfl⟩))
  | ((with_reducible apply EW.ixO); (· exact ⟨rfl, rfl⟩)) | ((with_reducible apply EW.varOwn); (· rfl)) | (with_reducible refine EW.op ?_)
  | ((with_reducible refine RW2.ci ?_ ?_); (· walk_at "p")) | ((with_reducible refine RW2.uMuli ?_ ?_); (· walk_at "p")))
local macro_rules | `(tactic| walk_at "d") => `(tactic| first
  | refine RW2.uEqi ?_ | refine RW2.uEqs ?_ | refine RW2.uEqb ?_ | refine RW2.uNei ?_ | refine RW2.uNes ?_ | refine RW2.uNeb ?_
  | refine RW2.uIxT rfl ?_ | refine RW2.uIxL rfl ?_
  | refine RCW.len rfl ?_ | refine RCW.isi (b := false) (fun _ h => nomatch h) (fun _ h => nomatch h) rfl ?_ | refine RCW.isi (b := true) (fun _ h => nomatch h) (fun _ h => nomatch h) rfl ?_ | refine TW.tru ?_
  | refine ⟨_, rfl, ⟨by walk_at "p", by walk_at "p", by walk_at "p"⟩, fun _ _ _ _ _ => ?_⟩
  | refine ⟨(fun _ h => nomatch h), (fun _ h => nomatch h), false, false, false, rfl, rfl, rfl, ?_⟩ | refine ⟨(fun _ h => nomatch h), (fun _ h => nomatch h), true, false, true, rfl, rfl, rfl, ?_⟩ | refine ⟨(fun _ h => nomatch h), (fun _ h => nomatch h), false, true, true, rfl, rfl, rfl, ?_⟩
  | refine ⟨le1000 (by first | decide | (simp only [List.length_map, List.length_cons, List.length_nil, List.length_append, List.length_set]; first | done | omega)), ?_⟩ | refine ⟨_, rfl, ?_⟩)
local macro_rules | `(tactic| walk_at "e") => `(tactic| repeat (first | ((with_reducible refine EW.isi2 ?_ ?_); (· rfl)) | ((with_reducible apply EW.lenO); (· exact ⟨rfl, rfl⟩); (· rfl)) | walk_at "s" | walk_at "v" | walk_at "d"))
local macro_rules | `(tactic| walk_at "c") => `(tactic| first | refine br_t rfl ?_ | refine br_f rfl ?_ | refine br_t (decide_eq_true rfl) ?_)
local macro_rules | `(tactic| walk_at "w") => `(tactic| repeat (first | ((with_reducible refine EW.isi2 ?_ ?_); (· rfl)) | ((with_reducible apply EW.lenO); (· exact ⟨rfl, rfl⟩); (· rfl)) | walk_at "s" | walk_at "v" | (with_reducible first | refine SW.seq ?_ | refine SW.ite ?_ | refine SW.ret ?_ | refine SW.next ?_) | walk_at "d" | walk_at "c"))
section
variable {P : Program} {w : World} {K : Frag} {mg : Str → Option Value} {base : Heap}
def sp_shows_laden : PV := fun ds P => ∃ (ls : List (Str × Int)) (ss : List Int) (d : D), ds = [.lst (ls.map ldD), .lst (ss.map .int), .tup [.str "laid", d]] ∧ (LoadsOk ls ∧ StrengthsOk ss ∧ (ThingOk d ∨ ∃ l, d = .tup l)) ∧ ∀ b : Bool, (b = true ↔ LaidP ls ss d) → P (.bl b)
theorem ok_shows_laden (T : Txt K mg) : FnOk P w K mg base CX0 2 T.f_shows_laden T.fd_shows_laden ["loads", "strengths", "thing"] (spV K sp_shows_laden) := by
  refine T.F_shows_laden.ok sc_shows_laden (fun vs H Q E h => lenV (fun ds P h => by obtain ⟨_, _, _, rfl, _⟩ := h; rfl) h) (fun cdv A outer s H vs Q E hr h => ⟨_, (pss_cons (ps_if ((pw_or (pt_not (pt_tru (pe_callB (k_isi (K' := K) rfl) (by rfl) T.b_isinstance boot_isinstance (pa_cons (pv 2) (pa_cons (pe_bltn (v := .ty "tuple") (by rfl) T.b_tuple boot_tuple rfl) pa_nil))) (fun _ => rfl))) (pw_or (pt_cmpR (k_ne (K' := K) rfl (hu64 hr)) (pe_callB (k_len (K' := K) rfl) (by rfl) T.b_len boot_len (pa_cons (pv 2) pa_nil)) pe_int (nomark _)) (pw_or1 (pt_not (pt_tru (pe_callB (k_isi (K' := K) rfl) (by rfl) T.b_isinstance boot_isinstance (pa_cons (pe_ix (k_ix (K' := K) rfl) (pv 2) pe_int (fun _ _ => rfl)) (pa_cons (pe_bltn (v := .ty "str") (by rfl) T.b_str boot_str rfl) pa_nil))) (fun _ => rfl))))))).pt (pss_one (ps_ret pe_bl)) pss_nil)
    (pss_cons (ps_if (pt_cmpR (k_eq (K' := K) rfl (hu64 hr)) (pe_ix (k_ix (K' := K) rfl) (pv 2) pe_int (fun _ _ => rfl)) pe_str (nomark _)) (pss_one (ps_ret (pe_call (ok_laid_rightly T) (hr.mono (by decide)) (by rfl) T.g_laid_rightly T.F_laid_rightly.kp T.bd_laid_rightly .nil pass0 (pa_cons (pv 0) (pa_cons (pv 1) (pa_cons (pe_ix (k_ix (K' := K) rfl) (pv 2) pe_int (fun _ _ => rfl)) pa_nil)))))) pss_nil)
    (pss_one ps_never))), runV (n := 3) (fun ds P h => by obtain ⟨_, _, _, rfl, _⟩ := h; rfl) (by decide) ?_ h⟩)
  rintro ds P ⟨ls, ss, d, rfl, hpre, hP⟩
  refine SW.seq (SW.ite ?_)
  walk_at "w"
  exact ⟨ls, ss, d, rfl, hpre, hP⟩
def sp__law_shown : PV := fun ds P => ∃ (ls : List (Str × Int)) (ss : List Int) (d : D), ds = [.lst (ls.map ldD), .lst (ss.map .int), .tup [.str "laid", d]] ∧ (LoadsOk ls ∧ StrengthsOk ss ∧ (ThingOk d ∨ ∃ l, d = .tup l)) ∧ ∀ b : Bool, (b = true ↔ LaidP ls ss d) → P (.bl b)
theorem ok__law_shown (T : Txt K mg) : FnOk P w K mg base CX0 2 T.f__law_shown T.fd__law_shown ["_law_loads_here", "_law_strengths_here", "_law_thing"] (spV K sp__law_shown) := by
  refine T.F__law_shown.ok sc__law_shown (fun vs H Q E h => lenV (fun ds P h => by obtain ⟨_, _, _, rfl, _⟩ := h; rfl) h) (fun cdv A outer s H vs Q E hr h => ⟨_, (pss_cons (ps_if ((pw_or (pt_not (pt_tru (pe_callB (k_isi (K' := K) rfl) (by rfl) T.b_isinstance boot_isinstance (pa_cons (pv 2) (pa_cons (pe_bltn (v := .ty "tuple") (by rfl) T.b_tuple boot_tuple rfl) pa_nil))) (fun _ => rfl))) (pw_or (pt_cmpR (k_ne (K' := K) rfl (hu64 hr)) (pe_callB (k_len (K' := K) rfl) (by rfl) T.b_len boot_len (pa_cons (pv 2) pa_nil)) pe_int (nomark _)) (pw_or1 (pt_not (pt_tru (pe_callB (k_isi (K' := K) rfl) (by rfl) T.b_isinstance boot_isinstance (pa_cons (pe_ix (k_ix (K' := K) rfl) (pv 2) pe_int (fun _ _ => rfl)) (pa_cons (pe_bltn (v := .ty "str") (by rfl) T.b_str boot_str rfl) pa_nil))) (fun _ => rfl))))))).pt (pss_one (ps_ret pe_bl)) pss_nil)
    (pss_cons (ps_if (pt_cmpR (k_eq (K' := K) rfl (hu64 hr)) (pe_ix (k_ix (K' := K) rfl) (pv 2) pe_int (fun _ _ => rfl)) pe_str (nomark _)) (pss_one (ps_ret (pe_call (ok__law_laid T) (hr.mono (by decide)) (by rfl) T.g__law_laid T.F__law_laid.kp T.bd__law_laid .nil pass0 (pa_cons (pv 0) (pa_cons (pv 1) (pa_cons (pe_ix (k_ix (K' := K) rfl) (pv 2) pe_int (fun _ _ => rfl)) pa_nil)))))) pss_nil)
    (pss_cons ps_never
    (pss_cons ps_never
    (pss_cons ps_never
    (pss_one ps_never)))))), runV (n := 3) (fun ds P h => by obtain ⟨_, _, _, rfl, _⟩ := h; rfl) (by decide) ?_ h⟩)
  rintro ds P ⟨ls, ss, d, rfl, hpre, hP⟩
  refine SW.seq (SW.ite ?_)
  walk_at "w"
  exact ⟨ls, ss, d, rfl, hpre, hP⟩
end
end K12
namespace K12
open PySem PySem.Spec PyProof.Rows L2 Q
local macro_rules | `(tactic| walk_at "p") => `(tactic| first | omega | (simp only [List.length_map, List.length_cons, List.length_nil, List.length_append, List.length_set]; first | done | omega) | (refine .inl ⟨?_, ?_⟩ <;> omega) | (refine .inr ⟨?_, ?_⟩ <;> omega) | (refine ⟨?_, ?_⟩ <;> omega) | exact .inr (b01 _) | exact .inl (b01 _) | exact le1000 (by first | decide | (simp only [List.length_map, List.length_cons, List.length_nil, List.length_append, List.length_set]; first | done | omega) | omega) | decide)
local macro_rules | `(tactic| walk_at "s") => `(tactic| with_reducible (first
  | refine EW.cint ?_ | refine EW.cstr ?_ | refine EW.cbl ?_ | refine EW.cnon ?_ | refine EW.cty ?_
  | refine AW.nil ?_ | refine AW.cons ?_
  | refine EW.ite ?_ | refine EW.andV ?_ | refine EW.orV ?_ | refine EW.notV ?_ | refine TW.test ?_ | refine TW.tB ?_ | refine TW.and ?_ | refine TW.or ?_ | refine TW.not ?_ | refine TW.yes ?_
  | refine EW.callV ?_ | refine EW.cb ?_ | refine EW.neg ?_ | refine EW.tup ?_ | refine EF.toW (EF.lst ?_) | refine EF.lst ?_
  | refine RW2.ii ?_ | refine RW2.ib ?_ | refine RW2.uAddi ?_ | refine RW2.isN ?_ | refine RW2.notN ?_ | refine RW2.isB ?_ | refine RW2.notB ?_
  | refine RCW.abs ?_ | refine RCW.max2 ?_ | refine RCW.min2 ?_ | refine RCW.inti ?_ | refine RCW.intb ?_))
local macro_rules | `(tactic| walk_at "v") => `(tactic| first
  | ((with_reducible apply EW.var); (· rfl)) | ((with_reducible refine EW.callB ?_ ?_); (· rfl))
  | ((with_reducible refine EW.bx0 ?_ fun _ => ?_); (· exact ⟨rfl, rfl⟩)) | ((with_reducible refine EW.bx1 ?_ fun _ _ _ => ?_); (· exact ⟨rfl, rfl⟩)) | ((with_reducible refine EW.bx2 ?_ ?_); (· exact ⟨rfl, rfl⟩))
  | ((with_reducible apply EW.rowIxO); (· exact ⟨rfl, rfl, rfl⟩)) | ((with_reducible apply EW.ixO); (· exact ⟨rfl, rfl⟩)) | ((with_reducible apply EW.varOwn); (· rfl)) | (with_reducible refine EW.op ?_)
  | ((with_reducible refine RW2.ci ?_ ?_); (· walk_at "p")) | ((with_reducible refine RW2.uMuli ?_ ?_); (· walk_at "p")))
local macro_rules | `(tactic| walk_at "d") => `(tactic| first
  | refine RW2.uEqi ?_ | refine RW2.uEqs ?_ | refine RW2.uEqb ?_ | refine RW2.uNei ?_ | refine RW2.uNes ?_ | refine RW2.uNeb ?_
  | refine RW2.uIxT rfl ?_ | refine RW2.uIxL rfl ?_
  | refine RCW.len rfl ?_ | refine RCW.isi (b := false) (fun _ h => nomatch h) (fun _ h => nomatch h) rfl ?_ | refine RCW.isi (b := true) (fun _ h => nomatch h) (fun _ h => nomatch h) rfl ?_ | refine TW.tru ?_
  | refine ⟨_, rfl, ⟨by walk_at "p", by walk_at "p", by walk_at "p"⟩, fun _ _ _ _ _ => ?_⟩
  | refine ⟨(fun _ h => nomatch h), (fun _ h => nomatch h), false, false, false, rfl, rfl, rfl, ?_⟩ | refine ⟨(fun _ h => nomatch h), (fun _ h => nomatch h), true, false, true, rfl, rfl, rfl, ?_⟩ | refine ⟨(fun _ h => nomatch h), (fun _ h => nomatch h), false, true, true, rfl, rfl, rfl, ?_⟩
  | refine ⟨le1000 (by first | decide | (simp only [List.length_map, List.length_cons, List.length_nil, List.length_append, List.length_set]; first | done | omega)), ?_⟩ | refine ⟨_, rfl, ?_⟩)
local macro_rules | `(tactic| walk_at "e") => `(tactic| repeat (first | ((with_reducible refine EW.isi2 ?_ ?_); (· rfl)) | ((with_reducible apply EW.lenO); (· exact ⟨rfl, rfl⟩); (· rfl)) | walk_at "s" | walk_at "v" | walk_at "d"))
local macro_rules | `(tactic| walk_at "c") => `(tactic| first | refine br_t rfl ?_ | refine br_f rfl ?_ | refine br_t (decide_eq_true rfl) ?_)
local macro_rules | `(tactic| walk_at "w") => `(tactic| repeat (first | ((with_reducible refine EW.isi2 ?_ ?_); (· rfl)) | ((with_reducible apply EW.lenO); (· exact ⟨rfl, rfl⟩); (· rfl)) | walk_at "s" | walk_at "v" | (with_reducible first | refine SW.seq ?_ | refine SW.ite ?_ | refine SW.ret ?_ | refine SW.next ?_) | walk_at "d" | walk_at "c"))
section
variable {P : Program} {w : World} {K : Frag} {mg : Str → Option Value} {base : Heap}
/-! ### rows, changed -/
def StrD (d : D) : Prop := ∃ s, d = .str s ∧ strOkN 31 s
def RowsD (m : Nat) (R : List (List D)) : Prop := R.length ≤ 10 ∧ (R.map (·.length)).sum ≤ m ∧ ∀ r ∈ R, ∀ d ∈ r, Dn 2 d
theorem dn_str {s : Str} : Dn 2 (.str s) := .inr (.inr (.inr (.inl ⟨s, rfl⟩)))
theorem RowsD.set {m n : Nat} {R : List (List D)} {k : Nat} {es es' : List D} (h : RowsD m R) (hk : R[k]? = some es) (hn : m + es'.length ≤ n + es.length) (he : ∀ d ∈ es', Dn 2 d) : RowsD n (R.set k es') := by
  refine ⟨by rw [List.length_set]; exact h.1, ?_, fun r hr d hd => ?_⟩
  · rw [List.map_set]
    have := sum_set (R.map (·.length)) k es'.length es.length (by rw [List.getElem?_map, hk]; rfl)
    have := h.2.1
    omega
  · rcases List.mem_or_eq_of_mem_set hr with q | rfl
    · exact h.2.2 r q d hd
    · exact he d hd
theorem RowsD.thing {R : List (List D)} (h : RowsD 21 R) : ThingOk (.lst (R.map .lst)) := by
  refine ⟨R.map .lst, rfl, by rw [List.length_map]; have := h.1; omega, fun i hi => ?_, ?_⟩
  · obtain ⟨r, hr, rfl⟩ := List.mem_map.mp hi
    exact ⟨r, .inl rfl, h.2.2 r hr⟩
  · rw [List.map_map]; exact h.2.1
theorem enum_any (ds : List D) : enumD ds = ds.zipIdx.map fun q => .tup [.int (q.2 : Nat), q.1] := rfl
theorem dato_rows {rs : List (Addr × List D)} {R : List (List D)} (h : rs.map (·.2) = R) : datO (.rows rs) = .lst (R.map .lst) := by
  subst h; show D.lst _ = _; rw [List.map_map]; rfl
theorem thing_sub {xs ys : List D} (s : ys.Sublist xs) (h : ThingOk (.lst xs)) : ThingOk (.lst ys) := by
  obtain ⟨_, e, h1, h2, h3⟩ := h
  injection e with e
  subst e
  refine ⟨ys, rfl, Nat.le_trans s.length_le h1, fun i hi => h2 i (s.subset hi), Nat.le_trans ?_ h3⟩
  clear h1 h2 h3
  induction s with
  | slnil => exact Nat.le_refl _
  | cons a _ ih => rw [List.map_cons, List.sum_cons]; omega
  | cons_cons a _ ih => rw [List.map_cons, List.map_cons, List.sum_cons, List.sum_cons]; omega
theorem thing_set {xs : List D} {k : Nat} {x y : D} (h : ThingOk (.lst xs)) (hk : xs[k]? = some x) (hy : ItemOk y) (hs : szI y ≤ szI x) : ThingOk (.lst (xs.set k y)) := by
  obtain ⟨_, e, h1, h2, h3⟩ := h
  injection e with e
  subst e
  refine ⟨_, rfl, by rw [List.length_set]; exact h1, fun i hi => ?_, ?_⟩
  · rcases mem_set hi with q | rfl
    · exact h2 i q
    · exact hy
  · rw [List.map_set]
    have := sum_set (xs.map szI) k (szI y) (szI x) (by rw [List.getElem?_map, hk]; rfl)
    omega
def sp__law_otherwise : PB := fun c ds P => ∃ rows : List (List Str), ds = [.lst (rows.map rowD)] ∧ (RowsOk rows ∧ c < 2 ^ 40 - 100) ∧ ∀ (d : D) (c' : Nat), ThingOk d → c' ≤ c + 10 → P d c'
theorem ok__law_otherwise (T : Txt K mg) : FnOk P w K mg base CX0 5 T.f__law_otherwise T.fd__law_otherwise ["_law_box_here", "_law_rows"] (spB K sp__law_otherwise) := by
  refine T.F__law_otherwise.ok sc__law_otherwise (fun vs H Q E h => lenB (fun c ds P h => by obtain ⟨_, rfl, _⟩ := h; rfl) h) (fun cdv A outer s H vs Q E hr h => ⟨_, (pss_cons (ps_par (i := 2) (j := 3) rfl sc__law_otherwise.nd rfl rfl (by decide) rfl rfl (pa_cons (pe_call (okR__law_copied T) (hr.mono (by first | decide | omega)) (by rfl) T.g__law_copied T.F__law_copied.kp T.bd__law_copied .nil pass0 (pa_cons (pv 1) pa_nil)) (pa_cons (pe_call (ok__law_take T) (hr.mono (by decide)) (by rfl) T.g__law_take T.F__law_take.kp T.bd__law_take .nil pass0 (pa_cons (pv 0) (pa_cons pe_int pa_nil))) pa_nil)) (by rfl))
    (pss_cons (ps_setLc (i := 4) (own := [("_law_k", 5), ("_law_row", 6)]) rfl sc__law_otherwise.nd rfl rfl (sw_true rfl rfl rfl (by decide +kernel)) (k_penum (K' := K) rfl (by rfl) T.b_enumerate (pa_cons (pv 2) pa_nil)) (blkOk_by (N := N__law_otherwise) (sc := defScope s__law_otherwise) (by decide +kernel)) (fun _ _ _ _ _ => (k_gtup (K' := K) (n := 2) rfl rfl (pgs_cons (pg_name (i := 5) sc__law_otherwise.nd rfl (Or.inl rfl)) (pgs_cons (pg_name (i := 6) sc__law_otherwise.nd rfl (Or.inl rfl)) pgs_nil)) rfl rfl)) (fun _ _ _ _ _ => (pts_one (pt_cmpR (k_ne (K' := K) rfl (hu64 hr)) (pv 6) (pe_lst pa_nil) (nomark _)))) (fun _ _ _ _ _ => (pv 5)))
    (pss_cons (ps_if ((pw_or (pt_cmpR (k_eq (K' := K) rfl (hu64 hr)) (pv 4) (pe_lst pa_nil) (nomark _)) (pw_or1 (pt_cmpR (k_eq (K' := K) rfl (hu64 hr)) (pv 3) pe_int (nomark _))))).pt (pss_cons (ps_expr (pe_bm PySem.F.plainAttrs_list PySem.F.slot_list_insert PySem.F.type_list_insert u_insert (pv 2) (pa_cons (pe_call (ok__law_take T) (hr.mono (by decide)) (by rfl) T.g__law_take T.F__law_take.kp T.bd__law_take .nil pass0 (pa_cons (pv 0) (pa_cons (pe_op u_add (pe_callB (k_len (K' := K) rfl) (by rfl) T.b_len boot_len (pa_cons (pv 2) pa_nil)) pe_int) pa_nil))) (pa_cons (pe_ix (k_ix (K' := K) rfl) (pe_lst (pa_cons (pe_lst (pa_cons pe_str pa_nil)) (pa_cons (pe_lst pa_nil) (pa_cons (pe_tup pa_nil) pa_nil)))) (pe_call (ok__law_take T) (hr.mono (by decide)) (by rfl) T.g__law_take T.F__law_take.kp T.bd__law_take .nil pass0 (pa_cons (pv 0) (pa_cons pe_int pa_nil))) (fun _ _ => rfl)) pa_nil))))
    (pss_one (ps_ret (pv 2)))) pss_nil)
    (pss_cons (ps_par (i := 5) (j := 7) rfl sc__law_otherwise.nd rfl rfl (by decide) rfl rfl (pa_cons (pe_ix (k_ix (K' := K) rfl) (pv 4) (pe_call (ok__law_take T) (hr.mono (by decide)) (by rfl) T.g__law_take T.F__law_take.kp T.bd__law_take .nil pass0 (pa_cons (pv 0) (pa_cons (pe_callB (k_len (K' := K) rfl) (by rfl) T.b_len boot_len (pa_cons (pv 4) pa_nil)) pa_nil))) (fun _ _ => rfl)) (pa_cons (pe_ix (k_ix (K' := K) rfl) (pv 4) (pe_call (ok__law_take T) (hr.mono (by decide)) (by rfl) T.g__law_take T.F__law_take.kp T.bd__law_take .nil pass0 (pa_cons (pv 0) (pa_cons (pe_callB (k_len (K' := K) rfl) (by rfl) T.b_len boot_len (pa_cons (pv 4) pa_nil)) pa_nil))) (fun _ _ => rfl)) pa_nil)) (by rfl))
    (pss_cons (ps_set (i := 8) sc__law_otherwise.nd rfl (Or.inl rfl) (pe_call (ok__law_take T) (hr.mono (by decide)) (by rfl) T.g__law_take T.F__law_take.kp T.bd__law_take .nil pass0 (pa_cons (pv 0) (pa_cons (pe_callB (k_len (K' := K) rfl) (by rfl) T.b_len boot_len (pa_cons (pe_ix (k_ix (K' := K) rfl) (pv 2) (pv 5) (fun _ _ => rfl)) pa_nil)) pa_nil))))
    (pss_cons (ps_if (pt_cmpR (k_eq (K' := K) rfl (hu64 hr)) (pv 3) pe_int (nomark _)) (pss_one (ps_expr (pe_bm PySem.F.plainAttrs_list PySem.F.slot_list_append PySem.F.type_list_append mt_append (pe_ix (k_ix (K' := K) rfl) (pv 2) (pe_call (ok__law_take T) (hr.mono (by decide)) (by rfl) T.g__law_take T.F__law_take.kp T.bd__law_take .nil pass0 (pa_cons (pv 0) (pa_cons (pe_callB (k_len (K' := K) rfl) (by rfl) T.b_len boot_len (pa_cons (pv 2) pa_nil)) pa_nil))) (fun _ _ => rfl)) (pa_cons (pe_bm PySem.F.plainAttrs_list PySem.F.slot_list_pop PySem.F.type_list_pop mt_popAt (pe_ix (k_ix (K' := K) rfl) (pv 2) (pv 5) (fun _ _ => rfl)) (pa_cons (pv 8) pa_nil)) pa_nil)))) (pss_one (ps_if (pt_cmpR (k_eq (K' := K) rfl (hu64 hr)) (pv 3) pe_int (nomark _)) (pss_cons (ps_set (i := 9) sc__law_otherwise.nd rfl (Or.inl rfl) (pe_call (ok__law_take T) (hr.mono (by decide)) (by rfl) T.g__law_take T.F__law_take.kp T.bd__law_take .nil pass0 (pa_cons (pv 0) (pa_cons (pe_callB (k_len (K' := K) rfl) (by rfl) T.b_len boot_len (pa_cons (pe_ix (k_ix (K' := K) rfl) (pv 2) (pv 7) (fun _ _ => rfl)) pa_nil)) pa_nil))))
    (pss_cons (ps_set (i := 10) sc__law_otherwise.nd rfl (Or.inl rfl) (pe_ix (k_ix (K' := K) rfl) (pe_ix (k_ix (K' := K) rfl) (pv 2) (pv 5) (fun _ _ => rfl)) (pv 8) (fun _ _ => rfl)))
    (pss_cons (ps_asg (pe_ix (k_ix (K' := K) rfl) (pe_ix (k_ix (K' := K) rfl) (pv 2) (pv 7) (fun _ _ => rfl)) (pv 9) (fun _ _ => rfl)) (pg_sub (pe_ix (k_ix (K' := K) rfl) (pv 2) (pv 5) (fun _ _ => rfl)) (pv 8) set_list))
    (pss_one (ps_asg (pv 10) (pg_sub (pe_ix (k_ix (K' := K) rfl) (pv 2) (pv 7) (fun _ _ => rfl)) (pv 9) set_list)))))) (pss_one (ps_if (pt_cmpR (k_eq (K' := K) rfl (hu64 hr)) (pv 3) pe_int (nomark _)) (pss_one (ps_expr (pe_bm PySem.F.plainAttrs_list PySem.F.slot_list_pop PySem.F.type_list_pop mt_popAt (pe_ix (k_ix (K' := K) rfl) (pv 2) (pv 5) (fun _ _ => rfl)) (pa_cons (pv 8) pa_nil)))) (pss_one (ps_if (pt_cmpR (k_eq (K' := K) rfl (hu64 hr)) (pv 3) pe_int (nomark _)) (pss_one (ps_expr (pe_bm PySem.F.plainAttrs_list PySem.F.slot_list_append PySem.F.type_list_append mt_append (pe_ix (k_ix (K' := K) rfl) (pv 2) (pv 7) (fun _ _ => rfl)) (pa_cons (pe_ix (k_ix (K' := K) rfl) (pe_ix (k_ix (K' := K) rfl) (pv 2) (pv 5) (fun _ _ => rfl)) (pv 8) (fun _ _ => rfl)) pa_nil)))) (pss_one (ps_if (pt_cmpR (k_eq (K' := K) rfl (hu64 hr)) (pv 3) pe_int (nomark _)) (pss_one (ps_expr (pe_bm PySem.F.plainAttrs_list PySem.F.slot_list_pop PySem.F.type_list_pop mt_popAt (pv 2) (pa_cons (pv 5) pa_nil)))) (pss_one (ps_if (pt_cmpR (k_eq (K' := K) rfl (hu64 hr)) (pv 3) pe_int (nomark _)) (pss_one (ps_asg (pe_callTy (k_tpl (K' := K) rfl) (by rfl) T.b_tuple boot_tuple (pa_cons (pe_ix (k_ix (K' := K) rfl) (pv 2) (pv 5) (fun _ _ => rfl)) pa_nil)) (pg_sub (pv 2) (pv 5) set_list))) (pss_one (ps_asg (pe_ix (k_ix (K' := K) rfl) (pe_lst (pa_cons (pe_op u_add (pe_ix (k_ix (K' := K) rfl) (pe_ix (k_ix (K' := K) rfl) (pv 2) (pv 5) (fun _ _ => rfl)) (pv 8) (fun _ _ => rfl)) pe_str) (pa_cons pe_str (pa_cons pe_non (pa_cons pe_int (pa_cons (pe_lst (pa_cons (pe_ix (k_ix (K' := K) rfl) (pe_ix (k_ix (K' := K) rfl) (pv 2) (pv 5) (fun _ _ => rfl)) (pv 8) (fun _ _ => rfl)) pa_nil)) pa_nil)))))) (pe_call (ok__law_take T) (hr.mono (by decide)) (by rfl) T.g__law_take T.F__law_take.kp T.bd__law_take .nil pass0 (pa_cons (pv 0) (pa_cons pe_int pa_nil))) (fun _ _ => rfl)) (pg_sub (pe_ix (k_ix (K' := K) rfl) (pv 2) (pv 5) (fun _ _ => rfl)) (pv 8) set_list))))))))))))))
    (pss_one (ps_ret (pv 2))))))))), runB (n := 2) (fun c ds P h => by obtain ⟨_, rfl, _⟩ := h; rfl) (by decide) ?_ h⟩)
  rintro b c ds P ⟨rows, rfl, ⟨hrows, hc⟩, hP⟩
  have hr10 := hrows.1
  have hr20 := hrows.2.1
  have fin : ∀ (ρ : _root_.Q.Env) (c' : Nat) (p : Addr) (w : Own) (W : DW), W.rt = P → ρ[2]? = some (.own p w) → ThingOk (datO w) → c' ≤ c + 10 → SW ⟨K, some b⟩ (tRet (tVar 2)) ρ c' W := by
    intro ρ c' p w W hW h2 ht hc'
    have hl : 2 < ρ.length := (List.getElem?_eq_some_iff.mp h2).1
    exact SW.freezeO 2 ⟨p, w, h2, SW.ret (EW.var (by rw [List.getElem?_set_self hl]) (by rw [hW]; exact hP _ _ ht hc'))⟩
  refine SW.seq (SW.parRV (ER.callR ?_))
  walk_at "e"
  refine ⟨rows.map (·.map .str), by rw [List.map_map]; rfl, ⟨?_, by rw [List.length_map]; omega⟩, ?_⟩
  · intro r hr
    obtain ⟨ns, hns, rfl⟩ := List.mem_map.mp hr
    refine ⟨by rw [List.length_map]; have := len_le_sum hns; omega, fun d hd => ?_⟩
    obtain ⟨s, _, rfl⟩ := List.mem_map.mp hd
    exact .inr (.inr (.inr (.inl ⟨s, rfl⟩)))
  walk_at "e"
  rename_i way c1 hw0 hw1 hc1
  intro p rs hrs
  have hR : RowsD 20 (rows.map (·.map D.str)) := by
    refine ⟨by rw [List.length_map]; exact hr10, ?_, fun r hr d hd => ?_⟩
    · rw [List.map_map, show ((fun x : List D => x.length) ∘ fun x : List Str => x.map D.str) = fun x : List Str => x.length from funext fun x => List.length_map ..]
      exact hr20
    · obtain ⟨ns, hns, rfl⟩ := List.mem_map.mp hr
      obtain ⟨s, _, rfl⟩ := List.mem_map.mp hd
      exact dn_str
  have hstr : ∀ r ∈ rows.map (·.map D.str), ∀ d ∈ r, StrD d := by
    intro r hr d hd
    obtain ⟨ns, hns, rfl⟩ := List.mem_map.mp hr
    obtain ⟨s, hs, rfl⟩ := List.mem_map.mp hd
    exact ⟨s, rfl, (hrows.2.2 ns hns s hs).mono (by omega)⟩
  generalize rows.map (·.map D.str) = R at hrs hR hstr
  have hdat := dato_rows hrs
  have hR10 := hR.1
  have hrl : rs.length = R.length := by rw [← hrs, List.length_map]
  refine SW.seq (SW.asg (EF.toW (EF.lendO 2 ⟨_, _, rfl, EF.lcFil R.zipIdx (fun q => .tup [.int (q.2 : Nat), .lst q.1]) (fun q => !PyData.eqv (D.lst q.1).py (D.lst []).py) (fun q => ((q.2 : Nat) : Int)) .int rfl (IW.enum ?_)⟩)))
  rw [hdat]
  walk_at "e"
  refine ⟨?_, le1000 (by simp; omega), fun q hq => GW.nm2 ⟨rfl, ?_⟩, ?_, ?_⟩
  · rw [enum_any, List.zipIdx_map, List.map_map]; rfl
  · walk_at "e"
    have hq1 : q.1 ∈ R := by have := List.mk_mem_zipIdx_iff_getElem?.mp hq; exact List.mem_of_getElem? this
    obtain ⟨ns, hns⟩ := all_map (f := D.str) fun d hd => (hstr _ hq1 d hd).imp fun s h => h.1
    refine RW2.uNeD ?_ (cmp_strs (l := []) fun _ h => nomatch h) ⟨_, rfl, rfl, rfl, fun _ => ?_⟩
    · rw [hns]
      refine cmp_strs fun s hs => ?_
      obtain ⟨s', e, h⟩ := hstr _ hq1 (.str s) (by rw [hns]; exact List.mem_map.mpr ⟨s, hs, rfl⟩)
      cases e; exact h.2
    · walk_at "e"
      exact ⟨rfl, rfl⟩
  · intro d hd
    obtain ⟨n, _, rfl⟩ := List.mem_map.mp hd
    rfl
  have hfull : ∀ n ∈ ((R.zipIdx.filter fun q => !PyData.eqv (D.lst q.1).py (D.lst []).py).map fun q => ((q.2 : Nat) : Int)), ∃ k : Nat, n = k ∧ ∃ r, R[k]? = some r ∧ 0 < r.length := by
    intro n hn
    obtain ⟨q, hq, rfl⟩ := List.mem_map.mp hn
    obtain ⟨h1, h2⟩ := List.mem_filter.mp hq
    refine ⟨q.2, rfl, q.1, List.mk_mem_zipIdx_iff_getElem?.mp h1, ?_⟩
    cases hq : q.1 with
    | nil => rw [hq] at h2; cases h2
    | cons a r => simp
  have hfl : ((R.zipIdx.filter fun q => !PyData.eqv (D.lst q.1).py (D.lst []).py).map fun q => ((q.2 : Nat) : Int)).length ≤ 10 := by
    rw [List.length_map]
    exact Nat.le_trans (List.length_filter_le _ _) (by simpa using hR10)
  generalize ((R.zipIdx.filter fun q => !PyData.eqv (D.lst q.1).py (D.lst []).py).map fun q => ((q.2 : Nat) : Int)) = full at hfull hfl
  clear hrows hr10 hr20
  refine SW.seq (SW.ite (TW.mono (QT := fun bb c' => c' = c1 ∧ (bb = false → 0 < full.length)) ?_ ?_))
  · walk_at "e"
    refine RW2.uEqD cmp_ints (cmp_ints (l := [])) ?_
    walk_at "e"
    refine ⟨fun h => ⟨rfl, fun h => nomatch h⟩, fun h => ?_⟩
    walk_at "e"
    refine ⟨rfl, fun _ => ?_⟩
    cases hf : full with
    | nil => rw [hf] at h; cases h
    | cons a r => simp
  rintro bb c2 ⟨rfl, hbb⟩
  refine ⟨fun hb => ?_, fun hb => ?_⟩
  · refine SW.freezeIn 2 ⟨_, _, rfl, ?_⟩
    have hitems : (rs.map fun r => D.lst r.2) = R.map .lst := by rw [← hrs, List.map_map]; rfl
    rw [hitems]
    refine SW.seq (SW.ins ⟨_, _, rfl, small1000 (by rw [List.length_map]; omega), EW.flat ?_⟩)
    have hml : (R.map D.lst).length = R.length := List.length_map ..
    walk_at "w"
    rename_i at_ c3 hat0 hat1 hc3
    refine ⟨rfl, _, rfl, by omega, by omega, ?_⟩
    walk_at "w"
    refine RW2.ixAny (by omega) (by simp; omega) fun d hd => ?_
    simp only [List.mem_cons, List.not_mem_nil, or_false] at hd
    have hd : ItemOk d ∧ szI d ≤ 1 := by
      rcases hd with rfl | rfl | rfl
      · refine ⟨⟨_, .inl rfl, fun c hc => ?_⟩, by decide⟩
        obtain rfl := List.mem_singleton.mp hc
        exact dn_str
      · exact ⟨⟨_, .inl rfl, fun c hc => nomatch hc⟩, by decide⟩
      · exact ⟨⟨_, .inr rfl, fun c hc => nomatch hc⟩, by decide⟩
    refine fin _ _ _ _ _ rfl rfl ?_ (by omega)
    obtain ⟨_, e, h12, hit, hsum⟩ := (show RowsD 21 R from ⟨hR.1, Nat.le_trans hR.2.1 (by omega), hR.2.2⟩).thing
    have hs20 : ((R.map D.lst).map szI).sum ≤ 20 := by rw [List.map_map]; exact hR.2.1
    refine ⟨_, rfl, ?_, ?_, ?_⟩
    · simp only [List.length_append, List.length_take, List.length_drop, List.length_singleton]; omega
    · intro x hx
      injection e with e
      rcases List.mem_append.mp hx with h | h
      · rcases List.mem_append.mp h with h | h
        · exact hit x (e ▸ List.mem_of_mem_take h)
        · obtain rfl := List.mem_singleton.mp h; exact hd.1
      · exact hit x (e ▸ List.mem_of_mem_drop h)
    · have h1 : ((R.map D.lst).map szI).sum = (((R.map D.lst).take at_.toNat).map szI).sum + (((R.map D.lst).drop at_.toNat).map szI).sum := by
        rw [← List.sum_append_nat, ← List.map_append, List.take_append_drop]
      have h2 := hd.2
      rw [List.map_append, List.map_append, List.sum_append_nat, List.sum_append_nat]
      simp only [List.map_cons, List.map_nil, List.sum_cons, List.sum_nil]
      omega
  · have hf0 := hbb hb
    refine SW.next (SW.seq (SW.parVV ?_))
    walk_at "w"
    refine RW2.ixAny (by omega) (by walk_at "p") fun d hd => ?_
    obtain ⟨n1, hn1, rfl⟩ := List.mem_map.mp hd
    obtain ⟨k, rfl, r, hk, hkr⟩ := hfull n1 hn1
    walk_at "w"
    refine RW2.ixAny (by omega) (by walk_at "p") fun d hd => ?_
    obtain ⟨n2, hn2, rfl⟩ := List.mem_map.mp hd
    obtain ⟨j, rfl, r2, hj, hjr⟩ := hfull n2 hn2
    have hkl : k < R.length := (List.getElem?_eq_some_iff.mp hk).1
    have hjl : j < R.length := (List.getElem?_eq_some_iff.mp hj).1
    have hr20 : ∀ r ∈ R, r.length ≤ 20 := fun r hr => Nat.le_trans (mem_le_sum (List.mem_map.mpr ⟨r, hr, rfl⟩)) hR.2.1
    have hkr20 := hr20 r (List.mem_of_getElem? hk)
    have hjr20 := hr20 r2 (List.mem_of_getElem? hj)
    have hatk : atI (R.map D.lst) k = some (.lst r) := by
      rw [atI_ge (by omega) (by walk_at "p"), Int.toNat_natCast, List.getElem?_map, hk]; rfl
    have hatj : atI (R.map D.lst) j = some (.lst r2) := by
      rw [atI_ge (by omega) (by walk_at "p"), Int.toNat_natCast, List.getElem?_map, hj]; rfl
    refine SW.seq (SW.asg (EW.lendO 2 ⟨_, _, rfl, ?_⟩))
    rw [hdat]
    walk_at "e"
    refine RW2.uIxL hatk ?_
    walk_at "e"
    rename_i at_ c5 hat0 hat1 hc5
    refine ⟨rfl, ?_⟩
    obtain ⟨q, rfl⟩ : ∃ q : Nat, at_ = q := ⟨at_.toNat, by omega⟩
    have hql : q < r.length := by omega
    have hixk : ixN rs.length (k : Int) = some k := by rw [ixN_ge (by omega) (by omega), Int.toNat_natCast]
    have hixj : ixN rs.length (j : Int) = some j := by rw [ixN_ge (by omega) (by omega), Int.toNat_natCast]
    have hrk : (rs.map (·.2))[k]? = some r := by rw [hrs]; exact hk
    have hrj : (rs.map (·.2))[j]? = some r2 := by rw [hrs]; exact hj
    have hxq : r[q]? = some r[q] := List.getElem?_eq_getElem hql
    have hatq : atI r (q : Int) = some r[q] := by rw [atI_ge (by omega) (by omega), Int.toNat_natCast]; exact hxq
    obtain ⟨s, hs, hsk⟩ := hstr r (List.mem_of_getElem? hk) r[q] (List.getElem_mem hql)
    have hdn : ∀ d ∈ r, Dn 2 d := hR.2.2 r (List.mem_of_getElem? hk)
    have hdn2 : ∀ d ∈ r2, Dn 2 d := hR.2.2 r2 (List.mem_of_getElem? hj)
    have thing : ∀ {rs' : List (Addr × List D)} {R' : List (List D)}, rs'.map (·.2) = R' → RowsD 21 R' → ThingOk (datO (.rows rs')) := fun e h => by rw [dato_rows e]; exact h.thing
    have hitems : (rs.map fun r => D.lst r.2) = R.map .lst := by rw [← hrs, List.map_map]; rfl
    have hR21 : RowsD 21 R := ⟨hR.1, Nat.le_trans hR.2.1 (by omega), hR.2.2⟩
    refine SW.seq (SW.ite ?_)
    walk_at "e"
    refine ⟨fun _ => ?_, fun _ => ?_⟩
    · refine SW.rowMove ⟨_, _, rfl, ?_⟩
      walk_at "e"
      rename_i i_ c6 hi0 hi1 hc6
      have hil : i_.toNat < R.length := by rw [List.length_map] at hi1; omega
      refine ⟨_, _, rfl, ixN_ge hi0 (by omega), ?_⟩
      walk_at "e"
      refine ⟨_, k, r, rfl, hixk, hrk, ?_⟩
      walk_at "e"
      have hil2 : i_.toNat < (R.set k (r.eraseIdx q)).length := by rw [List.length_set]; exact hil
      have hf : (R.set k (r.eraseIdx q))[i_.toNat]? = some (R.set k (r.eraseIdx q))[i_.toNat] := List.getElem?_eq_getElem hil2
      have h1 : RowsD 19 (R.set k (r.eraseIdx q)) := hR.set hk (by rw [List.length_eraseIdx_of_lt hql]; omega) fun d hd => hdn d (List.mem_of_mem_eraseIdx hd)
      have hfm : (R.set k (r.eraseIdx q))[i_.toNat] ∈ R.set k (r.eraseIdx q) := List.getElem_mem hil2
      generalize (R.set k (r.eraseIdx q))[i_.toNat] = fs at hf hfm
      have hfl : fs.length ≤ 19 := Nat.le_trans (mem_le_sum (List.mem_map.mpr ⟨fs, hfm, rfl⟩)) h1.2.1
      refine ⟨_, q, r[q], fs, rfl, by omega, by omega, (ixN_seq (ixN_ge (by omega) (by omega))).1.trans (by rw [Int.toNat_natCast]), hxq, by rw [setR_snd, hrs]; exact hf, small1000 (by omega), ?_⟩
      refine fin _ _ _ _ _ rfl rfl (thing (by rw [setR_snd, setR_snd, hrs]) (h1.set hf (by rw [List.length_append, List.length_singleton]; omega) fun d hd => ?_)) (by omega)
      rcases List.mem_append.mp hd with h | h
      · exact h1.2.2 fs hfm d h
      · obtain rfl := List.mem_singleton.mp h; exact hdn _ (List.getElem_mem hql)
    · walk_at "w"
      refine ⟨fun _ => ?_, fun _ => ?_⟩
      · refine SW.seq (SW.asg (EW.lendO 2 ⟨_, _, rfl, ?_⟩))
        rw [hdat]
        walk_at "e"
        refine RW2.uIxL hatj ?_
        walk_at "e"
        rename_i pl c6 hpl0 hpl1 hc6
        refine ⟨rfl, ?_⟩
        obtain ⟨q2, rfl⟩ : ∃ q : Nat, pl = q := ⟨pl.toNat, by omega⟩
        have hq2 : q2 < r2.length := by omega
        refine SW.seq (SW.asg ?_)
        walk_at "e"
        refine ⟨_, k, r, rfl, hixk, hrk, ?_⟩
        walk_at "e"
        refine ⟨_, _, rfl, hatq, ?_⟩
        refine SW.seq (SW.rowStore ⟨_, _, rfl, ?_⟩)
        walk_at "e"
        refine ⟨_, j, r2, rfl, hixj, hrj, ?_⟩
        walk_at "e"
        refine ⟨_, r2[q2], rfl, by rw [atI_ge (by omega) (by omega), Int.toNat_natCast]; exact List.getElem?_eq_getElem hq2, ?_⟩
        walk_at "e"
        refine ⟨_, k, r, rfl, hixk, hrk, ?_⟩
        walk_at "e"
        refine ⟨_, q, rfl, by rw [ixN_ge (by omega) (by omega), Int.toNat_natCast], ?_⟩
        have h1 : RowsD 20 (R.set k (r.set q r2[q2])) := hR.set hk (by rw [List.length_set]; omega) fun d hd => by
          rcases mem_set hd with h | rfl
          · exact hdn d h
          · exact hdn2 _ (List.getElem_mem hq2)
        have hes2 : ∃ es2, (R.set k (r.set q r2[q2]))[j]? = some es2 ∧ es2.length = r2.length := by
          by_cases e : k = j
          · subst e
            have : r = r2 := by rw [hk] at hj; cases hj; rfl
            subst this
            exact ⟨_, by rw [List.getElem?_set_self hkl], List.length_set ..⟩
          · exact ⟨r2, by rw [List.getElem?_set_ne e]; exact hj, rfl⟩
        obtain ⟨es2, he2, hel⟩ := hes2
        refine SW.rowStore ⟨_, _, rfl, ?_⟩
        walk_at "e"
        have hsl : (setR rs k (r.set q r2[q2])).length = R.length := by
          have := congrArg List.length (setR_snd (rs := rs) (k := k) (es := r.set q r2[q2])); rw [List.length_map, hrs, List.length_set] at this; exact this
        refine ⟨_, j, es2, rfl, by rw [ixN_ge (by omega) (by omega), Int.toNat_natCast], by rw [setR_snd, hrs]; exact he2, ?_⟩
        walk_at "e"
        refine ⟨_, q2, rfl, by rw [ixN_ge (by omega) (by omega), Int.toNat_natCast], ?_⟩
        refine fin _ _ _ _ _ rfl rfl (thing (by rw [setR_snd, setR_snd, hrs]) (h1.set he2 (by rw [List.length_set]; omega) fun d hd => ?_)) (by omega)
        rcases mem_set hd with h | rfl
        · exact h1.2.2 es2 (List.mem_of_getElem? he2) d h
        · exact hdn _ (List.getElem_mem hql)
      · walk_at "w"
        refine ⟨fun _ => ?_, fun _ => ?_⟩
        · refine SW.rowPop ⟨_, _, rfl, ?_⟩
          walk_at "e"
          refine ⟨_, k, r, rfl, hixk, hrk, ?_⟩
          walk_at "e"
          refine ⟨_, q, rfl, by omega, by omega, (ixN_seq (ixN_ge (by omega) (by omega))).1.trans (by rw [Int.toNat_natCast]), hql, ?_⟩
          refine fin _ _ _ _ _ rfl rfl (thing (by rw [setR_snd, hrs]) (hR.set hk (by rw [List.length_eraseIdx_of_lt hql]; omega) fun d hd => hdn d (List.mem_of_mem_eraseIdx hd))) (by omega)
        · walk_at "w"
          refine ⟨fun _ => ?_, fun _ => ?_⟩
          · refine SW.rowApp ⟨_, _, rfl, ?_⟩
            walk_at "e"
            refine ⟨_, j, r2, rfl, hixj, hrj, small1000 (by omega), ?_⟩
            walk_at "e"
            refine ⟨_, k, r, rfl, hixk, hrk, ?_⟩
            walk_at "e"
            refine ⟨_, _, rfl, hatq, ?_⟩
            refine fin _ _ _ _ _ rfl rfl (thing (by rw [setR_snd, hrs]) (hR.set hj (by rw [List.length_append, List.length_singleton]; omega) fun d hd => ?_)) (by omega)
            rcases List.mem_append.mp hd with h | h
            · exact hdn2 d h
            · obtain rfl := List.mem_singleton.mp h; exact hdn _ (List.getElem_mem hql)
          · walk_at "w"
            refine ⟨fun _ => ?_, fun _ => ?_⟩
            · refine SW.freezeIn 2 ⟨_, _, rfl, ?_⟩
              rw [hitems]
              refine SW.popAt ⟨_, _, rfl, ?_⟩
              walk_at "e"
              have hkm : k < (R.map D.lst).length := by rw [List.length_map]; exact hkl
              refine ⟨_, k, rfl, by omega, by omega, (ixN_seq (ixN_ge (by omega) (by omega))).1.trans (by rw [Int.toNat_natCast]), hkm, ?_⟩
              refine fin _ _ _ _ _ rfl rfl (thing_sub (List.eraseIdx_sublist _ _) hR21.thing) (by omega)
            · walk_at "w"
              refine ⟨fun _ => ?_, fun _ => ?_⟩
              · refine SW.freezeIn 2 ⟨_, _, rfl, ?_⟩
                rw [hitems]
                refine SW.store ⟨_, _, rfl, ?_⟩
                walk_at "e"
                refine ⟨_, _, rfl, hatk, ?_⟩
                walk_at "e"
                refine RCW.tuple (.inl rfl) ?_
                walk_at "e"
                have hkm : k < (R.map D.lst).length := by rw [List.length_map]; exact hkl
                refine ⟨_, k, rfl, by rw [ixN_ge (by omega) (by omega), Int.toNat_natCast], ?_⟩
                refine fin _ _ _ _ _ rfl rfl (thing_set (x := .lst r) hR21.thing (by rw [List.getElem?_map, hk]; rfl) ⟨r, .inr rfl, hdn⟩ (Nat.le_refl _)) (by omega)
              · refine SW.rowStore ⟨_, _, rfl, ?_⟩
                walk_at "e"
                refine ⟨_, k, r, rfl, hixk, hrk, ?_⟩
                walk_at "e"
                refine ⟨_, _, rfl, hatq, ?_⟩
                rw [hs]
                refine EW.cstr (RW2.uAdds (le1000 (by have := hsk.1; have e : ("x" : Str).length = 1 := rfl; omega)) ?_)
                walk_at "e"
                refine ⟨_, k, r, rfl, hixk, hrk, ?_⟩
                walk_at "e"
                refine ⟨_, _, rfl, hatq, ?_⟩
                walk_at "e"
                refine RW2.ixAny (by omega) (by simp; omega) fun d hd => ?_
                have hd : Dn 2 d := by
                  simp only [List.mem_cons, List.not_mem_nil, or_false] at hd
                  rcases hd with rfl | rfl | rfl | rfl | rfl
                  · exact dn_str
                  · exact dn_str
                  · exact .inl rfl
                  · exact .inr (.inr (.inl ⟨1, rfl⟩))
                  · refine .inr (.inr (.inr (.inr ⟨_, .inl rfl, by simp, fun x hx => ?_⟩)))
                    obtain rfl := List.mem_singleton.mp hx
                    rw [hs]; exact .inr (.inr (.inr (.inl ⟨s, rfl⟩)))
                walk_at "e"
                refine ⟨_, k, r, rfl, hixk, hrk, ?_⟩
                walk_at "e"
                refine ⟨_, q, rfl, by rw [ixN_ge (by omega) (by omega), Int.toNat_natCast], ?_⟩
                refine fin _ _ _ _ _ rfl rfl (thing (by rw [setR_snd, hrs]) (hR.set hk (by rw [List.length_set]; omega) fun d' hd' => ?_)) (by omega)
                rcases mem_set hd' with h | rfl
                · exact hdn d' h
                · exact hd
end
end K12
namespace K12
open PySem PySem.Spec PyProof.Rows L2 Q
local macro_rules | `(tactic| walk_at "p") => `(tactic| first | omega | (simp only [List.length_map, List.length_cons, List.length_nil, List.length_append, List.length_set]; first | done | omega) | (refine .inl ⟨?_, ?_⟩ <;> omega) | (refine .inr ⟨?_, ?_⟩ <;> omega) | (refine ⟨?_, ?_⟩ <;> omega) | exact .inr (b01 _) | exact .inl (b01 _) | exact le1000 (by first | decide | (simp only [List.length_map, List.length_cons, List.length_nil, List.length_append, List.length_set]; first | done | omega) | omega) | decide)
local macro_rules | `(tactic| walk_at "s") => `(tactic| with_reducible (first
  | refine EW.cint ?_ | refine EW.cstr ?_ | refine EW.cbl ?_ | refine EW.cnon ?_ | refine EW.cty ?_
  | refine AW.nil ?_ | refine AW.cons ?_
  | refine EW.ite ?_ | refine EW.andV ?_ | refine EW.orV ?_ | refine EW.notV ?_ | refine TW.test ?_ | refine TW.tB ?_ | refine TW.and ?_ | refine TW.or ?_ | refine TW.not ?_ | refine TW.yes ?_
  | refine EW.callV ?_ | refine EW.cb ?_ | refine EW.neg ?_ | refine EW.tup ?_ | refine EF.toW (EF.lst ?_) | refine EF.lst ?_
  | refine RW2.ii ?_ | refine RW2.ib ?_ | refine RW2.uAddi ?_ | refine RW2.isN ?_ | refine RW2.notN ?_ | refine RW2.isB ?_ | refine RW2.notB ?_
  | refine RCW.abs ?_ | refine RCW.max2 ?_ | refine RCW.min2 ?_ | refine RCW.inti ?_ | refine RCW.intb ?_))
local macro_rules | `(tactic| walk_at "v") => `(tactic| first
  | ((with_reducible apply EW.var); (· rfl)) | ((with_reducible refine EW.callB ?_ ?_); (· rfl))
  | ((with_reducible refine EW.bx0 ?_ fun _ => ?_); (· exact ⟨rfl, rfl⟩)) | ((with_reducible refine EW.bx1 ?_ fun _ _ _ => ?_); (· exact ⟨rfl, rfl⟩)) | ((with_reducible refine EW.bx2 ?_ ?_); (· exact ⟨rfl, rfl⟩))
  | ((with_reducible apply EW.rowIxO); (· exact ⟨rfl, rfl, rfl⟩)) | ((with_reducible apply EW.ixO); (· exact ⟨rfl, rfl⟩)) | ((with_reducible apply EW.varOwn); (· rfl)) | (with_reducible refine EW.op ?_)
  | ((with_reducible refine RW2.ci ?_ ?_); (· walk_at "p")) | ((with_reducible refine RW2.uMuli ?_ ?_); (· walk_at "p")))
local macro_rules | `(tactic| walk_at "d") => `(tactic| first
  | refine RW2.uEqi ?_ | refine RW2.uEqs ?_ | refine RW2.uEqb ?_ | refine RW2.uNei ?_ | refine RW2.uNes ?_ | refine RW2.uNeb ?_
  | refine RW2.uIxT rfl ?_ | refine RW2.uIxL rfl ?_
  | refine RCW.len rfl ?_ | refine RCW.isi (b := false) (fun _ h => nomatch h) (fun _ h => nomatch h) rfl ?_ | refine RCW.isi (b := true) (fun _ h => nomatch h) (fun _ h => nomatch h) rfl ?_ | refine TW.tru ?_
  | refine ⟨_, rfl, ⟨by walk_at "p", by walk_at "p", by walk_at "p"⟩, fun _ _ _ _ _ => ?_⟩
  | refine ⟨(fun _ h => nomatch h), (fun _ h => nomatch h), false, false, false, rfl, rfl, rfl, ?_⟩ | refine ⟨(fun _ h => nomatch h), (fun _ h => nomatch h), true, false, true, rfl, rfl, rfl, ?_⟩ | refine ⟨(fun _ h => nomatch h), (fun _ h => nomatch h), false, true, true, rfl, rfl, rfl, ?_⟩
  | refine ⟨le1000 (by first | decide | (simp only [List.length_map, List.length_cons, List.length_nil, List.length_append, List.length_set]; first | done | omega)), ?_⟩ | refine ⟨_, rfl, ?_⟩)
local macro_rules | `(tactic| walk_at "e") => `(tactic| repeat (first | ((with_reducible refine EW.isi2 ?_ ?_); (· rfl)) | ((with_reducible apply EW.lenO); (· exact ⟨rfl, rfl⟩); (· rfl)) | walk_at "s" | walk_at "v" | walk_at "d"))
local macro_rules | `(tactic| walk_at "c") => `(tactic| first | refine br_t rfl ?_ | refine br_f rfl ?_ | refine br_t (decide_eq_true rfl) ?_)
local macro_rules | `(tactic| walk_at "w") => `(tactic| repeat (first | ((with_reducible refine EW.isi2 ?_ ?_); (· rfl)) | ((with_reducible apply EW.lenO); (· exact ⟨rfl, rfl⟩); (· rfl)) | walk_at "s" | walk_at "v" | (with_reducible first | refine SW.seq ?_ | refine SW.ite ?_ | refine SW.ret ?_ | refine SW.next ?_) | walk_at "d" | walk_at "c"))
section
variable {P : Program} {w : World} {K : Frag} {mg : Str → Option Value} {base : Heap}
def Cm (n : Nat) (d : D) : Prop := d.plain = true ∧ d.py.canLay0 = true ∧ d.py.depth ≤ n
theorem cm_all {n : Nat} : ∀ {l : List D}, (∀ d ∈ l, Cm n d) → plains l = true ∧ PyData.canLayAll0 (pys l) = true ∧ PyData.depthAll (pys l) ≤ n
  | [], _ => by simp [plains, pys, PyData.canLayAll0, PyData.depthAll]
  | d :: r, h => by
    obtain ⟨a, b, c⟩ := cm_all (l := r) fun x hx => h x (List.mem_cons_of_mem _ hx)
    obtain ⟨a', b', c'⟩ := h d (by simp)
    simp only [plains, pys, PyData.canLayAll0, PyData.depthAll, Bool.and_eq_true]
    exact ⟨⟨a', a⟩, ⟨b', b⟩, by omega⟩
theorem Cm.lst {n m : Nat} {l : List D} (h : ∀ d ∈ l, Cm n d) (hm : n + 1 ≤ m) : Cm m (.lst l) := by
  obtain ⟨a, b, c⟩ := cm_all h
  unfold Cm
  simp only [D.plain, D.py, PyData.canLay0, PyData.depth]
  exact ⟨a, b, by omega⟩
theorem Cm.tup {n m : Nat} {l : List D} (h : ∀ d ∈ l, Cm n d) (hm : n + 1 ≤ m) : Cm m (.tup l) := by
  obtain ⟨a, b, c⟩ := cm_all h
  unfold Cm
  simp only [D.plain, D.py, PyData.canLay0, PyData.depth]
  exact ⟨a, b, by omega⟩
theorem Cm.int {n : Nat} {i : Int} : Cm n (.int i) := by unfold Cm; simp [D.plain, D.py, PyData.canLay0, PyData.depth]
theorem Cm.str {n : Nat} {s : Str} (h : PyData.strOk s = true) : Cm n (.str s) := by unfold Cm; simp [D.plain, D.py, PyData.canLay0, PyData.depth, h]
theorem Cm.cmp {n : Nat} {l : List D} (h : ∀ d ∈ l, Cm n d) (hn : n ≤ 60) : (D.lst l).cmp = true := cmp_lst fun d hd => ⟨(h d hd).1, (h d hd).2.1, Nat.le_trans (h d hd).2.2 hn⟩
theorem loads_cm {ls : List (Str × Int)} (h : LoadsOk ls) : Cm 5 (.lst (ls.map ldD)) := by
  refine Cm.lst (n := 4) (fun d hd => ?_) (Nat.le_refl _)
  obtain ⟨p, hp, rfl⟩ := List.mem_map.mp hd
  refine Cm.tup (n := 3) (fun d hd => ?_) (Nat.le_refl _)
  simp only [List.mem_cons, List.not_mem_nil, or_false] at hd
  rcases hd with rfl | rfl
  · exact Cm.str (h.2.1 p hp).1.2
  · exact Cm.int
theorem ints_cm {ss : List Int} : Cm 5 (.lst (ss.map .int)) := by
  refine Cm.lst (n := 4) (fun d hd => ?_) (Nat.le_refl _)
  obtain ⟨p, hp, rfl⟩ := List.mem_map.mp hd
  exact Cm.int
theorem thing_dn {d : D} (h : ThingOk d) : Dn 4 d := by
  obtain ⟨xs, rfl, h1, h2, h3⟩ := h
  refine .inr (.inr (.inr (.inr ⟨xs, .inl rfl, by omega, fun x hx => ?_⟩)))
  obtain ⟨cs, e, hc⟩ := h2 x hx
  have h4 : cs.length ≤ 21 := by
    refine Nat.le_trans ?_ h3
    refine Nat.le_trans ?_ (mem_le_sum (List.mem_map.mpr ⟨x, hx, rfl⟩))
    rcases e with rfl | rfl <;> exact Nat.le_refl _
  exact .inr (.inr (.inr (.inr ⟨cs, e, by omega, hc⟩)))
def sp__law_right : PB := fun c ds P => ∃ (ls : List (Str × Int)) (ss : List Int) (d : D), ds = [.lst (ls.map ldD), .lst (ss.map .int), d] ∧ (LoadsOk ls ∧ StrengthsOk ss ∧ ThingOk d ∧ c < 2 ^ 40 - 100) ∧ ∀ c' : Nat, c' ≤ c + 10 → P (.bl true) c'
theorem ok__law_right (T : Txt K mg) : FnOk P w K mg base CX0 6 T.f__law_right T.fd__law_right ["_law_box_here", "_law_loads_here", "_law_strengths_here", "_law_rows"] (spB K sp__law_right) := by
  refine T.F__law_right.ok sc__law_right (fun vs H Q E h => lenB (fun c ds P h => by obtain ⟨_, _, _, rfl, _⟩ := h; rfl) h) (fun cdv A outer s H vs Q E hr h => ⟨_, (pss_cons (ps_par (i := 4) (j := 5) rfl sc__law_right.nd rfl rfl (by decide) rfl rfl (pa_cons (pe_call (ok__law_copied T 4) (hr.mono (by first | decide | omega)) (by rfl) T.g__law_copied T.F__law_copied.kp T.bd__law_copied .nil pass0 (pa_cons (pv 3) pa_nil)) (pa_cons (pe_lst (pa_cons (pe_callTy (k_lst (K' := K) rfl) (by rfl) T.b_list boot_list (pa_cons (pv 1) pa_nil)) (pa_cons (pe_callTy (k_lst (K' := K) rfl) (by rfl) T.b_list boot_list (pa_cons (pv 2) pa_nil)) pa_nil))) pa_nil)) (by rfl))
    (pss_cons (ps_setLc (i := 6) (own := [("_law_strength", 7)]) rfl sc__law_right.nd rfl rfl (sw_true rfl rfl rfl (by decide +kernel)) (k_plist (K' := K) rfl (pv 2)) (blkOk_by (N := N__law_right) (sc := defScope s__law_right) (by decide +kernel)) (fun _ _ _ _ _ => (pg_name (i := 7) sc__law_right.nd rfl (Or.inl rfl))) (fun _ _ _ _ _ => pts_nil) (fun _ _ _ _ _ => (pe_callB (u_max2 rfl) (by rfl) T.b_max boot_max (pa_cons pe_int (pa_cons (pe_callB (u_min2 rfl) (by rfl) T.b_min boot_min (pa_cons (pe_op op_pow pe_int pe_int) (pa_cons (pe_op op_sub (pe_op u_add (pv 7) (pe_call (ok__law_take T) (hr.mono (by decide)) (by rfl) T.g__law_take T.F__law_take.kp T.bd__law_take .nil pass0 (pa_cons (pv 0) (pa_cons pe_int pa_nil)))) pe_int) pa_nil))) pa_nil)))))
    (pss_cons (ps_for PassesOwn.never rfl (k_ptup (K' := K) rfl (pe_tup (pa_cons (pv 2) (pa_cons (pv 6) pa_nil)))) (pg_name (i := 8) sc__law_right.nd rfl (Or.inl rfl))
    (pss_cons (ps_set (i := 9) sc__law_right.nd rfl (Or.inl rfl) (pe_call (ok__law_shown T) (hr.mono (by decide)) (by rfl) T.g__law_shown T.F__law_shown.kp T.bd__law_shown .nil pass0 (pa_cons (pv 1) (pa_cons (pv 8) (pa_cons (pe_tup (pa_cons pe_str (pa_cons (pv 3) pa_nil))) pa_nil)))))
    (pss_one (ps_if (pt_not (pt_tru (pe_call (ok__law_same T 4) (hr.mono (by first | decide | omega)) (by rfl) T.g__law_same T.F__law_same.kp T.bd__law_same .nil pass0 (pa_cons (pe_call (ok_shows_laden T) (hr.mono (by decide)) (by rfl) T.g_shows_laden T.F_shows_laden.kp T.bd_shows_laden .nil pass0 (pa_cons (pv 1) (pa_cons (pv 8) (pa_cons (pe_tup (pa_cons pe_str (pa_cons (pv 3) pa_nil))) pa_nil)))) (pa_cons (pv 9) pa_nil))) (fun _ => rfl))) (pss_one (ps_ret pe_bl)) pss_nil))))
    (pss_one (ps_ret (pe_and (pe_call (ok__law_same T 4) (hr.mono (by first | decide | omega)) (by rfl) T.g__law_same T.F__law_same.kp T.bd__law_same .nil pass0 (pa_cons (pv 3) (pa_cons (pv 4) pa_nil))) (pe_one (pe_cmpR (k_eq (K' := K) rfl (hu64 hr)) (pe_lst (pa_cons (pv 1) (pa_cons (pv 2) pa_nil))) (pv 5) (nomark _))))))))), runB (n := 4) (fun c ds P h => by obtain ⟨_, _, _, rfl, _⟩ := h; rfl) (by decide) ?_ h⟩)
  rintro b c ds P ⟨ls, ss, d, rfl, ⟨hls, hss, hd, hc⟩, hP⟩
  have hl20 := hls.1
  have hs10 := hss.1
  refine SW.seq (SW.parVV ?_)
  walk_at "e"
  refine ⟨thing_dn hd, ?_⟩
  walk_at "e"
  refine RCW.ofF (RCF.list (.inl rfl) ?_)
  walk_at "e"
  refine RCW.ofF (RCF.list (.inl rfl) ?_)
  walk_at "e"
  refine SW.seq (SW.asg (EF.toW (EF.lcDraw (fun _ y => ∃ m : Int, y = .int m ∧ 0 ≤ m ∧ m ≤ 1000000) 1 rfl (IW.list ?_))))
  walk_at "e"
  have e6 : (10 : Int) ^ Int.toNat 6 = 1000000 := by decide
  refine ⟨?_, ?_⟩
  · intro i d c2 hi hc2
    have hil : i < 10 := by
      obtain ⟨h, _⟩ := List.getElem?_eq_some_iff.mp hi
      rw [List.length_map] at h; omega
    obtain ⟨s, hs, rfl⟩ := List.mem_map.mp (List.mem_of_getElem? hi)
    refine GW.name ⟨rfl, ?_⟩
    walk_at "e"
    refine ⟨?_, by omega⟩
    rw [e6]
    refine ⟨_, rfl, ?_, ?_⟩ <;> split <;> split <;> omega
  intro ys c2 hp hc2
  obtain ⟨hyl, hy⟩ := paired_all (ψ := fun y => ∃ m : Int, y = .int m ∧ 0 ≤ m ∧ m ≤ 1000000) hp fun _ _ _ h => h
  obtain ⟨ms, rfl, hms⟩ := all_mapP hy
  rw [List.length_map, List.length_map] at hyl
  rw [List.length_map] at hc2
  have hms' : StrengthsOk ms := ⟨by omega, hms⟩
  refine SW.seq (SW.for_ (is := [8]) (IW.tup ?_))
  walk_at "e"
  refine ⟨fun i ρ c => c = c2 ∧ ∃ s1 s2, ρ = [.box, .val (.lst (ls.map ldD)), .val (.lst (ss.map .int)), .val d, .val d, .val (.lst [.lst (ls.map ldD), .lst (ss.map .int)]), .val (.lst (ms.map .int)), .no, s1, s2], ⟨rfl, .no, .no, rfl⟩, ?_, ?_⟩
  · rintro i y ρ1 c3 hi ⟨rfl, s1, s2, rfl⟩
    have hy : ∃ ts, y = .lst (ts.map .int) ∧ StrengthsOk ts := by
      have := List.mem_of_getElem? hi
      simp only [List.mem_cons, List.not_mem_nil, or_false] at this
      rcases this with rfl | rfl
      · exact ⟨ss, rfl, hss⟩
      · exact ⟨ms, rfl, hms'⟩
    obtain ⟨ts, rfl, hts⟩ := hy
    refine GW.name (SW.seq (SW.asg ?_))
    walk_at "e"
    refine ⟨ls, ts, d, rfl, ⟨hls, hts, .inl hd⟩, fun b1 hb1 => ?_⟩
    refine SW.ite ?_
    walk_at "e"
    refine ⟨ls, ts, d, rfl, ⟨hls, hts, .inl hd⟩, fun b2 hb2 => ?_⟩
    have hbb : b2 = b1 := by
      have h := hb1.trans hb2.symm
      cases b1 <;> cases b2 <;> simp at h ⊢
    subst hbb
    walk_at "e"
    refine ⟨.inr (.inl ⟨b2, rfl⟩), ?_⟩
    walk_at "w"
    exact ⟨rfl, _, _, rfl⟩
  · rintro ρ1 c3 ⟨rfl, s1, s2, rfl⟩
    walk_at "w"
    refine ⟨thing_dn hd, ?_⟩
    walk_at "w"
    have hcm := Cm.cmp (l := [.lst (ls.map ldD), .lst (ss.map .int)]) (n := 5) (fun x hx => by
      simp only [List.mem_cons, List.not_mem_nil, or_false] at hx
      rcases hx with rfl | rfl
      · exact loads_cm hls
      · exact ints_cm) (by omega)
    refine RW2.uEqD hcm hcm ?_
    rw [eqv_self hcm]
    exact hP _ (by omega)
end
end K12
namespace K12
open PySem PySem.Spec PyProof.Rows L2 Q
local macro_rules | `(tactic| walk_at "p") => `(tactic| first | omega | (simp only [List.length_map, List.length_cons, List.length_nil, List.length_append, List.length_set]; first | done | omega) | (refine .inl ⟨?_, ?_⟩ <;> omega) | (refine .inr ⟨?_, ?_⟩ <;> omega) | (refine ⟨?_, ?_⟩ <;> omega) | exact .inr (b01 _) | exact .inl (b01 _) | exact le1000 (by first | decide | (simp only [List.length_map, List.length_cons, List.length_nil, List.length_append, List.length_set]; first | done | omega) | omega) | decide)
local macro_rules | `(tactic| walk_at "s") => `(tactic| with_reducible (first
  | refine EW.cint ?_ | refine EW.cstr ?_ | refine EW.cbl ?_ | refine EW.cnon ?_ | refine EW.cty ?_
  | refine AW.nil ?_ | refine AW.cons ?_
  | refine EW.ite ?_ | refine EW.andV ?_ | refine EW.orV ?_ | refine EW.notV ?_ | refine TW.test ?_ | refine TW.tB ?_ | refine TW.and ?_ | refine TW.or ?_ | refine TW.not ?_ | refine TW.yes ?_
  | refine EW.callV ?_ | refine EW.cb ?_ | refine EW.neg ?_ | refine EW.tup ?_ | refine EF.toW (EF.lst ?_) | refine EF.lst ?_
  | refine RW2.ii ?_ | refine RW2.ib ?_ | refine RW2.uAddi ?_ | refine RW2.isN ?_ | refine RW2.notN ?_ | refine RW2.isB ?_ | refine RW2.notB ?_
  | refine RCW.abs ?_ | refine RCW.max2 ?_ | refine RCW.min2 ?_ | refine RCW.inti ?_ | refine RCW.intb ?_))
local macro_rules | `(tactic| walk_at "v") => `(tactic| first
  | ((with_reducible apply EW.var); (· rfl)) | ((with_reducible refine EW.callB ?_ ?_); (· rfl))
  | ((with_reducible refine EW.bx0 ?_ fun _ => ?_); (· exact ⟨rfl, rfl⟩)) | ((with_reducible refine EW.bx1 ?_ fun _ _ _ => ?_); (· exact ⟨rfl, rfl⟩)) | ((with_reducible refine EW.bx2 ?_ ?_); (· exact ⟨rfl, rfl⟩))
  | ((with_reducible apply EW.rowIxO); (· exact ⟨rfl, rfl, rfl⟩)) | ((with_reducible apply EW.ixO); (· exact ⟨rfl, rfl⟩)) | ((with_reducible apply EW.varOwn); (· rfl)) | (with_reducible refine EW.op ?_)
  | ((with_reducible refine RW2.ci ?_ ?_); (· walk_at "p")) | ((with_reducible refine RW2.uMuli ?_ ?_); (· walk_at "p")))
local macro_rules | `(tactic| walk_at "d") => `(tactic| first
  | refine RW2.uEqi ?_ | refine RW2.uEqs ?_ | refine RW2.uEqb ?_ | refine RW2.uNei ?_ | refine RW2.uNes ?_ | refine RW2.uNeb ?_
  | refine RW2.uIxT rfl ?_ | refine RW2.uIxL rfl ?_
  | refine RCW.len rfl ?_ | refine RCW.isi (b := false) (fun _ h => nomatch h) (fun _ h => nomatch h) rfl ?_ | refine RCW.isi (b := true) (fun _ h => nomatch h) (fun _ h => nomatch h) rfl ?_ | refine TW.tru ?_
  | refine ⟨_, rfl, ⟨by walk_at "p", by walk_at "p", by walk_at "p"⟩, fun _ _ _ _ _ => ?_⟩
  | refine ⟨(fun _ h => nomatch h), (fun _ h => nomatch h), false, false, false, rfl, rfl, rfl, ?_⟩ | refine ⟨(fun _ h => nomatch h), (fun _ h => nomatch h), true, false, true, rfl, rfl, rfl, ?_⟩ | refine ⟨(fun _ h => nomatch h), (fun _ h => nomatch h), false, true, true, rfl, rfl, rfl, ?_⟩
  | refine ⟨le1000 (by first | decide | (simp only [List.length_map, List.length_cons, List.length_nil, List.length_append, List.length_set]; first | done | omega)), ?_⟩ | refine ⟨_, rfl, ?_⟩)
local macro_rules | `(tactic| walk_at "e") => `(tactic| repeat (first | ((with_reducible refine EW.isi2 ?_ ?_); (· rfl)) | ((with_reducible apply EW.lenO); (· exact ⟨rfl, rfl⟩); (· rfl)) | walk_at "s" | walk_at "v" | walk_at "d"))
local macro_rules | `(tactic| walk_at "c") => `(tactic| first | refine br_t rfl ?_ | refine br_f rfl ?_ | refine br_t (decide_eq_true rfl) ?_)
local macro_rules | `(tactic| walk_at "w") => `(tactic| repeat (first | ((with_reducible refine EW.isi2 ?_ ?_); (· rfl)) | ((with_reducible apply EW.lenO); (· exact ⟨rfl, rfl⟩); (· rfl)) | walk_at "s" | walk_at "v" | (with_reducible first | refine SW.seq ?_ | refine SW.ite ?_ | refine SW.ret ?_ | refine SW.next ?_) | walk_at "d" | walk_at "c"))
section
variable {P : Program} {w : World} {K : Frag} {mg : Str → Option Value} {base : Heap}
def isBx : Slot → Bool
  | .box => true
  | _ => false
theorem noBx {ρ : _root_.Q.Env} {i : Nat} (h : (ρ.set i .no).all (fun s => !isBx s) = true) : ∀ j, j ≠ i → ρ[j]? ≠ some .box := fun j hj e => by
  have h2 : (ρ.set i .no)[j]? = some .box := by rw [List.getElem?_set_ne (Ne.symm hj)]; exact e
  have := List.all_eq_true.mp h _ (List.mem_of_getElem? h2)
  cases this
theorem SW.env {G : _root_.Q.Ctx} {ts : TS} {ρ : _root_.Q.Env} {c : Nat} {W : DW} (ρ' : _root_.Q.Env) (e : ρ = ρ') (h : SW G ts ρ' c W) : SW G ts ρ c W := e ▸ h
theorem rows_thing {rows : List (List Str)} (h : RowsOk rows) : ThingOk (.lst (rows.map rowD)) := by
  refine ⟨_, rfl, by rw [List.length_map]; have := h.1; omega, fun i hi => ?_, ?_⟩
  · obtain ⟨r, hr, rfl⟩ := List.mem_map.mp hi
    refine ⟨r.map .str, .inl rfl, fun c hc => ?_⟩
    obtain ⟨s, _, rfl⟩ := List.mem_map.mp hc
    exact dn_str
  · rw [List.map_map, show (szI ∘ rowD) = fun r : List Str => r.length from funext fun r => List.length_map ..]
    have := h.2.1; omega
theorem rows_rev {rows : List (List Str)} (h : RowsOk rows) : RowsOk rows.reverse := by
  refine ⟨by rw [List.length_reverse]; exact h.1, ?_, fun r hr => h.2.2 r (List.mem_reverse.mp hr)⟩
  rw [List.map_reverse, List.sum_reverse]; exact h.2.1
theorem rows_revs {rows : List (List Str)} (h : RowsOk rows) : RowsOk (rows.map List.reverse) := by
  refine ⟨by rw [List.length_map]; exact h.1, ?_, fun r hr s hs => ?_⟩
  · rw [List.map_map, show ((fun x : List Str => x.length) ∘ List.reverse) = fun x => x.length from funext fun x => List.length_reverse]
    exact h.2.1
  · obtain ⟨q, hq, rfl⟩ := List.mem_map.mp hr
    exact h.2.2 q hq s (List.mem_reverse.mp hs)
def sp_law : PV := fun ds P => ∃ (ns : List Int), ds = [.scr ns] ∧ P (.bl true)
theorem ok_law (T : Txt K mg) : FnOk P w K mg base CX0 7 T.f_law T.fd_law ["_law_script"] (spV K sp_law) := by
  refine T.F_law.ok sc_law (fun vs H Q E h => lenV (fun ds P h => by obtain ⟨_, rfl, _⟩ := h; rfl) h) (fun cdv A outer s H vs Q E hr h => ⟨_, (pss_cons (ps_set (i := 1) sc_law.nd rfl (Or.inl rfl) (pe_call (ok__law_folded T) (hr.mono (by decide)) (by rfl) T.g__law_folded T.F__law_folded.kp T.bd__law_folded .nil pass0 (pa_cons (pv 0) (pa_cons pe_int pa_nil))))
    (pss_cons (ps_for PassesOwn.never rfl (pi_range1 (by rfl) T.b_range (pa_cons (pe_callB (u_max2 rfl) (by rfl) T.b_max boot_max (pa_cons pe_int (pa_cons (pe_callB (k_len (K' := K) rfl) (by rfl) T.b_len boot_len (pa_cons (pv 1) pa_nil)) pa_nil))) pa_nil)) (pg_name (i := 2) sc_law.nd rfl (Or.inl rfl))
    (pss_cons (ps_set (i := 3) sc_law.nd rfl (Or.inr rfl) (pe_call (ok__law_box T) (hr.mono (by decide)) (by rfl) T.g__law_box T.F__law_box.kp T.bd__law_box .nil pass0 (pa_cons (pv 1) (pa_cons (pv 2) pa_nil))))
    (pss_cons (ps_set (i := 4) sc_law.nd rfl (Or.inl rfl) (pe_call (ok__law_sizes T) (hr.mono (by decide)) (by rfl) T.g__law_sizes T.F__law_sizes.kp T.bd__law_sizes .nil pass0 (pa_cons (pv 3) pa_nil)))
    (pss_cons (ps_set (i := 5) sc_law.nd rfl (Or.inr rfl) (pe_call (ok__law_loads T) (hr.mono (by decide)) (by rfl) T.g__law_loads T.F__law_loads.kp T.bd__law_loads .nil pass0 (pa_cons (pv 3) (pa_cons (pv 4) (pa_cons (pe_ix (k_ix (K' := K) rfl) (pe_lst (pa_cons pe_int (pa_cons (pe_call (ok__law_take T) (hr.mono (by decide)) (by rfl) T.g__law_take T.F__law_take.kp T.bd__law_take .nil pass0 (pa_cons (pv 3) (pa_cons pe_int pa_nil))) (pa_cons (pe_call (ok__law_take T) (hr.mono (by decide)) (by rfl) T.g__law_take T.F__law_take.kp T.bd__law_take .nil pass0 (pa_cons (pv 3) (pa_cons pe_int pa_nil))) pa_nil)))) (pe_call (ok__law_take T) (hr.mono (by decide)) (by rfl) T.g__law_take T.F__law_take.kp T.bd__law_take .nil pass0 (pa_cons (pv 3) (pa_cons pe_int pa_nil))) (fun _ _ => rfl)) pa_nil)))))
    (pss_cons (ps_set (i := 6) sc_law.nd rfl (Or.inr rfl) (pe_call (ok__law_strengths T) (hr.mono (by decide)) (by rfl) T.g__law_strengths T.F__law_strengths.kp T.bd__law_strengths .nil pass0 (pa_cons (pv 3) (pa_cons (pv 4) (pa_cons (pv 5) (pa_cons (pe_call (ok__law_take T) (hr.mono (by decide)) (by rfl) T.g__law_take T.F__law_take.kp T.bd__law_take .nil pass0 (pa_cons (pv 3) (pa_cons pe_int pa_nil))) pa_nil))))))
    (pss_cons (ps_par (i := 7) (j := 8) rfl sc_law.nd rfl rfl (by decide) rfl rfl (pa_cons (pe_call (ok_laden_by T) (hr.mono (by decide)) (by rfl) T.g_laden_by T.F_laden_by.kp T.bd_laden_by .nil pass0 (pa_cons (pv 5) (pa_cons (pv 6) pa_nil))) (pa_cons (pe_call (ok__law_drawn_rows T) (hr.mono (by decide)) (by rfl) T.g__law_drawn_rows T.F__law_drawn_rows.kp T.bd__law_drawn_rows .nil pass0 (pa_cons (pv 3) (pa_cons (pv 5) (pa_cons (pe_callB (k_len (K' := K) rfl) (by rfl) T.b_len boot_len (pa_cons (pv 6) pa_nil)) pa_nil)))) pa_nil)) (by rfl))
    (pss_cons (ps_set (i := 9) sc_law.nd rfl (Or.inl rfl) (pe_ifExp (pt_cmpR (k_eq (K' := K) rfl (hu64 hr)) (pe_ix (k_ix (K' := K) rfl) (pv 7) pe_int (fun _ _ => rfl)) pe_str (nomark _)) (pe_ix (k_ix (K' := K) rfl) (pv 7) pe_int (fun _ _ => rfl)) (pv 8)))
    (pss_cons (ps_set (i := 10) sc_law.nd rfl (Or.inr rfl) (pe_lst (pa_cons (pv 9) (pa_cons (pv 8) (pa_cons (k_rev (K' := K) rfl (pv 9)) (pa_cons (pe_lc (own := [("_law_row", 11)]) rfl sc_law.nd (k_plist (K' := K) rfl (pv 9)) (blkOk_by (N := N_law) (sc := defScope s_law) (by decide +kernel)) (fun _ _ _ _ _ => (pg_name (i := 11) sc_law.nd rfl (Or.inl rfl))) (fun _ _ _ _ _ => pts_nil) (fun _ _ _ _ _ => (k_rev (K' := K) rfl (pv 11)))) pa_nil))))))
    (pss_cons (ps_set (i := 10) sc_law.nd rfl (Or.inr rfl) (pe_op u_add (pv 10) (pe_lc (own := [("_law_turn", 12)]) rfl sc_law.nd (pi_range1 (by rfl) T.b_range (pa_cons pe_int pa_nil)) (blkOk_by (N := N_law) (sc := defScope s_law) (by decide +kernel)) (fun _ _ _ _ _ => (pg_name (i := 12) sc_law.nd rfl (Or.inl rfl))) (fun _ _ _ _ _ => pts_nil) (fun _ _ _ _ _ => (pe_call (ok__law_otherwise T) (hr.mono (by decide)) (by rfl) T.g__law_otherwise T.F__law_otherwise.kp T.bd__law_otherwise .nil pass0 (pa_cons (pv 3) (pa_cons (pe_ix (k_ix (K' := K) rfl) (pv 10) (pe_op op_mod (pv 12) pe_int) (fun _ _ => rfl)) pa_nil)))))))
    (pss_cons (ps_if (pt_not (pt_tru (pe_callB (k_all (K' := K) rfl rfl) (by rfl) T.b_all boot_all (pa_cons (pe_lc (own := [("_law_thing", 13)]) rfl sc_law.nd (k_plist (K' := K) rfl (pv 10)) (blkOk_by (N := N_law) (sc := defScope s_law) (by decide +kernel)) (fun _ _ _ _ _ => (pg_name (i := 13) sc_law.nd rfl (Or.inl rfl))) (fun _ _ _ _ _ => pts_nil) (fun _ _ _ _ _ => (pe_call (ok__law_right T) (hr.mono (by decide)) (by rfl) T.g__law_right T.F__law_right.kp T.bd__law_right .nil pass0 (pa_cons (pv 3) (pa_cons (pv 5) (pa_cons (pv 6) (pa_cons (pv 13) pa_nil))))))) pa_nil)) (fun _ => rfl))) (pss_one (ps_ret pe_bl)) pss_nil)
    (pss_one (ps_if (pt_cmpR op_notBl (pe_call (ok_shows_laden T) (hr.mono (by decide)) (by rfl) T.g_shows_laden T.F_shows_laden.kp T.bd_shows_laden .nil pass0 (pa_cons (pv 5) (pa_cons (pv 6) (pa_cons (pe_tup (pa_cons pe_str (pa_cons (pe_callTy (k_tpl (K' := K) rfl) (by rfl) T.b_tuple boot_tuple (pa_cons (pv 9) pa_nil)) pa_nil))) pa_nil)))) pe_bl (nomark _)) (pss_one (ps_ret pe_bl)) pss_nil))))))))))))
    (pss_cons (ps_set (i := 14) sc_law.nd rfl (Or.inl rfl) (pe_lst pa_nil))
    (pss_one (ps_ret (pe_cmpR op_isBl (pe_call (ok_shows_laden T) (hr.mono (by decide)) (by rfl) T.g_shows_laden T.F_shows_laden.kp T.bd_shows_laden .nil pass0 (pa_cons (pe_lst (pa_cons (pe_tup (pa_cons pe_str (pa_cons pe_int pa_nil))) pa_nil)) (pa_cons (pe_lst (pa_cons pe_int (pa_cons pe_int (pa_cons pe_int pa_nil)))) (pa_cons (pe_tup (pa_cons pe_str (pa_cons (pe_lst (pa_cons (pe_lst (pa_cons pe_str pa_nil)) (pa_cons (pv 14) (pa_cons (pv 14) pa_nil)))) pa_nil))) pa_nil)))) pe_bl (nomark _))))))), runV (n := 1) (fun ds P h => by obtain ⟨_, rfl, _⟩ := h; rfl) (by decide) ?_ h⟩)
  rintro ds P ⟨ns, rfl, hP⟩
  refine SW.seq (SW.asg ?_)
  walk_at "e"
  refine fun ms hms => ?_
  refine SW.seq (SW.for_ (is := [2]) (IW.rng1 ?_))
  walk_at "e"
  have hmax : ∃ k : Int, (if ((ms.map D.int).length : Int) > 1 then ((ms.map D.int).length : Int) else 1) = k ∧ 1 ≤ k ∧ k ≤ 3 := by
    rw [List.length_map]; split
    · exact ⟨_, rfl, by omega, by omega⟩
    · exact ⟨_, rfl, by omega, by omega⟩
  obtain ⟨kk, hk, hk1, hk3⟩ := hmax
  rw [hk]
  refine ⟨by omega, by omega, fun i ρ c => c = 0 ∧ ρ = [.val (.scr ns), .val (.lst (ms.map .int)), .no, .no, .no, .no, .no, .no, .no, .no, .no, .no, .no, .no, .no], ⟨rfl, rfl⟩, ?_, ?_⟩
  · rintro i d ρ1 c2 hi ⟨rfl, rfl⟩
    obtain ⟨hi, rfl⟩ := rngD_get hi
    refine GW.name (SW.newBox (EF.callF ?_))
    walk_at "e"
    refine ⟨ms, _, rfl, ⟨by omega, by omega⟩, fun n m hm0 hm1 => ⟨n, m, rfl, hm0, hm1, fun p => ?_⟩⟩
    refine SW.seq (SW.asg ?_)
    walk_at "e"
    refine ⟨rfl, by omega, fun szs c1 hsz hc1 => ?_⟩
    refine SW.seq (SW.asg ?_)
    walk_at "e"
    rename_i r1 c2 hr10 hr11 hc2 r2 c3 hr20 hr21 hc3 r3 c4 hr30 hr31 hc4
    refine RW2.ixAny (by omega) (by simp; omega) fun d hd => ?_
    simp only [List.mem_cons, List.not_mem_nil, or_false] at hd
    have hd : ∃ m : Int, d = .int m ∧ 0 ≤ m ∧ m ≤ 20 := by rcases hd with rfl | rfl | rfl <;> exact ⟨_, rfl, by omega, by omega⟩
    obtain ⟨m', rfl, hm'⟩ := hd
    walk_at "e"
    refine ⟨szs, m', rfl, ⟨hsz, hm', by omega⟩, fun ls c5 hls hc5 => ?_⟩
    refine SW.seq (SW.asg ?_)
    walk_at "e"
    rename_i r4 c6 hr40 hr41 hc6
    refine ⟨szs, ls, r4, rfl, ⟨hsz, hls, ⟨by omega, by omega⟩, by omega⟩, fun ss c7 hss hc7 => ?_⟩
    have hs10 := hss.1
    refine SW.seq (SW.parVV ?_)
    refine EW.mono (Q := fun d c => c = c7 ∧ ((∃ s : Int, d = .tup [.str "over", .int s]) ∨ ∃ rows : List (List Str), RowsOk rows ∧ d = .tup [.str "laid", .lst (rows.map rowD)])) ?_ ?_
    · walk_at "e"
      exact ⟨ls, ss, rfl, ⟨hls, hss⟩, fun s => ⟨rfl, .inl ⟨s, rfl⟩⟩, fun rows h => ⟨rfl, .inr ⟨rows, h, rfl⟩⟩⟩
    rintro told c8 ⟨rfl, htold⟩
    walk_at "e"
    refine ⟨ls, _, rfl, ⟨hls, ⟨by omega, by rw [List.length_map]; omega⟩, by omega⟩, fun drawn c9 hdrawn hc9 => ?_⟩
    refine SW.seq (SW.asg (EW.mono (Q := fun d c => c = c9 ∧ ∃ rows : List (List Str), RowsOk rows ∧ d = .lst (rows.map rowD)) ?_ ?_))
    · rcases htold with ⟨s, rfl⟩ | ⟨rows, hrows, rfl⟩
      · walk_at "w"
        exact ⟨rfl, drawn, hdrawn, rfl⟩
      · walk_at "w"
        exact ⟨rfl, rows, hrows, rfl⟩
    rintro rd c10 ⟨rfl, rows, hrows, rfl⟩
    have hr10 := hrows.1
    refine SW.seq (SW.asg ?_)
    walk_at "e"
    refine EF.toW (EF.rev ?_)
    walk_at "e"
    refine EF.toW (EF.lcMap rows rowD List.reverse rowD rfl (IW.list ?_))
    walk_at "e"
    refine ⟨rfl, le1000 (by omega), fun r hr => GW.name ⟨rfl, EF.toW (EF.rev ?_)⟩, ?_⟩
    · walk_at "e"
      exact ⟨by unfold rowD; rw [List.map_reverse], rfl⟩
    walk_at "e"
    rw [← List.map_reverse]
    refine SW.seq (SW.asg ?_)
    walk_at "e"
    refine EF.toW (EF.lcDraw (fun _ y => ThingOk y) 10 rfl (IW.rng1 ?_))
    walk_at "e"
    refine ⟨by omega, by omega, by rw [rngD_length]; exact le1000 (by decide), ?_, ?_⟩
    · intro i2 d c11 hi hc11
      obtain ⟨hi, rfl⟩ := rngD_get hi
      have e20 : Int.toNat 20 = 20 := rfl
      refine GW.name ⟨rfl, ?_⟩
      walk_at "e"
      have hmod : ((0 : Int) + i2) % 2 = 0 ∨ ((0 : Int) + i2) % 2 = 1 := by omega
      have hd : ∀ d, d ∈ [D.lst (rows.map rowD), D.lst (drawn.map rowD)] → ∃ rr, RowsOk rr ∧ d = .lst (rr.map rowD) := by
        intro d hd
        simp only [List.mem_cons, List.not_mem_nil, or_false] at hd
        rcases hd with rfl | rfl
        · exact ⟨rows, hrows, rfl⟩
        · exact ⟨drawn, hdrawn, rfl⟩
      have key : ∃ rr, RowsOk rr ∧ atI [D.lst (rows.map rowD), D.lst (drawn.map rowD), D.lst (rows.reverse.map rowD), D.lst ((rows.map List.reverse).map rowD)] (((0 : Int) + i2) % 2) = some (.lst (rr.map rowD)) := by
        rcases hmod with h | h <;> rw [h]
        · exact ⟨rows, hrows, rfl⟩
        · exact ⟨drawn, hdrawn, rfl⟩
      obtain ⟨rr, hrr, hat⟩ := key
      refine RW2.uIxL hat ?_
      walk_at "e"
      exact ⟨⟨hrr, by omega⟩, fun d c' hd hc' => ⟨hd, hc'⟩⟩
    intro ys c11 hp hc11
    rw [rngD_length] at hc11
    obtain ⟨hyl, hy⟩ := paired_all (ψ := ThingOk) hp fun _ _ _ h => h
    rw [rngD_length] at hyl
    walk_at "e"
    refine RW2.uAddl (le1000 (by simp only [List.length_cons, List.length_nil]; omega)) ?_
    have hall : ∀ d ∈ [D.lst (rows.map rowD), D.lst (drawn.map rowD), D.lst (rows.reverse.map rowD), D.lst ((rows.map List.reverse).map rowD)] ++ ys, ThingOk d := by
      intro d hd
      rcases List.mem_append.mp hd with h | h
      · simp only [List.mem_cons, List.not_mem_nil, or_false] at h
        rcases h with rfl | rfl | rfl | rfl
        · exact rows_thing hrows
        · exact rows_thing hdrawn
        · exact rows_thing (rows_rev hrows)
        · exact rows_thing (rows_revs hrows)
      · exact hy d h
    have hlen : ([D.lst (rows.map rowD), D.lst (drawn.map rowD), D.lst (rows.reverse.map rowD), D.lst ((rows.map List.reverse).map rowD)] ++ ys).length ≤ 24 := by
      rw [List.length_append, hyl]; exact Nat.le_refl 24
    generalize [D.lst (rows.map rowD), D.lst (drawn.map rowD), D.lst (rows.reverse.map rowD), D.lst ((rows.map List.reverse).map rowD)] ++ ys = things at hall hlen
    refine SW.env [.val (.scr ns), .val (.lst (ms.map .int)), .val (.int (0 + i)), .box, .val (.lst (szs.map .int)), .val (.lst (ls.map ldD)), .val (.lst (ss.map .int)), .val told, .val (.lst (drawn.map rowD)), .val (.lst (rows.map rowD)), .val (.lst things), .no, .no, .no, .no] rfl ?_
    refine SW.seq (SW.ite ?_)
    walk_at "e"
    refine EF.toW (EF.lcDraw (fun _ y => y = .bl true) 10 rfl (IW.list ?_))
    walk_at "e"
    have e20 : Int.toNat 20 = 20 := rfl
    refine ⟨le1000 (by omega), ?_, ?_⟩
    · intro i3 d c12 hi hc12
      have hil : i3 < things.length := (List.getElem?_eq_some_iff.mp hi).1
      refine GW.name ⟨rfl, ?_⟩
      walk_at "e"
      exact ⟨ls, ss, d, rfl, ⟨hls, hss, hall d (List.mem_of_getElem? hi), by omega⟩, fun c' hc' => ⟨rfl, hc'⟩⟩
    intro zs c12 hp2 hc12
    obtain ⟨hzl, hz⟩ := paired_all (ψ := fun y => ∃ b : Bool, y = .bl b ∧ b = true) hp2 fun _ _ _ h => ⟨true, h, rfl⟩
    obtain ⟨bs, rfl, hbs⟩ := all_mapP hz
    have hbt : bs.all id = true := List.all_eq_true.mpr hbs
    walk_at "e"
    refine RCW.all ?_
    rw [hbt]
    walk_at "w"
    refine RCW.tuple (.inl rfl) ?_
    walk_at "e"
    refine ⟨ls, ss, _, rfl, ⟨hls, hss, .inr ⟨_, rfl⟩⟩, fun b hb => ?_⟩
    have hbf : b = false := by
      cases b with
      | false => rfl
      | true => obtain ⟨_, h, _⟩ := hb.mp rfl; cases h
    subst hbf
    walk_at "e"
    exact br_f rfl (SW.forget 2 (SW.forget 4 (SW.forget 5 (SW.forget 6 (SW.forget 7 (SW.forget 8 (SW.forget 9 (SW.forget 10 (SW.next ⟨noBx rfl, rfl, rfl⟩)))))))))
  · rintro ρ1 c2 ⟨rfl, rfl⟩
    refine SW.seq (SW.asg (EF.toW (EF.lst (AW.nil ⟨le1000 (by decide), ?_⟩))))
    walk_at "w"
    refine ⟨[("a", 1)], [1, 0, 9], _, rfl, ⟨?_, ?_, .inl ?_⟩, fun b hb => ?_⟩
    · refine ⟨by decide, fun p hp => ?_, fun p hp q hq _ => ?_⟩
      · obtain rfl := List.mem_singleton.mp hp
        exact ⟨⟨by decide, by decide +kernel⟩, by decide, by decide⟩
      · obtain rfl := List.mem_singleton.mp hp
        obtain rfl := List.mem_singleton.mp hq
        exact Int.dvd_refl _
    · refine ⟨by decide, fun s hs => ?_⟩
      simp only [List.mem_cons, List.not_mem_nil, or_false] at hs
      rcases hs with rfl | rfl | rfl <;> decide
    · refine rows_thing (rows := [["a"], [], []]) ⟨by decide, by decide, fun r hr s hs => ?_⟩
      simp only [List.mem_cons, List.not_mem_nil, or_false] at hr
      rcases hr with rfl | rfl | rfl
      · obtain rfl := List.mem_singleton.mp hs
        exact ⟨by decide, by decide +kernel⟩
      · cases hs
      · cases hs
    · have hbt : b = true := hb.mpr ⟨[["a"], [], []], rfl, rfl, fun q hq => ?_, ?_⟩
      · subst hbt
        walk_at "e"
        rw [decide_eq_true (rfl : true = true)]; exact hP
      · simp only [List.zip_cons_cons, List.zip_nil_right, List.mem_cons, List.not_mem_nil, or_false] at hq
        rcases hq with rfl | rfl | rfl
        · refine ⟨fun n hn => ?_, by decide⟩
          obtain rfl := List.mem_singleton.mp hn
          decide
        · exact ⟨fun n hn => (nomatch hn), by decide⟩
        · exact ⟨fun n hn => (nomatch hn), by decide⟩
      · exact List.Perm.refl _
end
end K12
namespace K12
open PySem PySem.Spec PyProof.Rows L2 Q























def d_units_of : He.DefD := ⟨("units_of", none), "units_of", "units_of", defArgs s_units_of, defBody s_units_of, defScope s_units_of, [], []⟩
def d_room_of : He.DefD := ⟨("room_of", none), "room_of", "room_of", defArgs s_room_of, defBody s_room_of, defScope s_room_of, [], []⟩
def d_size_over : He.DefD := ⟨("size_over", none), "size_over", "size_over", defArgs s_size_over, defBody s_size_over, defScope s_size_over, [], []⟩
def d_lighter_behind : He.DefD := ⟨("lighter_behind", none), "lighter_behind", "lighter_behind", defArgs s_lighter_behind, defBody s_lighter_behind, defScope s_lighter_behind, [], []⟩
def d_first_bearer : He.DefD := ⟨("first_bearer", none), "first_bearer", "first_bearer", defArgs s_first_bearer, defBody s_first_bearer, defScope s_first_bearer, [], []⟩
def d_laden_by : He.DefD := ⟨("laden_by", none), "laden_by", "laden_by", defArgs s_laden_by, defBody s_laden_by, defScope s_laden_by, [], []⟩
def d_laid_rightly : He.DefD := ⟨("laid_rightly", none), "laid_rightly", "laid_rightly", defArgs s_laid_rightly, defBody s_laid_rightly, defScope s_laid_rightly, [], []⟩
def d_shows_laden : He.DefD := ⟨("shows_laden", none), "shows_laden", "shows_laden", defArgs s_shows_laden, defBody s_shows_laden, defScope s_shows_laden, [], []⟩
def d__law_box : He.DefD := ⟨("_law_box", none), "_law_box", "_law_box", defArgs s__law_box, defBody s__law_box, defScope s__law_box, [], []⟩
def d__law_take : He.DefD := ⟨("_law_take", none), "_law_take", "_law_take", defArgs s__law_take, defBody s__law_take, defScope s__law_take, [], []⟩
def d__law_folded : He.DefD := ⟨("_law_folded", none), "_law_folded", "_law_folded", defArgs s__law_folded, defBody s__law_folded, defScope s__law_folded, [], []⟩
def d__law_sizes : He.DefD := ⟨("_law_sizes", none), "_law_sizes", "_law_sizes", defArgs s__law_sizes, defBody s__law_sizes, defScope s__law_sizes, [], []⟩
def d__law_load_names : He.DefD := ⟨("_law_load_names", none), "_law_load_names", "_law_load_names", defArgs s__law_load_names, defBody s__law_load_names, defScope s__law_load_names, [], []⟩
def d__law_loads : He.DefD := ⟨("_law_loads", none), "_law_loads", "_law_loads", defArgs s__law_loads, defBody s__law_loads, defScope s__law_loads, [], []⟩
def d__law_strengths : He.DefD := ⟨("_law_strengths", none), "_law_strengths", "_law_strengths", defArgs s__law_strengths, defBody s__law_strengths, defScope s__law_strengths, [], []⟩
def d__law_laid : He.DefD := ⟨("_law_laid", none), "_law_laid", "_law_laid", defArgs s__law_laid, defBody s__law_laid, defScope s__law_laid, [], []⟩
def d__law_shown : He.DefD := ⟨("_law_shown", none), "_law_shown", "_law_shown", defArgs s__law_shown, defBody s__law_shown, defScope s__law_shown, [], []⟩
def d__law_same : He.DefD := ⟨("_law_same", none), "_law_same", "_law_same", defArgs s__law_same, defBody s__law_same, defScope s__law_same, [], []⟩
def d__law_copied : He.DefD := ⟨("_law_copied", none), "_law_copied", "_law_copied", defArgs s__law_copied, defBody s__law_copied, defScope s__law_copied, [], []⟩
def d__law_drawn_rows : He.DefD := ⟨("_law_drawn_rows", none), "_law_drawn_rows", "_law_drawn_rows", defArgs s__law_drawn_rows, defBody s__law_drawn_rows, defScope s__law_drawn_rows, [], []⟩
def d__law_otherwise : He.DefD := ⟨("_law_otherwise", none), "_law_otherwise", "_law_otherwise", defArgs s__law_otherwise, defBody s__law_otherwise, defScope s__law_otherwise, [], []⟩
def d__law_right : He.DefD := ⟨("_law_right", none), "_law_right", "_law_right", defArgs s__law_right, defBody s__law_right, defScope s__law_right, [], []⟩
def d_law : He.DefD := ⟨("law", none), "law", "law", defArgs s_law, defBody s_law, defScope s_law, [], []⟩
def fnL0 : List He.DefD := [d_units_of, d_room_of, d_size_over, d_lighter_behind, d_first_bearer, d_laden_by, d_laid_rightly, d_shows_laden, d__law_box, d__law_take, d__law_folded, d__law_sizes, d__law_load_names, d__law_loads, d__law_strengths, d__law_laid, d__law_shown, d__law_same, d__law_copied, d__law_drawn_rows, d__law_otherwise, d__law_right, d_law]
def fnL : List He.DefD := fnL0
def faL0 : List He.Fa := [.glo "units_of", .glo "room_of", .glo "size_over", .glo "lighter_behind", .glo "first_bearer", .glo "laden_by", .glo "laid_rightly", .glo "shows_laden", .glo "_law_box", .glo "_law_take", .glo "_law_folded", .glo "_law_sizes", .glo "_law_load_names", .glo "_law_loads", .glo "_law_strengths", .glo "_law_laid", .glo "_law_shown", .glo "_law_same", .glo "_law_copied", .glo "_law_drawn_rows", .glo "_law_otherwise", .glo "_law_right", .glo "law", .free "abs", .free "all", .free "bool", .free "dict", .free "enumerate", .free "int", .free "isinstance"]
def faL1 : List He.Fa := [.free "len", .free "list", .free "max", .free "min", .free "range", .free "set", .free "sorted", .free "str", .free "sum", .free "tuple", .free "zip"]
def faL : List He.Fa := faL0 ++ faL1
def looseL0 : List Str := ["whole_number", "units_of", "room_of", "size_over", "lighter_behind", "first_bearer", "laden_by", "laid_rightly", "weighed_rightly", "shows_laden", "_law_box", "_law_take", "_law_folded", "_law_sizes", "_law_load_names", "_law_loads", "_law_strengths", "_law_laid", "_law_shown", "_law_same", "_law_copied", "_law_drawn_rows", "_law_otherwise", "_law_right"]
def looseL : List Str := looseL0
abbrev Rr : PySem.W.OpenRow := PySem.W.OpenLaw.row PySem.Challenge.rw_campcarry_k12_layings_shown_or_not
abbrev hk : PySem.W.Hook := He.hookD 4 faL fnL
def ob (s : PySem.W.SharedT) : He.AlD := He.obsDG 4 faL fnL (HandSHeadRun.getT s)
theorem ob_eq (s : PySem.W.SharedT) : ob s = hk.obs s.abs := He.obsDG_eq (HandSHeadRun.getT_eq s)
theorem run (w : World) : HandSHeadRun.RunEq Rr (PySem.W.view Rr.prog [28]) hk ob 20000 looseL w := by
  intro os
  kernel_rfl
theorem facts {P : Program} {w : World} {K : PySem.W.Frag} {h : Heap} {mg : Str → Option Value} {f : Addr} (X : K.In h) (G : h.Ns mainGlobals mg) (hfa : mg ("law" : Str) = some (.ref f)) (c : He.SaysD faL fnL K) :
    ∃ fd : FuncData, (∀ (s : Shared) (v : Value), BindsTo s fd ⟨[v], []⟩ [("_law_script", v)]) ∧ ∀ base : Heap, K.In base → base.Ns mainGlobals mg → FnOk P w K mg base CX0 7 f fd ["_law_script"] (spV K sp_law) := by
  obtain ⟨fd0, F0⟩ := c.def_ 0 (d := d_units_of) rfl
  obtain ⟨fd1, F1⟩ := c.def_ 1 (d := d_room_of) rfl
  obtain ⟨fd2, F2⟩ := c.def_ 2 (d := d_size_over) rfl
  obtain ⟨fd3, F3⟩ := c.def_ 3 (d := d_lighter_behind) rfl
  obtain ⟨fd4, F4⟩ := c.def_ 4 (d := d_first_bearer) rfl
  obtain ⟨fd5, F5⟩ := c.def_ 5 (d := d_laden_by) rfl
  obtain ⟨fd6, F6⟩ := c.def_ 6 (d := d_laid_rightly) rfl
  obtain ⟨fd7, F7⟩ := c.def_ 7 (d := d_shows_laden) rfl
  obtain ⟨fd8, F8⟩ := c.def_ 8 (d := d__law_box) rfl
  obtain ⟨fd9, F9⟩ := c.def_ 9 (d := d__law_take) rfl
  obtain ⟨fd10, F10⟩ := c.def_ 10 (d := d__law_folded) rfl
  obtain ⟨fd11, F11⟩ := c.def_ 11 (d := d__law_sizes) rfl
  obtain ⟨fd12, F12⟩ := c.def_ 12 (d := d__law_load_names) rfl
  obtain ⟨fd13, F13⟩ := c.def_ 13 (d := d__law_loads) rfl
  obtain ⟨fd14, F14⟩ := c.def_ 14 (d := d__law_strengths) rfl
  obtain ⟨fd15, F15⟩ := c.def_ 15 (d := d__law_laid) rfl
  obtain ⟨fd16, F16⟩ := c.def_ 16 (d := d__law_shown) rfl
  obtain ⟨fd17, F17⟩ := c.def_ 17 (d := d__law_same) rfl
  obtain ⟨fd18, F18⟩ := c.def_ 18 (d := d__law_copied) rfl
  obtain ⟨fd19, F19⟩ := c.def_ 19 (d := d__law_drawn_rows) rfl
  obtain ⟨fd20, F20⟩ := c.def_ 20 (d := d__law_otherwise) rfl
  obtain ⟨fd21, F21⟩ := c.def_ 21 (d := d__law_right) rfl
  obtain ⟨fd22, F22⟩ := c.def_ 22 (d := d_law) rfl
  have e := hfa.symm.trans (He.glo_ok X G (c.fact 22 (f := .glo "law") rfl))
  cases e
  have G0 : Fun K "units_of" "units_of" s_units_of (He.fAd K d_units_of.at_) fd0 := funD_fun (st := s_units_of) F0
  have b0 : Binds K fd0 ["weights", "size"] [] := G0.binds fun _ _ _ _ _ _ us hl => match us, hl with | [_, _], _ => rfl
  have G1 : Fun K "room_of" "room_of" s_room_of (He.fAd K d_room_of.at_) fd1 := funD_fun (st := s_room_of) F1
  have b1 : Binds K fd1 ["strengths", "size"] [] := G1.binds fun _ _ _ _ _ _ us hl => match us, hl with | [_, _], _ => rfl
  have G2 : Fun K "size_over" "size_over" s_size_over (He.fAd K d_size_over.at_) fd2 := funD_fun (st := s_size_over) F2
  have b2 : Binds K fd2 ["loads", "strengths"] [] := G2.binds fun _ _ _ _ _ _ us hl => match us, hl with | [_, _], _ => rfl
  have G3 : Fun K "lighter_behind" "lighter_behind" s_lighter_behind (He.fAd K d_lighter_behind.at_) fd3 := funD_fun (st := s_lighter_behind) F3
  have b3 : Binds K fd3 ["load"] [] := G3.binds fun _ _ _ _ _ _ us hl => match us, hl with | [_], _ => rfl
  have G4 : Fun K "first_bearer" "first_bearer" s_first_bearer (He.fAd K d_first_bearer.at_) fd4 := funD_fun (st := s_first_bearer) F4
  have b4 : Binds K fd4 ["free", "weight"] [] := G4.binds fun _ _ _ _ _ _ us hl => match us, hl with | [_, _], _ => rfl
  have G5 : Fun K "laden_by" "laden_by" s_laden_by (He.fAd K d_laden_by.at_) fd5 := funD_fun (st := s_laden_by) F5
  have b5 : Binds K fd5 ["loads", "strengths"] [] := G5.binds fun _ _ _ _ _ _ us hl => match us, hl with | [_, _], _ => rfl
  have G6 : Fun K "laid_rightly" "laid_rightly" s_laid_rightly (He.fAd K d_laid_rightly.at_) fd6 := funD_fun (st := s_laid_rightly) F6
  have b6 : Binds K fd6 ["loads", "strengths", "rows"] [] := G6.binds fun _ _ _ _ _ _ us hl => match us, hl with | [_, _, _], _ => rfl
  have G7 : Fun K "shows_laden" "shows_laden" s_shows_laden (He.fAd K d_shows_laden.at_) fd7 := funD_fun (st := s_shows_laden) F7
  have b7 : Binds K fd7 ["loads", "strengths", "thing"] [] := G7.binds fun _ _ _ _ _ _ us hl => match us, hl with | [_, _, _], _ => rfl
  have G8 : Fun K "_law_box" "_law_box" s__law_box (He.fAd K d__law_box.at_) fd8 := funD_fun (st := s__law_box) F8
  have b8 : Binds K fd8 ["_law_script", "_law_k"] [] := G8.binds fun _ _ _ _ _ _ us hl => match us, hl with | [_, _], _ => rfl
  have G9 : Fun K "_law_take" "_law_take" s__law_take (He.fAd K d__law_take.at_) fd9 := funD_fun (st := s__law_take) F9
  have b9 : Binds K fd9 ["_law_box_here", "_law_many"] [] := G9.binds fun _ _ _ _ _ _ us hl => match us, hl with | [_, _], _ => rfl
  have G10 : Fun K "_law_folded" "_law_folded" s__law_folded (He.fAd K d__law_folded.at_) fd10 := funD_fun (st := s__law_folded) F10
  have b10 : Binds K fd10 ["_law_script", "_law_size"] [] := G10.binds fun _ _ _ _ _ _ us hl => match us, hl with | [_, _], _ => rfl
  have G11 : Fun K "_law_sizes" "_law_sizes" s__law_sizes (He.fAd K d__law_sizes.at_) fd11 := funD_fun (st := s__law_sizes) F11
  have b11 : Binds K fd11 ["_law_box_here"] [] := G11.binds fun _ _ _ _ _ _ us hl => match us, hl with | [_], _ => rfl
  have G12 : Fun K "_law_load_names" "_law_load_names" s__law_load_names (He.fAd K d__law_load_names.at_) fd12 := funD_fun (st := s__law_load_names) F12
  have b12 : Binds K fd12 ["_law_box_here", "_law_many"] [] := G12.binds fun _ _ _ _ _ _ us hl => match us, hl with | [_, _], _ => rfl
  have G13 : Fun K "_law_loads" "_law_loads" s__law_loads (He.fAd K d__law_loads.at_) fd13 := funD_fun (st := s__law_loads) F13
  have b13 : Binds K fd13 ["_law_box_here", "_law_sizes_here", "_law_many"] [] := G13.binds fun _ _ _ _ _ _ us hl => match us, hl with | [_, _, _], _ => rfl
  have G14 : Fun K "_law_strengths" "_law_strengths" s__law_strengths (He.fAd K d__law_strengths.at_) fd14 := funD_fun (st := s__law_strengths) F14
  have b14 : Binds K fd14 ["_law_box_here", "_law_sizes_here", "_law_loads_here", "_law_many"] [] := G14.binds fun _ _ _ _ _ _ us hl => match us, hl with | [_, _, _, _], _ => rfl
  have G15 : Fun K "_law_laid" "_law_laid" s__law_laid (He.fAd K d__law_laid.at_) fd15 := funD_fun (st := s__law_laid) F15
  have b15 : Binds K fd15 ["_law_loads_here", "_law_strengths_here", "_law_rows"] [] := G15.binds fun _ _ _ _ _ _ us hl => match us, hl with | [_, _, _], _ => rfl
  have G16 : Fun K "_law_shown" "_law_shown" s__law_shown (He.fAd K d__law_shown.at_) fd16 := funD_fun (st := s__law_shown) F16
  have b16 : Binds K fd16 ["_law_loads_here", "_law_strengths_here", "_law_thing"] [] := G16.binds fun _ _ _ _ _ _ us hl => match us, hl with | [_, _, _], _ => rfl
  have G17 : Fun K "_law_same" "_law_same" s__law_same (He.fAd K d__law_same.at_) fd17 := funD_fun (st := s__law_same) F17
  have b17 : Binds K fd17 ["_law_found", "_law_due"] [] := G17.binds fun _ _ _ _ _ _ us hl => match us, hl with | [_, _], _ => rfl
  have G18 : Fun K "_law_copied" "_law_copied" s__law_copied (He.fAd K d__law_copied.at_) fd18 := funD_fun (st := s__law_copied) F18
  have b18 : Binds K fd18 ["_law_thing"] [] := G18.binds fun _ _ _ _ _ _ us hl => match us, hl with | [_], _ => rfl
  have G19 : Fun K "_law_drawn_rows" "_law_drawn_rows" s__law_drawn_rows (He.fAd K d__law_drawn_rows.at_) fd19 := funD_fun (st := s__law_drawn_rows) F19
  have b19 : Binds K fd19 ["_law_box_here", "_law_loads_here", "_law_many"] [] := G19.binds fun _ _ _ _ _ _ us hl => match us, hl with | [_, _, _], _ => rfl
  have G20 : Fun K "_law_otherwise" "_law_otherwise" s__law_otherwise (He.fAd K d__law_otherwise.at_) fd20 := funD_fun (st := s__law_otherwise) F20
  have b20 : Binds K fd20 ["_law_box_here", "_law_rows"] [] := G20.binds fun _ _ _ _ _ _ us hl => match us, hl with | [_, _], _ => rfl
  have G21 : Fun K "_law_right" "_law_right" s__law_right (He.fAd K d__law_right.at_) fd21 := funD_fun (st := s__law_right) F21
  have b21 : Binds K fd21 ["_law_box_here", "_law_loads_here", "_law_strengths_here", "_law_rows"] [] := G21.binds fun _ _ _ _ _ _ us hl => match us, hl with | [_, _, _, _], _ => rfl
  have G22 : Fun K "law" "law" s_law (He.fAd K d_law.at_) fd22 := funD_fun (st := s_law) F22
  have b22 : Binds K fd22 ["_law_script"] [] := G22.binds fun _ _ _ _ _ _ us hl => match us, hl with | [_], _ => rfl
  have b := FunD.bindsA (ps := ["_law_script"]) F22 fun _ _ _ _ _ _ us hl => match us, hl with | [_], _ => rfl
  have T : Txt K mg := ⟨_, fd0, G0, b0, He.glo_ok X G (c.fact 0 (f := .glo "units_of") rfl), _, fd1, G1, b1, He.glo_ok X G (c.fact 1 (f := .glo "room_of") rfl), _, fd2, G2, b2, He.glo_ok X G (c.fact 2 (f := .glo "size_over") rfl), _, fd3, G3, b3, He.glo_ok X G (c.fact 3 (f := .glo "lighter_behind") rfl), _, fd4, G4, b4, He.glo_ok X G (c.fact 4 (f := .glo "first_bearer") rfl), _, fd5, G5, b5, He.glo_ok X G (c.fact 5 (f := .glo "laden_by") rfl), _, fd6, G6, b6, He.glo_ok X G (c.fact 6 (f := .glo "laid_rightly") rfl), _, fd7, G7, b7, He.glo_ok X G (c.fact 7 (f := .glo "shows_laden") rfl), _, fd8, G8, b8, He.glo_ok X G (c.fact 8 (f := .glo "_law_box") rfl), _, fd9, G9, b9, He.glo_ok X G (c.fact 9 (f := .glo "_law_take") rfl), _, fd10, G10, b10, He.glo_ok X G (c.fact 10 (f := .glo "_law_folded") rfl), _, fd11, G11, b11, He.glo_ok X G (c.fact 11 (f := .glo "_law_sizes") rfl), _, fd12, G12, b12, He.glo_ok X G (c.fact 12 (f := .glo "_law_load_names") rfl), _, fd13, G13, b13, He.glo_ok X G (c.fact 13 (f := .glo "_law_loads") rfl), _, fd14, G14, b14, He.glo_ok X G (c.fact 14 (f := .glo "_law_strengths") rfl), _, fd15, G15, b15, He.glo_ok X G (c.fact 15 (f := .glo "_law_laid") rfl), _, fd16, G16, b16, He.glo_ok X G (c.fact 16 (f := .glo "_law_shown") rfl), _, fd17, G17, b17, He.glo_ok X G (c.fact 17 (f := .glo "_law_same") rfl), _, fd18, G18, b18, He.glo_ok X G (c.fact 18 (f := .glo "_law_copied") rfl), _, fd19, G19, b19, He.glo_ok X G (c.fact 19 (f := .glo "_law_drawn_rows") rfl), _, fd20, G20, b20, He.glo_ok X G (c.fact 20 (f := .glo "_law_otherwise") rfl), _, fd21, G21, b21, He.glo_ok X G (c.fact 21 (f := .glo "_law_right") rfl), _, fd22, G22, b22, He.glo_ok X G (c.fact 22 (f := .glo "law") rfl), He.free_ok X G (c.fact 23 (f := .free "abs") rfl), He.free_ok X G (c.fact 24 (f := .free "all") rfl), He.free_ok X G (c.fact 25 (f := .free "bool") rfl), He.free_ok X G (c.fact 26 (f := .free "dict") rfl), He.free_ok X G (c.fact 27 (f := .free "enumerate") rfl), He.free_ok X G (c.fact 28 (f := .free "int") rfl), He.free_ok X G (c.fact 29 (f := .free "isinstance") rfl), He.free_ok X G (c.fact 30 (f := .free "len") rfl), He.free_ok X G (c.fact 31 (f := .free "list") rfl), He.free_ok X G (c.fact 32 (f := .free "max") rfl), He.free_ok X G (c.fact 33 (f := .free "min") rfl), He.free_ok X G (c.fact 34 (f := .free "range") rfl), He.free_ok X G (c.fact 35 (f := .free "set") rfl), He.free_ok X G (c.fact 36 (f := .free "sorted") rfl), He.free_ok X G (c.fact 37 (f := .free "str") rfl), He.free_ok X G (c.fact 38 (f := .free "sum") rfl), He.free_ok X G (c.fact 39 (f := .free "tuple") rfl), He.free_ok X G (c.fact 40 (f := .free "zip") rfl)⟩
  exact ⟨fd22, fun s v => b s [v] rfl, fun base _ _ => ok_law ⟨_, fd0, G0, b0, He.glo_ok X G (c.fact 0 (f := .glo "units_of") rfl), _, fd1, G1, b1, He.glo_ok X G (c.fact 1 (f := .glo "room_of") rfl), _, fd2, G2, b2, He.glo_ok X G (c.fact 2 (f := .glo "size_over") rfl), _, fd3, G3, b3, He.glo_ok X G (c.fact 3 (f := .glo "lighter_behind") rfl), _, fd4, G4, b4, He.glo_ok X G (c.fact 4 (f := .glo "first_bearer") rfl), _, fd5, G5, b5, He.glo_ok X G (c.fact 5 (f := .glo "laden_by") rfl), _, fd6, G6, b6, He.glo_ok X G (c.fact 6 (f := .glo "laid_rightly") rfl), _, fd7, G7, b7, He.glo_ok X G (c.fact 7 (f := .glo "shows_laden") rfl), _, fd8, G8, b8, He.glo_ok X G (c.fact 8 (f := .glo "_law_box") rfl), _, fd9, G9, b9, He.glo_ok X G (c.fact 9 (f := .glo "_law_take") rfl), _, fd10, G10, b10, He.glo_ok X G (c.fact 10 (f := .glo "_law_folded") rfl), _, fd11, G11, b11, He.glo_ok X G (c.fact 11 (f := .glo "_law_sizes") rfl), _, fd12, G12, b12, He.glo_ok X G (c.fact 12 (f := .glo "_law_load_names") rfl), _, fd13, G13, b13, He.glo_ok X G (c.fact 13 (f := .glo "_law_loads") rfl), _, fd14, G14, b14, He.glo_ok X G (c.fact 14 (f := .glo "_law_strengths") rfl), _, fd15, G15, b15, He.glo_ok X G (c.fact 15 (f := .glo "_law_laid") rfl), _, fd16, G16, b16, He.glo_ok X G (c.fact 16 (f := .glo "_law_shown") rfl), _, fd17, G17, b17, He.glo_ok X G (c.fact 17 (f := .glo "_law_same") rfl), _, fd18, G18, b18, He.glo_ok X G (c.fact 18 (f := .glo "_law_copied") rfl), _, fd19, G19, b19, He.glo_ok X G (c.fact 19 (f := .glo "_law_drawn_rows") rfl), _, fd20, G20, b20, He.glo_ok X G (c.fact 20 (f := .glo "_law_otherwise") rfl), _, fd21, G21, b21, He.glo_ok X G (c.fact 21 (f := .glo "_law_right") rfl), _, fd22, G22, b22, He.glo_ok X G (c.fact 22 (f := .glo "law") rfl), He.free_ok X G (c.fact 23 (f := .free "abs") rfl), He.free_ok X G (c.fact 24 (f := .free "all") rfl), He.free_ok X G (c.fact 25 (f := .free "bool") rfl), He.free_ok X G (c.fact 26 (f := .free "dict") rfl), He.free_ok X G (c.fact 27 (f := .free "enumerate") rfl), He.free_ok X G (c.fact 28 (f := .free "int") rfl), He.free_ok X G (c.fact 29 (f := .free "isinstance") rfl), He.free_ok X G (c.fact 30 (f := .free "len") rfl), He.free_ok X G (c.fact 31 (f := .free "list") rfl), He.free_ok X G (c.fact 32 (f := .free "max") rfl), He.free_ok X G (c.fact 33 (f := .free "min") rfl), He.free_ok X G (c.fact 34 (f := .free "range") rfl), He.free_ok X G (c.fact 35 (f := .free "set") rfl), He.free_ok X G (c.fact 36 (f := .free "sorted") rfl), He.free_ok X G (c.fact 37 (f := .free "str") rfl), He.free_ok X G (c.fact 38 (f := .free "sum") rfl), He.free_ok X G (c.fact 39 (f := .free "tuple") rfl), He.free_ok X G (c.fact 40 (f := .free "zip") rfl)⟩⟩
end K12
open PySem PySem.W PySem.Calls PyProof.Rows
set_option maxHeartbeats 0 in
theorem PySem.Challenge.cw_campcarry_k12_layings_shown_or_not_holds : PySem.Challenge.rw_campcarry_k12_layings_shown_or_not.Holds := by
  w_on; o_law
  refine HandSHeadRun.head_any (r := OpenLaw.row PySem.Challenge.rw_campcarry_k12_layings_shown_or_not) (q := view (OpenLaw.row PySem.Challenge.rw_campcarry_k12_layings_shown_or_not).prog [28]) (H := K12.hk) (ob := K12.ob) (M := 20000) (loose := K12.looseL) (d := HandSHeadRun.topDef (OpenLaw.row PySem.Challenge.rw_campcarry_k12_layings_shown_or_not).prog 28) (kwd := []) K12.ob_eq
    (by kernel_rfl) (fun s => by kernel_rfl) K12.run (by kernel_rfl) (by kernel_rfl) (by kernel_rfl) (by rfl) (by first | assumption | decide +kernel) (by decide +kernel) ⟨rfl, rfl, rfl, rfl, rfl, by decide +kernel⟩ ?hw ?hc
  case hw => w_witness2
  case hc =>
    refine L2.walk_ofE (l := PySem.Challenge.rw_campcarry_k12_layings_shown_or_not) (n := 63) (k := 7) (x := "_law_script") (CX := L2.CX0) rfl (by decide) (by kernel_rfl) ⟨rfl, by decide, by decide⟩ ?F (fun _ _ _ _ z => z)
    intro w mg fa h Y G hmg0
    obtain ⟨K, KX, c⟩ := Y
    have hmg : mg ("law" : PySem.Str) = some (.ref fa) := by
      have e : (HandSHeadRun.topDef (OpenLaw.row PySem.Challenge.rw_campcarry_k12_layings_shown_or_not).prog 28).name = ("law" : PySem.Str) := by kernel_rfl
      rw [← e]
      exact hmg0
    obtain ⟨fd, hb, hF⟩ := K12.facts (P := (PySem.Challenge.rw_campcarry_k12_layings_shown_or_not).prog) (w := w) KX G hmg c
    exact ⟨K, fd, Q.spV K K12.sp_law, KX, hb, fun H a ns hl hd hS => Q.law_pre ns hd hS (⟨ns,rfl,rfl⟩), hF⟩
