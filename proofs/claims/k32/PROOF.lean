import PyProof.Rows.All
import Wide.All
import OpenK.AllK
import Wide.FinOn
import HandS.ForMost
import HandS.Slots
import HandS.Defaults
import HandS.Flow
import HandS.TupAny
import HandS.Deep
import HandS.IsInst
import HandS.Conv
import HandS.Strs
import HandS.Style
import KE.KUnpack
import HandS.Zip
import KE.SortData
import KE.KDictKeyed
import KE.GoesMore
import PySem.Challenge.RW_lockedout_k32_which_parts_are_allowed
set_option Elab.async false
set_option linter.all false
set_option maxRecDepth 100000
set_option maxHeartbeats 4000000
/-! Pu0: values as trees, what the heap holds of them, who owns what. -/
namespace Pu
open PySem PySem.Spec PyProof.Rows L2

/-- frozen data -/
inductive D where
  | any | non
  | bl (b : Bool)
  | int (i : Int)
  | str (x : Str)
  | tup (ds : List D)
  | lst (ds : List D)
  | frl (ds : List D)
  | dT (ks : List (List Key)) (ds : List D)
  | dK (ks : List Key) (ds : List D)
  | lT (ks : List (List Key)) (ds : List D)
  | ins (c : Str) (ds : List D)
/-- owned data: the cells below may still be written -/
inductive W where
  | sh (d : D)
  | lst (ws : List W)
  | dT (ks : List (List Key)) (ds : List D)
  | dK (ks : List Key) (ds : List D)
  | ins (c : Str) (ws : List W)

/-- a thing that is there and no tuple -/
def NoTup (o : Option HO) : Prop := o ≠ none ∧ ∀ vs, o ≠ some (.tup vs)
/-- a tuple; only an empty one may be a written one -/
def Tup00 (K : PySem.W.Frag) (a : Addr) : Prop := ∃ (o : Obj) (its : Array Value) (n : Nat), K.lookup a = some o ∧ o.cls = .type "tuple" ∧ o.data = .seq its n ∧ its.size ≤ sizeLine ∧ Vals ([] : List V) its.toList
def TupAt (K : PySem.W.Frag) (F : Hp) (a : Addr) (vs : List V) : Prop := SqT K F a vs ∧ (F a = some (.tup vs) ∨ (vs = [] ∧ Tup00 K a))
theorem TupAt.ne {K : PySem.W.Frag} {F : Hp} {a : Addr} {vs : List V} (h : TupAt K F a vs) (z : vs ≠ []) : F a = some (.tup vs) := h.2.elim id fun w => absurd w.1 z
theorem TupAt.of {K : PySem.W.Frag} {F : Hp} {a : Addr} {vs : List V} (h : F a = some (.tup vs)) : TupAt K F a vs := ⟨.inl (.inl h), .inl h⟩
section
variable (K : PySem.W.Frag) (mg : Str → Option Value)
mutual
def Rep (F : Hp) : D → V → Prop
  | .any, _ => True
  | .non, v => v = .non
  | .bl b, v => v = .bl b
  | .int i, v => v = .int i
  | .str x, v => v = .str x
  | .tup ds, v => ∃ a vs, v = .ref a ∧ TupAt K F a vs ∧ Reps F ds vs
  | .lst ds, v => ∃ a vs, v = .ref a ∧ F a = some (.lst vs) ∧ Reps F ds vs
  | .frl ds, v => ∃ a vs, v = .ref a ∧ SqL K F a vs ∧ Reps F ds vs
  | .dT ks ds, v => ∃ a kws, v = .ref a ∧ F a = some (.dT kws) ∧ kws.map (·.1) = ks ∧ Reps F ds (kws.map (·.2))
  | .dK ks ds, v => ∃ a kws, v = .ref a ∧ F a = some (.dK kws) ∧ kws.map (·.1) = ks ∧ Reps F ds (kws.map (·.2))
  | .lT ks ds, v => ∃ a od kws, v = .ref a ∧ F a = some (.frz od (.dT kws)) ∧ kws.map (·.1) = ks ∧ Reps F ds (kws.map (·.2))
  | .ins c ds, v => ∃ a C dx os, v = .ref a ∧ mg c = some (.ref C) ∧ SlX.Slt F a C dx os ∧ RepsO F ds os
def Reps (F : Hp) : List D → List V → Prop
  | [], [] => True
  | d :: ds, v :: vs => Rep F d v ∧ Reps F ds vs
  | [], _ :: _ => False
  | _ :: _, [] => False
def RepsO (F : Hp) : List D → List (Option V) → Prop
  | [], [] => True
  | d :: ds, some v :: vs => Rep F d v ∧ RepsO F ds vs
  | d :: ds, none :: vs => d = .any ∧ RepsO F ds vs
  | [], _ :: _ => False
  | _ :: _, [] => False
end
mutual
def Own (F H : Hp) : W → V → List Addr → Prop
  | .sh d, v, L => Rep K mg F d v ∧ L = []
  | .lst ws, v, L => ∃ a vs L', v = .ref a ∧ H a = some (.lst vs) ∧ F a = none ∧ L = a :: L' ∧ Owns F H ws vs L'
  | .dT ks ds, v, L => ∃ a kws, v = .ref a ∧ H a = some (.dT kws) ∧ F a = none ∧ L = [a] ∧ kws.map (·.1) = ks ∧ Reps K mg F ds (kws.map (·.2))
  | .dK ks ds, v, L => ∃ a kws, v = .ref a ∧ H a = some (.dK kws) ∧ F a = none ∧ L = [a] ∧ kws.map (·.1) = ks ∧ Reps K mg F ds (kws.map (·.2))
  | .ins c ws, v, L => ∃ a C dx os L', v = .ref a ∧ mg c = some (.ref C) ∧ SlX.Slt H a C dx os ∧ NoTup (H dx) ∧ dx ≠ a ∧ F a = none ∧ F dx = none ∧ L = a :: dx :: L' ∧ OwnsO F H ws os L'
def Owns (F H : Hp) : List W → List V → List Addr → Prop
  | [], [], L => L = []
  | w :: ws, v :: vs, L => ∃ L1 L2, L = L1 ++ L2 ∧ Own F H w v L1 ∧ Owns F H ws vs L2
  | [], _ :: _, _ => False
  | _ :: _, [], _ => False
def OwnsO (F H : Hp) : List W → List (Option V) → List Addr → Prop
  | [], [], L => L = []
  | w :: ws, some v :: vs, L => ∃ L1 L2, L = L1 ++ L2 ∧ Own F H w v L1 ∧ OwnsO F H ws vs L2
  | w :: ws, none :: vs, L => w = .sh .any ∧ OwnsO F H ws vs L
  | [], _ :: _, _ => False
  | _ :: _, [], _ => False
end
end
mutual
def W.d : W → D
  | .sh d => d
  | .lst ws => .lst (W.ds ws)
  | .dT ks ds => .dT ks ds
  | .dK ks ds => .dK ks ds
  | .ins c ws => .ins c (W.ds ws)
def W.ds : List W → List D
  | [] => []
  | w :: ws => W.d w :: W.ds ws
end
theorem ds_map : ∀ ws : List W, W.ds ws = ws.map W.d
  | [] => by simp [W.ds]
  | w :: ws => by simp [W.ds, ds_map ws]

/-- F with the cells at L as they stand in H -/
def addF (F H : Hp) (L : List Addr) : Hp := fun b => if b ∈ L then H b else F b
theorem addF_nil (F H : Hp) : addF F H [] = F := by
  funext b; simp [addF]
theorem addF_in {F H : Hp} {L : List Addr} {b : Addr} (h : b ∈ L) : addF F H L b = H b := by simp [addF, h]
theorem addF_out {F H : Hp} {L : List Addr} {b : Addr} (h : b ∉ L) : addF F H L b = F b := by simp [addF, h]
theorem addF_sub {F H : Hp} {L : List Addr} (s : Same F H) : Same F (addF F H L) := fun b o e => by
  by_cases h : b ∈ L
  · rw [addF_in h]; exact s b o e
  · rw [addF_out h]; exact e
theorem addF_le {F H : Hp} {L : List Addr} (s : Same F H) : Same (addF F H L) H := fun b o e => by
  by_cases h : b ∈ L
  · rwa [addF_in h] at e
  · rw [addF_out h] at e; exact s b o e

theorem seqT {K : PySem.W.Frag} {H H' : Hp} {a : Addr} {xs : List V} (e : Same H H') (h : SqT K H a xs) : SqT K H' a xs := by
  rcases h with (h | ⟨o, h⟩) | h
  · exact .inl (.inl (e _ _ h))
  · exact .inl (.inr ⟨o, e _ _ h⟩)
  · exact .inr h
theorem sltS {H H' : Hp} {a C dx : Addr} {os : List (Option V)} (e : Same H H') (h : SlX.Slt H a C dx os) : SlX.Slt H' a C dx os := by
  rcases h with ⟨h1, h2⟩ | ⟨h1, h2⟩
  · exact .inl ⟨e _ _ h1, h2⟩
  · exact .inr ⟨e _ _ h1, e _ _ h2⟩

section
variable {K : PySem.W.Frag} {mg : Str → Option Value}
mutual
theorem Rep.mono {F F' : Hp} (e : Same F F') : ∀ {d : D} {v : V}, Rep K mg F d v → Rep K mg F' d v
  | .any, _, h => by simp only [Rep]
  | .non, _, h => by simpa only [Rep] using h
  | .bl _, _, h => by simpa only [Rep] using h
  | .int _, _, h => by simpa only [Rep] using h
  | .str _, _, h => by simpa only [Rep] using h
  | .tup ds, v, h => by
    simp only [Rep] at h ⊢
    obtain ⟨a, vs, h1, h2, h3⟩ := h
    exact ⟨a, vs, h1, ⟨seqT e h2.1, h2.2.imp (e _ _) id⟩, Reps.mono e h3⟩
  | .lst ds, v, h => by
    simp only [Rep] at h ⊢
    obtain ⟨a, vs, h1, h2, h3⟩ := h
    exact ⟨a, vs, h1, e _ _ h2, Reps.mono e h3⟩
  | .frl ds, v, h => by
    simp only [Rep] at h ⊢
    obtain ⟨a, vs, h1, h2, h3⟩ := h
    exact ⟨a, vs, h1, e.seq h2, Reps.mono e h3⟩
  | .dT ks ds, v, h => by
    simp only [Rep] at h ⊢
    obtain ⟨a, vs, h1, h2, h3, h4⟩ := h
    exact ⟨a, vs, h1, e _ _ h2, h3, Reps.mono e h4⟩
  | .dK ks ds, v, h => by
    simp only [Rep] at h ⊢
    obtain ⟨a, vs, h1, h2, h3, h4⟩ := h
    exact ⟨a, vs, h1, e _ _ h2, h3, Reps.mono e h4⟩
  | .lT ks ds, v, h => by
    simp only [Rep] at h ⊢
    obtain ⟨a, od, vs, h1, h2, h3, h4⟩ := h
    exact ⟨a, od, vs, h1, e _ _ h2, h3, Reps.mono e h4⟩
  | .ins c ds, v, h => by
    simp only [Rep] at h ⊢
    obtain ⟨a, C, dx, os, h1, h2, h3, h4⟩ := h
    exact ⟨a, C, dx, os, h1, h2, sltS e h3, RepsO.mono e h4⟩
theorem Reps.mono {F F' : Hp} (e : Same F F') : ∀ {ds : List D} {vs : List V}, Reps K mg F ds vs → Reps K mg F' ds vs
  | [], [], _ => by simp only [Reps]
  | d :: ds, v :: vs, h => by
    simp only [Reps] at h ⊢
    exact ⟨Rep.mono e h.1, Reps.mono e h.2⟩
  | [], _ :: _, h => by simp only [Reps] at h
  | _ :: _, [], h => by simp only [Reps] at h
theorem RepsO.mono {F F' : Hp} (e : Same F F') : ∀ {ds : List D} {vs : List (Option V)}, RepsO K mg F ds vs → RepsO K mg F' ds vs
  | [], [], _ => by simp only [RepsO]
  | d :: ds, some v :: vs, h => by
    simp only [RepsO] at h ⊢
    exact ⟨Rep.mono e h.1, RepsO.mono e h.2⟩
  | d :: ds, none :: vs, h => by
    simp only [RepsO] at h ⊢
    exact ⟨h.1, RepsO.mono e h.2⟩
  | [], _ :: _, h => by simp only [RepsO] at h
  | _ :: _, [], h => by simp only [RepsO] at h
end

/-- what is owned at L stays so -/
structure Stay (F H F' H' : Hp) (L : List Addr) : Prop where
  sub : Same F F'
  out : ∀ b ∈ L, F' b = none
  eq : ∀ b ∈ L, H' b = H b
theorem Stay.less {F H F' H' : Hp} {L L1 : List Addr} (s : Stay F H F' H' L) (h : ∀ b ∈ L1, b ∈ L) : Stay F H F' H' L1 :=
  ⟨s.sub, fun b hb => s.out b (h b hb), fun b hb => s.eq b (h b hb)⟩
theorem slt_same {H H' : Hp} {a C dx : Addr} {os : List (Option V)} (h1 : H' a = H a) (h2 : H' dx = H dx) (h : SlX.Slt H a C dx os) : SlX.Slt H' a C dx os := by
  unfold SlX.Slt at h ⊢
  rw [h1, h2]; exact h
mutual
theorem Own.stay {F H F' H' : Hp} : ∀ {w : W} {v : V} {L : List Addr}, Own K mg F H w v L → Stay F H F' H' L → Own K mg F' H' w v L
  | .sh d, v, L, h, s => by
    simp only [Own] at h ⊢
    exact ⟨h.1.mono s.sub, h.2⟩
  | .lst ws, v, L, h, s => by
    simp only [Own] at h ⊢
    obtain ⟨a, vs, L', h1, h2, h3, h4, h5⟩ := h
    subst h4
    exact ⟨a, vs, L', h1, (s.eq a (by simp)).trans h2, s.out a (by simp), rfl, Owns.stay h5 (s.less fun b hb => by simp [hb])⟩
  | .dT ks ds, v, L, h, s => by
    simp only [Own] at h ⊢
    obtain ⟨a, vs, h1, h2, h3, h4, h5, h6⟩ := h
    subst h4
    exact ⟨a, vs, h1, (s.eq a (by simp)).trans h2, s.out a (by simp), rfl, h5, h6.mono s.sub⟩
  | .dK ks ds, v, L, h, s => by
    simp only [Own] at h ⊢
    obtain ⟨a, vs, h1, h2, h3, h4, h5, h6⟩ := h
    subst h4
    exact ⟨a, vs, h1, (s.eq a (by simp)).trans h2, s.out a (by simp), rfl, h5, h6.mono s.sub⟩
  | .ins c ws, v, L, h, s => by
    simp only [Own] at h ⊢
    obtain ⟨a, C, dx, os, L', h1, h2, h3, h4, h5, h6, h7, h8, h9⟩ := h
    subst h8
    have ea := s.eq a (by simp)
    have ed := s.eq dx (by simp)
    exact ⟨a, C, dx, os, L', h1, h2, slt_same ea ed h3, by rw [ed]; exact h4, h5, s.out a (by simp), s.out dx (by simp), rfl, OwnsO.stay h9 (s.less fun b hb => by simp [hb])⟩
theorem Owns.stay {F H F' H' : Hp} : ∀ {ws : List W} {vs : List V} {L : List Addr}, Owns K mg F H ws vs L → Stay F H F' H' L → Owns K mg F' H' ws vs L
  | [], [], L, h, s => by simpa only [Owns] using h
  | w :: ws, v :: vs, L, h, s => by
    simp only [Owns] at h ⊢
    obtain ⟨L1, L2, e, h1, h2⟩ := h
    subst e
    exact ⟨L1, L2, rfl, Own.stay h1 (s.less fun b hb => by simp [hb]), Owns.stay h2 (s.less fun b hb => by simp [hb])⟩
  | [], _ :: _, _, h, _ => by simp only [Owns] at h
  | _ :: _, [], _, h, _ => by simp only [Owns] at h
theorem OwnsO.stay {F H F' H' : Hp} : ∀ {ws : List W} {vs : List (Option V)} {L : List Addr}, OwnsO K mg F H ws vs L → Stay F H F' H' L → OwnsO K mg F' H' ws vs L
  | [], [], L, h, s => by simpa only [OwnsO] using h
  | w :: ws, some v :: vs, L, h, s => by
    simp only [OwnsO] at h ⊢
    obtain ⟨L1, L2, e, h1, h2⟩ := h
    subst e
    exact ⟨L1, L2, rfl, Own.stay h1 (s.less fun b hb => by simp [hb]), OwnsO.stay h2 (s.less fun b hb => by simp [hb])⟩
  | w :: ws, none :: vs, L, h, s => by
    simp only [OwnsO] at h ⊢
    exact ⟨h.1, OwnsO.stay h.2 s⟩
  | [], _ :: _, _, h, _ => by simp only [OwnsO] at h
  | _ :: _, [], _, h, _ => by simp only [OwnsO] at h
end
theorem slt_tup {H : Hp} {a C dx : Addr} {os : List (Option V)} (h : SlX.Slt H a C dx os) : ∀ vs, H a ≠ some (.tup vs) := fun vs e => by
  rcases h with ⟨z, _⟩ | ⟨z, _⟩
  · rw [z] at e; cases e
  · rw [z] at e
    unfold SlX.SlO at e
    cases e
mutual
theorem Own.cell {F H : Hp} : ∀ {w : W} {v : V} {L : List Addr}, Own K mg F H w v L → ∀ b ∈ L, NoTup (H b) ∧ F b = none
  | .sh d, v, L, h, b, hb => by
    simp only [Own] at h
    rw [h.2] at hb; cases hb
  | .lst ws, v, L, h, b, hb => by
    simp only [Own] at h
    obtain ⟨a, vs, L', h1, h2, h3, h4, h5⟩ := h
    subst h4
    rcases List.mem_cons.mp hb with rfl | hb
    · exact ⟨by rw [h2]; exact ⟨by simp, fun vs => by simp⟩, h3⟩
    · exact Owns.cell h5 b hb
  | .dT ks ds, v, L, h, b, hb => by
    simp only [Own] at h
    obtain ⟨a, vs, h1, h2, h3, h4, h5, h6⟩ := h
    subst h4
    have e : b = a := by simpa using hb
    subst e
    exact ⟨by rw [h2]; exact ⟨by simp, fun vs => by simp⟩, h3⟩
  | .dK ks ds, v, L, h, b, hb => by
    simp only [Own] at h
    obtain ⟨a, vs, h1, h2, h3, h4, h5, h6⟩ := h
    subst h4
    have e : b = a := by simpa using hb
    subst e
    exact ⟨by rw [h2]; exact ⟨by simp, fun vs => by simp⟩, h3⟩
  | .ins c ws, v, L, h, b, hb => by
    simp only [Own] at h
    obtain ⟨a, C, dx, os, L', h1, h2, h3, h4, h5, h6, h7, h8, h9⟩ := h
    subst h8
    rcases List.mem_cons.mp hb with rfl | hb
    · refine ⟨⟨?_, slt_tup h3⟩, h6⟩
      rcases h3 with ⟨z, _⟩ | ⟨z, _⟩ <;> rw [z] <;> simp
    · rcases List.mem_cons.mp hb with rfl | hb
      · exact ⟨h4, h7⟩
      · exact OwnsO.cell h9 b hb
theorem Owns.cell {F H : Hp} : ∀ {ws : List W} {vs : List V} {L : List Addr}, Owns K mg F H ws vs L → ∀ b ∈ L, NoTup (H b) ∧ F b = none
  | [], [], L, h, b, hb => by
    simp only [Owns] at h
    rw [h] at hb; cases hb
  | w :: ws, v :: vs, L, h, b, hb => by
    simp only [Owns] at h
    obtain ⟨L1, L2, e, h1, h2⟩ := h
    subst e
    rcases List.mem_append.mp hb with hb | hb
    · exact Own.cell h1 b hb
    · exact Owns.cell h2 b hb
  | [], _ :: _, _, h, _, _ => by simp only [Owns] at h
  | _ :: _, [], _, h, _, _ => by simp only [Owns] at h
theorem OwnsO.cell {F H : Hp} : ∀ {ws : List W} {vs : List (Option V)} {L : List Addr}, OwnsO K mg F H ws vs L → ∀ b ∈ L, NoTup (H b) ∧ F b = none
  | [], [], L, h, b, hb => by
    simp only [OwnsO] at h
    rw [h] at hb; cases hb
  | w :: ws, some v :: vs, L, h, b, hb => by
    simp only [OwnsO] at h
    obtain ⟨L1, L2, e, h1, h2⟩ := h
    subst e
    rcases List.mem_append.mp hb with hb | hb
    · exact Own.cell h1 b hb
    · exact OwnsO.cell h2 b hb
  | w :: ws, none :: vs, L, h, b, hb => by
    simp only [OwnsO] at h
    exact OwnsO.cell h.2 b hb
  | [], _ :: _, _, h, _, _ => by simp only [OwnsO] at h
  | _ :: _, [], _, h, _, _ => by simp only [OwnsO] at h
end

mutual
theorem Own.notup {F H : Hp} : ∀ {w : W} {v : V} {L : List Addr}, Own K mg F H w v L → ∀ b ∈ L, ∀ vs, H b ≠ some (.tup vs)
  | .sh d, v, L, h, b, hb => by
    simp only [Own] at h
    rw [h.2] at hb; cases hb
  | .lst ws, v, L, h, b, hb => by
    simp only [Own] at h
    obtain ⟨a, vs, L', h1, h2, h3, h4, h5⟩ := h
    subst h4
    rcases List.mem_cons.mp hb with rfl | hb
    · intro us e; rw [h2] at e; cases e
    · exact Owns.notup h5 b hb
  | .dT ks ds, v, L, h, b, hb => by
    simp only [Own] at h
    obtain ⟨a, vs, h1, h2, h3, h4, h5, h6⟩ := h
    subst h4
    have e : b = a := by simpa using hb
    subst e
    intro us e; rw [h2] at e; cases e
  | .dK ks ds, v, L, h, b, hb => by
    simp only [Own] at h
    obtain ⟨a, vs, h1, h2, h3, h4, h5, h6⟩ := h
    subst h4
    have e : b = a := by simpa using hb
    subst e
    intro us e; rw [h2] at e; cases e
  | .ins c ws, v, L, h, b, hb => by
    simp only [Own] at h
    obtain ⟨a, C, dx, os, L', h1, h2, h3, h4, h5, h6, h7, h8, h9⟩ := h
    subst h8
    rcases List.mem_cons.mp hb with rfl | hb
    · exact slt_tup h3
    · rcases List.mem_cons.mp hb with rfl | hb
      · exact h4.2
      · exact OwnsO.notup h9 b hb
theorem Owns.notup {F H : Hp} : ∀ {ws : List W} {vs : List V} {L : List Addr}, Owns K mg F H ws vs L → ∀ b ∈ L, ∀ vs, H b ≠ some (.tup vs)
  | [], [], L, h, b, hb => by
    simp only [Owns] at h
    rw [h] at hb; cases hb
  | w :: ws, v :: vs, L, h, b, hb => by
    simp only [Owns] at h
    obtain ⟨L1, L2, e, h1, h2⟩ := h
    subst e
    rcases List.mem_append.mp hb with hb | hb
    · exact Own.notup h1 b hb
    · exact Owns.notup h2 b hb
  | [], _ :: _, _, h, _, _ => by simp only [Owns] at h
  | _ :: _, [], _, h, _, _ => by simp only [Owns] at h
theorem OwnsO.notup {F H : Hp} : ∀ {ws : List W} {vs : List (Option V)} {L : List Addr}, OwnsO K mg F H ws vs L → ∀ b ∈ L, ∀ vs, H b ≠ some (.tup vs)
  | [], [], L, h, b, hb => by
    simp only [OwnsO] at h
    rw [h] at hb; cases hb
  | w :: ws, some v :: vs, L, h, b, hb => by
    simp only [OwnsO] at h
    obtain ⟨L1, L2, e, h1, h2⟩ := h
    subst e
    rcases List.mem_append.mp hb with hb | hb
    · exact Own.notup h1 b hb
    · exact OwnsO.notup h2 b hb
  | w :: ws, none :: vs, L, h, b, hb => by
    simp only [OwnsO] at h
    exact OwnsO.notup h.2 b hb
  | [], _ :: _, _, h, _, _ => by simp only [OwnsO] at h
  | _ :: _, [], _, h, _, _ => by simp only [OwnsO] at h
end
/-- what is owned, read where its cells and the frozen ones stand -/
structure Seen (F H G : Hp) (L : List Addr) : Prop where
  sub : Same F G
  eq : ∀ b ∈ L, G b = H b
theorem Seen.less {F H G : Hp} {L L1 : List Addr} (s : Seen F H G L) (h : ∀ b ∈ L1, b ∈ L) : Seen F H G L1 := ⟨s.sub, fun b hb => s.eq b (h b hb)⟩
mutual
theorem Own.seen {F H G : Hp} : ∀ {w : W} {v : V} {L : List Addr}, Own K mg F H w v L → Seen F H G L → Rep K mg G w.d v
  | .sh d, v, L, h, s => by
    simp only [Own, W.d] at h ⊢
    exact h.1.mono s.sub
  | .lst ws, v, L, h, s => by
    simp only [Own, W.d, Rep] at h ⊢
    obtain ⟨a, vs, L', h1, h2, h3, h4, h5⟩ := h
    subst h4
    exact ⟨a, vs, h1, (s.eq a (by simp)).trans h2, Owns.seen h5 (s.less fun b hb => by simp [hb])⟩
  | .dT ks ds, v, L, h, s => by
    simp only [Own, W.d, Rep] at h ⊢
    obtain ⟨a, vs, h1, h2, h3, h4, h5, h6⟩ := h
    subst h4
    exact ⟨a, vs, h1, (s.eq a (by simp)).trans h2, h5, h6.mono s.sub⟩
  | .dK ks ds, v, L, h, s => by
    simp only [Own, W.d, Rep] at h ⊢
    obtain ⟨a, vs, h1, h2, h3, h4, h5, h6⟩ := h
    subst h4
    exact ⟨a, vs, h1, (s.eq a (by simp)).trans h2, h5, h6.mono s.sub⟩
  | .ins c ws, v, L, h, s => by
    simp only [Own, W.d, Rep] at h ⊢
    obtain ⟨a, C, dx, os, L', h1, h2, h3, h4, h5, h6, h7, h8, h9⟩ := h
    subst h8
    exact ⟨a, C, dx, os, h1, h2, slt_same (s.eq a (by simp)) (s.eq dx (by simp)) h3, OwnsO.seen h9 (s.less fun b hb => by simp [hb])⟩
theorem Owns.seen {F H G : Hp} : ∀ {ws : List W} {vs : List V} {L : List Addr}, Owns K mg F H ws vs L → Seen F H G L → Reps K mg G (W.ds ws) vs
  | [], [], L, h, s => by simp only [W.ds, Reps]
  | w :: ws, v :: vs, L, h, s => by
    simp only [Owns, W.ds, Reps] at h ⊢
    obtain ⟨L1, L2, e, h1, h2⟩ := h
    subst e
    exact ⟨Own.seen h1 (s.less fun b hb => by simp [hb]), Owns.seen h2 (s.less fun b hb => by simp [hb])⟩
  | [], _ :: _, _, h, _ => by simp only [Owns] at h
  | _ :: _, [], _, h, _ => by simp only [Owns] at h
theorem OwnsO.seen {F H G : Hp} : ∀ {ws : List W} {vs : List (Option V)} {L : List Addr}, OwnsO K mg F H ws vs L → Seen F H G L → RepsO K mg G (W.ds ws) vs
  | [], [], L, h, s => by simp only [W.ds, RepsO]
  | w :: ws, some v :: vs, L, h, s => by
    simp only [OwnsO, W.ds, RepsO] at h ⊢
    obtain ⟨L1, L2, e, h1, h2⟩ := h
    subst e
    exact ⟨Own.seen h1 (s.less fun b hb => by simp [hb]), OwnsO.seen h2 (s.less fun b hb => by simp [hb])⟩
  | w :: ws, none :: vs, L, h, s => by
    simp only [OwnsO, W.ds, RepsO] at h ⊢
    obtain ⟨rfl, h2⟩ := h
    exact ⟨by simp only [W.d], OwnsO.seen h2 s⟩
  | [], _ :: _, _, h, _ => by simp only [OwnsO] at h
  | _ :: _, [], _, h, _ => by simp only [OwnsO] at h
end
theorem seen_H {F H : Hp} {L : List Addr} (s : Same F H) : Seen F H H L := ⟨s, fun _ _ => rfl⟩
theorem seen_add {F H : Hp} {L L' : List Addr} (s : Same F H) (h : ∀ b ∈ L, b ∈ L') : Seen F H (addF F H L') L := ⟨addF_sub s, fun _ hb => addF_in (h _ hb)⟩
end
end Pu

/-! Pu1: states, steps between states, places, what an expression means. -/
namespace Pu
open PySem PySem.Spec PyProof.Rows L2

abbrev En := List W
def W.owned : W → Bool
  | .sh _ => false
  | _ => true
def W.get : List Nat → W → Option W
  | [], w => some w
  | k :: p, .lst ws => match ws[k]? with
    | some w => W.get p w
    | none => none
  | k :: p, .ins _ ws => match ws[k]? with
    | some w => W.get p w
    | none => none
  | _ :: _, _ => none
def W.put : W → List Nat → W → W
  | _, [], w' => w'
  | .lst ws, k :: p, w' => match ws[k]? with
    | some w => .lst (ws.set k (W.put w p w'))
    | none => .lst ws
  | .ins c ws, k :: p, w' => match ws[k]? with
    | some w => .ins c (ws.set k (W.put w p w'))
    | none => .ins c ws
  | w, _ :: _, _ => w
def En.get (en : En) (i : Nat) (p : List Nat) : Option W := match en[i]? with
  | some w => w.get p
  | none => none
def En.put (en : En) (i : Nat) (p : List Nat) (w' : W) : En := match en[i]? with
  | some w => en.set i (w.put p w')
  | none => en
/-- an expression's result: a value of its own, or a place of a name's -/
inductive R where
  | val (w : W)
  | pl (i : Nat) (p : List Nat)

section
variable (K : PySem.W.Frag) (mg : Str → Option Value)
structure StOk (F H : Hp) (σ : L2.St) (en : En) (L : List Addr) : Prop where
  sub : Same F H
  nd : L.Nodup
  own : OwnsO K mg F H en σ L
/-- the place p of the name i holds w at the address v, and may be given another thing there -/
def PartO (F H : Hp) (σ : L2.St) (en : En) (L : List Addr) (i : Nat) (p : List Nat) (w : W) (v : V) (La Lm Lb : List Addr) : Prop :=
  en.get i p = some w ∧ L = La ++ (Lm ++ Lb) ∧ Own K mg F H w v Lm ∧
    ∀ (F' H' : Hp) (w' : W) (Lm' : List Addr), Stay F H F' H' (La ++ Lb) → Own K mg F' H' w' v Lm' → OwnsO K mg F' H' (en.put i p w') σ (La ++ (Lm' ++ Lb))
def RR (F H : Hp) (σ : L2.St) (en : En) (L : List Addr) : R → V → List Addr → Prop
  | .val w, v, Lr => Own K mg F H w v Lr
  | .pl i [], v, Lr => Lr = [] ∧ σ[i]? = some (some v)
  | .pl i (k :: p), v, Lr => Lr = [] ∧ ∃ w La Lm Lb, PartO K mg F H σ en L i (k :: p) w v La Lm Lb
end
/-- from one state to a later one: only what is owned is written, only what is owned or new becomes frozen or owned -/
structure Ext (F H : Hp) (L : List Addr) (F' H' : Hp) (L' : List Addr) : Prop where
  kept : ∀ a o, H a = some o → a ∉ L → H' a = some o
  there : ∀ a, H a ≠ none → H' a ≠ none
  sub : Same F F'
  newF : ∀ a, F' a ≠ none → F a ≠ none ∨ a ∈ L ∨ H a = none ∨ ∃ vs, H a = some (.tup vs)
  newL : ∀ a ∈ L', a ∈ L ∨ H a = none
theorem Ext.refl {F H : Hp} {L : List Addr} : Ext F H L F H L := ⟨fun _ _ h _ => h, fun _ h => h, Same.refl F, fun _ h => .inl h, fun _ h => .inl h⟩
theorem Ext.trans {F H F1 H1 F2 H2 : Hp} {L L1 L2 : List Addr} (x : Ext F H L F1 H1 L1) (y : Ext F1 H1 L1 F2 H2 L2) : Ext F H L F2 H2 L2 where
  kept := fun a o h n => by
    have h1 := x.kept a o h n
    refine y.kept a o h1 fun m => ?_
    rcases x.newL a m with z | z
    · exact n z
    · rw [h] at z; cases z
  there := fun a h => y.there a (x.there a h)
  sub := x.sub.trans y.sub
  newF := fun a h => by
    rcases y.newF a h with z | z | z | z
    · exact x.newF a z
    · exact (x.newL a z).elim (fun w => .inr (.inl w)) fun w => .inr (.inr (.inl w))
    · right; right; left
      cases q : H a with
      | none => rfl
      | some o => exact absurd z (x.there a (by rw [q]; simp))
    · cases q : H a with
      | none => exact .inr (.inr (.inl rfl))
      | some o =>
        by_cases hL : a ∈ L
        · exact .inr (.inl hL)
        · obtain ⟨vs, e⟩ := z
          rw [x.kept a o q hL] at e
          exact .inr (.inr (.inr ⟨vs, e⟩))
  newL := fun a h => by
    rcases y.newL a h with z | z
    · exact x.newL a z
    · right
      cases q : H a with
      | none => rfl
      | some o => exact absurd z (x.there a (by rw [q]; simp))
/-- fewer owned behind, more ahead -/
theorem Ext.mem {F H F' H' : Hp} {L L' M M' : List Addr} (x : Ext F H L F' H' L') (h : ∀ a ∈ L, a ∈ M) (h' : ∀ a ∈ M', a ∈ L') : Ext F H M F' H' M' :=
  ⟨fun a o e n => x.kept a o e fun z => n (h a z), x.there, x.sub, fun a e => (x.newF a e).imp id fun z => z.imp (h a) id, fun a e => (x.newL a (h' a e)).imp (h a) id⟩
/-- what is owned besides -/
theorem Ext.frame {F H F' H' : Hp} {L L' : List Addr} (x : Ext F H L F' H' L') (M : List Addr) : Ext F H (L ++ M) F' H' (L' ++ M) :=
  ⟨fun a o e n => x.kept a o e fun z => n (List.mem_append_left _ z), x.there, x.sub, fun a e => (x.newF a e).imp id fun z => z.imp (List.mem_append_left _) id,
    fun a e => (List.mem_append.mp e).elim (fun z => (x.newL a z).imp (List.mem_append_left _) id) fun z => .inl (List.mem_append_right _ z)⟩
theorem Ext.stay {F H F' H' : Hp} {L L' M : List Addr} (x : Ext F H L F' H' L') (h : ∀ b ∈ M, b ∉ L ∧ NoTup (H b) ∧ F b = none) : Stay F H F' H' M where
  sub := x.sub
  out := fun b hb => by
    obtain ⟨h1, h2, h3⟩ := h b hb
    cases q : F' b with
    | none => rfl
    | some o =>
      rcases x.newF b (by rw [q]; simp) with z | z | z | ⟨vs, z⟩
      · exact absurd h3 z
      · exact absurd z h1
      · exact absurd z h2.1
      · exact absurd z (h2.2 vs)
  eq := fun b hb => by
    obtain ⟨h1, h2, h3⟩ := h b hb
    cases q : H b with
    | none => exact absurd q h2.1
    | some o => exact x.kept b o q h1
/-- what is owned besides stays apart from what is owned behind -/
theorem Ext.apart {F H F' H' : Hp} {L L' M : List Addr} (x : Ext F H L F' H' L') (h : ∀ b ∈ M, b ∉ L ∧ H b ≠ none) : ∀ a ∈ L', ∀ b ∈ M, a ≠ b := fun a ha b hb e => by
  subst e
  obtain ⟨h1, h2⟩ := h a hb
  rcases x.newL a ha with z | z
  · exact h1 z
  · exact h2 z

section
variable {K : PySem.W.Frag} {mg : Str → Option Value} {F H : Hp}
theorem Owns.get : ∀ {ws : List W} {vs : List V} {L : List Addr} {k : Nat} {w : W}, Owns K mg F H ws vs L → ws[k]? = some w → ∃ v La Lm Lb, vs[k]? = some v ∧ L = La ++ (Lm ++ Lb) ∧ Own K mg F H w v Lm ∧
    ∀ (F' H' : Hp) (w' : W) (v' : V) (Lm' : List Addr), Stay F H F' H' (La ++ Lb) → Own K mg F' H' w' v' Lm' → Owns K mg F' H' (ws.set k w') (vs.set k v') (La ++ (Lm' ++ Lb))
  | [], _, _, _, _, _, e => by simp at e
  | _ :: _, [], _, _, _, h, _ => by simp only [Owns] at h
  | w0 :: ws, v0 :: vs, L, 0, w, h, e => by
    simp only [Owns] at h
    obtain ⟨L1, L2, eL, h1, h2⟩ := h
    simp only [List.getElem?_cons_zero, Option.some.injEq] at e
    subst e eL
    refine ⟨v0, [], L1, L2, rfl, rfl, h1, fun F' H' w' v' Lm' s o => ?_⟩
    simp only [List.set_cons_zero, Owns, List.nil_append]
    exact ⟨Lm', L2, rfl, o, h2.stay (s.less fun b hb => by simpa using hb)⟩
  | w0 :: ws, v0 :: vs, L, k + 1, w, h, e => by
    simp only [Owns] at h
    obtain ⟨L1, L2, eL, h1, h2⟩ := h
    simp only [List.getElem?_cons_succ] at e
    subst eL
    obtain ⟨v, La, Lm, Lb, e1, e2, e3, e4⟩ := Owns.get h2 e
    subst e2
    refine ⟨v, L1 ++ La, Lm, Lb, by simpa using e1, by simp, e3, fun F' H' w' v' Lm' s o => ?_⟩
    simp only [List.set_cons_succ, Owns]
    exact ⟨L1, La ++ (Lm' ++ Lb), by simp, h1.stay (s.less fun b hb => by simp [hb]), e4 F' H' w' v' Lm' (s.less fun b hb => by
      rcases List.mem_append.mp hb with z | z <;> simp [z]) o⟩
theorem OwnsO.len : ∀ {ws : List W} {vs : List (Option V)} {L : List Addr}, OwnsO K mg F H ws vs L → ws.length = vs.length
  | [], [], _, _ => rfl
  | w :: ws, some v :: vs, L, h => by
    simp only [OwnsO] at h
    obtain ⟨_, _, _, _, h2⟩ := h
    simp [OwnsO.len h2]
  | w :: ws, none :: vs, L, h => by
    simp only [OwnsO] at h
    simp [OwnsO.len h.2]
  | [], _ :: _, _, h => by simp only [OwnsO] at h
  | _ :: _, [], _, h => by simp only [OwnsO] at h
/-- a name's place, whatever it holds -/
theorem OwnsO.get : ∀ {ws : List W} {vs : List (Option V)} {L : List Addr} {k : Nat} {w : W}, OwnsO K mg F H ws vs L → ws[k]? = some w → ∃ o La Lm Lb, vs[k]? = some o ∧ L = La ++ (Lm ++ Lb) ∧ ((∃ v, o = some v ∧ Own K mg F H w v Lm) ∨ (o = none ∧ w = .sh .any ∧ Lm = [])) ∧
    ∀ (F' H' : Hp) (w' : W) (v' : V) (Lm' : List Addr), Stay F H F' H' (La ++ Lb) → Own K mg F' H' w' v' Lm' → OwnsO K mg F' H' (ws.set k w') (vs.set k (some v')) (La ++ (Lm' ++ Lb))
  | [], _, _, _, _, _, e => by simp at e
  | _ :: _, [], _, _, _, h, _ => by simp only [OwnsO] at h
  | w0 :: ws, some v0 :: vs, L, 0, w, h, e => by
    simp only [OwnsO] at h
    obtain ⟨L1, L2, eL, h1, h2⟩ := h
    simp only [List.getElem?_cons_zero, Option.some.injEq] at e
    subst e eL
    refine ⟨some v0, [], L1, L2, rfl, rfl, .inl ⟨v0, rfl, h1⟩, fun F' H' w' v' Lm' s o => ?_⟩
    simp only [List.set_cons_zero, OwnsO, List.nil_append]
    exact ⟨Lm', L2, rfl, o, h2.stay (s.less fun b hb => by simpa using hb)⟩
  | w0 :: ws, none :: vs, L, 0, w, h, e => by
    simp only [OwnsO] at h
    simp only [List.getElem?_cons_zero, Option.some.injEq] at e
    subst e
    refine ⟨none, [], [], L, rfl, rfl, .inr ⟨rfl, h.1, rfl⟩, fun F' H' w' v' Lm' s o => ?_⟩
    simp only [List.set_cons_zero, OwnsO, List.nil_append]
    exact ⟨Lm', L, rfl, o, h.2.stay (s.less fun b hb => by simpa using hb)⟩
  | w0 :: ws, some v0 :: vs, L, k + 1, w, h, e => by
    simp only [OwnsO] at h
    obtain ⟨L1, L2, eL, h1, h2⟩ := h
    simp only [List.getElem?_cons_succ] at e
    subst eL
    obtain ⟨v, La, Lm, Lb, e1, e2, e3, e4⟩ := OwnsO.get h2 e
    subst e2
    refine ⟨v, L1 ++ La, Lm, Lb, by simpa using e1, by simp, e3, fun F' H' w' v' Lm' s o => ?_⟩
    simp only [List.set_cons_succ, OwnsO]
    exact ⟨L1, La ++ (Lm' ++ Lb), by simp, h1.stay (s.less fun b hb => by simp [hb]), e4 F' H' w' v' Lm' (s.less fun b hb => by
      rcases List.mem_append.mp hb with z | z <;> simp [z]) o⟩
  | w0 :: ws, none :: vs, L, k + 1, w, h, e => by
    simp only [OwnsO] at h
    simp only [List.getElem?_cons_succ] at e
    obtain ⟨h1, h2⟩ := h
    obtain ⟨v, La, Lm, Lb, e1, e2, e3, e4⟩ := OwnsO.get h2 e
    subst e2
    refine ⟨v, La, Lm, Lb, by simpa using e1, rfl, e3, fun F' H' w' v' Lm' s o => ?_⟩
    simp only [List.set_cons_succ, OwnsO]
    exact ⟨h1, e4 F' H' w' v' Lm' s o⟩
theorem set_get {α : Type} {l : List α} {k : Nat} {x : α} (h : l[k]? = some x) : l.set k x = l := by
  obtain ⟨h1, h2⟩ := List.getElem?_eq_some_iff.mp h
  subst h2
  exact List.set_getElem_self h1
/-- the place of a name that has a value -/
theorem part_name {σ : L2.St} {en : En} {L : List Addr} {i : Nat} {v : V} (h : OwnsO K mg F H en σ L) (hv : σ[i]? = some (some v)) : ∃ w La Lm Lb, PartO K mg F H σ en L i [] w v La Lm Lb := by
  have hi : i < en.length := by
    rw [h.len]
    exact (List.getElem?_eq_some_iff.mp hv).1
  obtain ⟨o, La, Lm, Lb, e1, e2, e3, e4⟩ := h.get (List.getElem?_eq_getElem hi)
  rw [hv] at e1
  cases e1
  rcases e3 with ⟨v', e, e3⟩ | ⟨e, _⟩
  · cases e
    refine ⟨en[i], La, Lm, Lb, by simp [En.get, hi, W.get], e2, e3, fun F' H' w' Lm' s o => ?_⟩
    have q := e4 F' H' w' v Lm' s o
    rw [set_get hv] at q
    have z : en.put i [] w' = en.set i w' := by simp [En.put, hi, W.put]
    rw [z]
    exact q
  · cases e
theorem RR.part {σ : L2.St} {en : En} {L Lr : List Addr} {i : Nat} {p : List Nat} {v : V} (st : StOk K mg F H σ en L) (h : RR K mg F H σ en L (.pl i p) v Lr) : Lr = [] ∧ ∃ w La Lm Lb, PartO K mg F H σ en L i p w v La Lm Lb := by
  cases p with
  | nil =>
    simp only [RR] at h
    exact ⟨h.1, part_name st.own h.2⟩
  | cons k p =>
    simp only [RR] at h
    exact h

/-- a result, looked at -/
def R.d (en : En) : R → Option D
  | .val w => some w.d
  | .pl i p => match en.get i p with
    | some w => some w.d
    | none => none
/-- a result, frozen for good -/
def R.fz (en : En) : R → Option (En × D)
  | .val w => some (en, w.d)
  | .pl i p => match en.get i p with
    | some w => some (en.put i p (.sh w.d), w.d)
    | none => none
/-- a result, taken over: one of its own as it is, a place's frozen -/
def R.tk (en : En) : R → Option (En × W)
  | .val w => some (en, w)
  | .pl i p => match en.get i p with
    | some w => some (en.put i p (.sh w.d), .sh w.d)
    | none => none
/-- a result that other expressions behind it don't move -/
def R.st (en : En) : R → Option (En × R)
  | .val w => some (en, .val w)
  | .pl i [] => some (en, .pl i [])
  | .pl i (k :: p) => match en.get i (k :: p) with
    | some w => some (en.put i (k :: p) (.sh w.d), .val (.sh w.d))
    | none => none
def R.stable : R → Bool
  | .val _ => true
  | .pl _ [] => true
  | .pl _ (_ :: _) => false

variable {σ : L2.St} {en en' : En} {L Lr : List Addr} {r : R} {v : V}
theorem RR.peek {d : D} (st : StOk K mg F H σ en L) (h : RR K mg F H σ en L r v Lr) (e : r.d en = some d) : Rep K mg H d v := by
  cases r with
  | val w =>
    simp only [R.d, Option.some.injEq] at e
    subst e
    simp only [RR] at h
    exact h.seen (seen_H st.sub)
  | pl i p =>
    obtain ⟨_, w, La, Lm, Lb, g, _, o, _⟩ := RR.part st h
    simp only [R.d, g, Option.some.injEq] at e
    subst e
    exact o.seen (seen_H st.sub)
theorem nodup3 {α : Type} {La Lm Lb : List α} (h : (La ++ (Lm ++ Lb)).Nodup) : (La ++ Lb).Nodup ∧ (∀ b ∈ La ++ Lb, b ∉ Lm) := by
  simp only [List.nodup_append, List.mem_append] at h ⊢
  obtain ⟨h1, ⟨h2, h3, h4⟩, h5⟩ := h
  refine ⟨⟨h1, h3, fun a ha b hb => h5 a ha b (.inr hb)⟩, fun b hb hm => ?_⟩
  rcases hb with z | z
  · exact h5 b z b (.inl hm) rfl
  · exact h4 b hm b z rfl
theorem StOk.cell (st : StOk K mg F H σ en L) : ∀ b ∈ L, NoTup (H b) ∧ F b = none := st.own.cell
theorem RR.cell (h : RR K mg F H σ en L r v Lr) : ∀ b ∈ Lr, NoTup (H b) ∧ F b = none := by
  cases r with
  | val w => simp only [RR] at h; exact h.cell
  | pl i p =>
    cases p with
    | nil => simp only [RR] at h; rw [h.1]; simp
    | cons k p => simp only [RR] at h; rw [h.1]; simp
theorem nd_app {α : Type} {A B : List α} (h : (A ++ B).Nodup) : A.Nodup ∧ B.Nodup ∧ (∀ b ∈ A, b ∉ B) := by
  simp only [List.nodup_append] at h
  exact ⟨h.1, h.2.1, fun b hb hb' => h.2.2 b hb b hb' rfl⟩
theorem nd_of {α : Type} {A B : List α} (h1 : A.Nodup) (h2 : B.Nodup) (h3 : ∀ b ∈ A, b ∉ B) : (A ++ B).Nodup := by
  simp only [List.nodup_append]
  exact ⟨h1, h2, fun a ha b hb e => h3 a ha (e ▸ hb)⟩
/-- more of the heap is frozen -/
theorem Ext.freeze {M L' : List Addr} (s : Same F H) (h : ∀ b ∈ M, b ∈ L) (h' : ∀ b ∈ L', b ∈ L) : Ext F H L (addF F H M) H L' where
  kept := fun _ _ e _ => e
  there := fun _ e => e
  sub := addF_sub s
  newF := fun a e => by
    by_cases ha : a ∈ M
    · exact .inr (.inl (h a ha))
    · rw [addF_out ha] at e; exact .inl e
  newL := fun a e => .inl (h' a e)
theorem stay_freeze {M N : List Addr} (s : Same F H) (hn : ∀ b ∈ N, F b = none) (hd : ∀ b ∈ N, b ∉ M) : Stay F H (addF F H M) H N :=
  ⟨addF_sub s, fun b hb => by rw [addF_out (hd b hb)]; exact hn b hb, fun _ _ => rfl⟩
/-- a place is frozen -/
theorem PartO.freeze {i : Nat} {p : List Nat} {w : W} {La Lm Lb : List Addr} (st : StOk K mg F H σ en L) (h : PartO K mg F H σ en L i p w v La Lm Lb) :
    StOk K mg (addF F H Lm) H σ (en.put i p (.sh w.d)) (La ++ Lb) ∧ Rep K mg (addF F H Lm) w.d v ∧ Ext F H L (addF F H Lm) H (La ++ Lb) := by
  obtain ⟨g, e, o, k⟩ := h
  have nd := st.nd
  have cl := st.cell
  subst e
  obtain ⟨n1, n2⟩ := nodup3 nd
  have rep : Rep K mg (addF F H Lm) w.d v := o.seen (seen_add st.sub fun _ h => h)
  have hs : Stay F H (addF F H Lm) H (La ++ Lb) := stay_freeze st.sub (fun b hb => (cl b (by simp only [List.mem_append] at hb ⊢; rcases hb with z | z <;> simp [z])).2) n2
  refine ⟨⟨addF_le st.sub, n1, ?_⟩, rep, Ext.freeze st.sub (fun b hb => by simp [hb]) fun b hb => by
    simp only [List.mem_append] at hb ⊢
    rcases hb with z | z <;> simp [z]⟩
  have q := k (addF F H Lm) H (.sh w.d) [] hs (by simp only [Own]; exact ⟨rep, trivial⟩)
  simpa using q
theorem StOk.freeze {M : List Addr} (st : StOk K mg F H σ en L) (h : ∀ b ∈ L, b ∉ M) : StOk K mg (addF F H M) H σ en L :=
  ⟨addF_le st.sub, st.nd, st.own.stay (stay_freeze st.sub (fun b hb => (st.cell b hb).2) h)⟩
theorem RR.tk {w : W} (st : StOk K mg F H σ en L) (h : RR K mg F H σ en L r v Lr) (nd : (L ++ Lr).Nodup) (e : r.tk en = some (en', w)) :
    ∃ F' L' Lr', StOk K mg F' H σ en' L' ∧ Own K mg F' H w v Lr' ∧ (L' ++ Lr').Nodup ∧ Ext F H (L ++ Lr) F' H (L' ++ Lr') := by
  cases r with
  | val w =>
    simp only [R.tk, Option.some.injEq, Prod.mk.injEq] at e
    obtain ⟨rfl, rfl⟩ := e
    simp only [RR] at h
    exact ⟨F, L, Lr, st, h, nd, Ext.refl⟩
  | pl i p =>
    obtain ⟨rfl, w1, La, Lm, Lb, P⟩ := RR.part st h
    have g := P.1
    simp only [R.tk, g, Option.some.injEq, Prod.mk.injEq] at e
    obtain ⟨rfl, rfl⟩ := e
    obtain ⟨s1, s2, s3⟩ := P.freeze st
    refine ⟨_, La ++ Lb, [], s1, by simp only [Own]; exact ⟨s2, trivial⟩, by simpa using s1.nd, ?_⟩
    simpa using s3
theorem RR.fz {d : D} (st : StOk K mg F H σ en L) (h : RR K mg F H σ en L r v Lr) (nd : (L ++ Lr).Nodup) (e : r.fz en = some (en', d)) :
    ∃ F' L', StOk K mg F' H σ en' L' ∧ Rep K mg F' d v ∧ Ext F H (L ++ Lr) F' H L' := by
  cases r with
  | val w =>
    simp only [R.fz, Option.some.injEq, Prod.mk.injEq] at e
    obtain ⟨rfl, rfl⟩ := e
    simp only [RR] at h
    exact ⟨addF F H Lr, L, st.freeze (nd_app nd).2.2, h.seen (seen_add st.sub fun _ h => h), Ext.freeze st.sub (fun b hb => by simp [hb]) fun b hb => by simp [hb]⟩
  | pl i p =>
    obtain ⟨rfl, w1, La, Lm, Lb, P⟩ := RR.part st h
    have g := P.1
    simp only [R.fz, g, Option.some.injEq, Prod.mk.injEq] at e
    obtain ⟨rfl, rfl⟩ := e
    obtain ⟨s1, s2, s3⟩ := P.freeze st
    exact ⟨_, La ++ Lb, s1, s2, by simpa using s3⟩
theorem RR.st {r' : R} (st : StOk K mg F H σ en L) (h : RR K mg F H σ en L r v Lr) (nd : (L ++ Lr).Nodup) (e : r.st en = some (en', r')) :
    ∃ F' L' Lr', StOk K mg F' H σ en' L' ∧ RR K mg F' H σ en' L' r' v Lr' ∧ (L' ++ Lr').Nodup ∧ Ext F H (L ++ Lr) F' H (L' ++ Lr') ∧ r'.stable = true := by
  cases r with
  | val w =>
    simp only [R.st, Option.some.injEq, Prod.mk.injEq] at e
    obtain ⟨rfl, rfl⟩ := e
    exact ⟨F, L, Lr, st, h, nd, Ext.refl, rfl⟩
  | pl i p =>
    cases p with
    | nil =>
      simp only [R.st, Option.some.injEq, Prod.mk.injEq] at e
      obtain ⟨rfl, rfl⟩ := e
      exact ⟨F, L, Lr, st, h, nd, Ext.refl, rfl⟩
    | cons k p =>
      obtain ⟨rfl, w1, La, Lm, Lb, P⟩ := RR.part st h
      have g := P.1
      simp only [R.st, g, Option.some.injEq, Prod.mk.injEq] at e
      obtain ⟨rfl, rfl⟩ := e
      obtain ⟨s1, s2, s3⟩ := P.freeze st
      refine ⟨_, La ++ Lb, [], s1, by simp only [RR, Own]; exact ⟨s2, trivial⟩, by simpa using s1.nd, ?_, rfl⟩
      simpa using s3
/-- a stable result stays what it is -/
theorem RR.keep {F' H' : Hp} {L' M : List Addr} (h : RR K mg F H σ en L r v Lr) (hs : r.stable = true) (x : Ext F H M F' H' L') (nd : ∀ b ∈ Lr, b ∉ M) : RR K mg F' H' σ en' L' r v Lr := by
  cases r with
  | val w =>
    simp only [RR] at h ⊢
    exact h.stay (x.stay fun b hb => ⟨nd b hb, h.cell b hb⟩)
  | pl i p =>
    cases p with
    | nil => simpa only [RR] using h
    | cons k p => cases hs
end

/-! ### what an expression means -/
abbrev FE := En → Option (En × R)
section
variable (K : PySem.W.Frag) (mg : Str → Option Value)
def tS (f : FE) : TE := fun σ H Q => ∃ F en L en' r, StOk K mg F H σ en L ∧ f en = some (en', r) ∧
  ∀ v F' H' L' Lr, StOk K mg F' H' σ en' L' → RR K mg F' H' σ en' L' r v Lr → (L' ++ Lr).Nodup → Ext F H L F' H' (L' ++ Lr) → Q v H'
def RRs (F H : Hp) (σ : L2.St) (en : En) (L : List Addr) : List R → List V → List Addr → Prop
  | [], [], Lr => Lr = []
  | r :: rs, v :: vs, Lr => ∃ L1 L2, Lr = L1 ++ L2 ∧ RR K mg F H σ en L r v L1 ∧ RRs F H σ en L rs vs L2
  | [], _ :: _, _ => False
  | _ :: _, [], _ => False
/-- expressions from the left -/
def evs : List FE → En → Option (En × List R)
  | [], en => some (en, [])
  | f :: fs, en => match f en with
    | none => none
    | some (en1, r) => match r.st en1 with
      | none => none
      | some (en2, r') => match evs fs en2 with
        | none => none
        | some (en3, rs) => some (en3, r' :: rs)
def tEv (fs : List FE) : TA := fun σ H Q => ∃ F en L en' rs, StOk K mg F H σ en L ∧ evs fs en = some (en', rs) ∧
  ∀ vs F' H' L' Lr, StOk K mg F' H' σ en' L' → RRs K mg F' H' σ en' L' rs vs Lr → (L' ++ Lr).Nodup → Ext F H L F' H' (L' ++ Lr) → Q vs H'
end
abbrev SE (X : Cx) (e : Expr) (f : FE) : Prop := PE X e (tS X.K X.mg f)
abbrev SA (X : Cx) (es : List Expr) (fs : List FE) : Prop := PA X es (tEv X.K X.mg fs)
theorem pe_imp {X : Cx} {e : Expr} {t t' : TE} (h : PE X e t) (i : ∀ σ H Q, t' σ H Q → t σ H Q) : PE X e t' := ⟨fun pins s σ H Q I q => h.run pins s σ H Q I (i σ H Q q)⟩
theorem pt_imp {X : Cx} {e : Expr} {t t' : TT} (h : PT X e t) (i : ∀ σ H Q, t' σ H Q → t σ H Q) : PT X e t' := ⟨fun pins s σ H Q I q => h.run pins s σ H Q I (i σ H Q q)⟩
theorem pa_imp {X : Cx} {e : List Expr} {t t' : TA} (h : PA X e t) (i : ∀ σ H Q, t' σ H Q → t σ H Q) : PA X e t' := ⟨fun pos pins s σ H Q I q => h.run pos pins s σ H Q I (i σ H Q q)⟩
theorem ps_imp {X : Cx} {e : Stmt} {t t' : TS} (h : PS X e t) (i : ∀ D σ H, t' D σ H → t D σ H) : PS X e t' := ⟨fun pins s σ H D I q => h.run pins s σ H D I (i D σ H q)⟩
theorem pss_imp {X : Cx} {e : List Stmt} {t t' : TS} (h : PSs X e t) (i : ∀ D σ H, t' D σ H → t D σ H) : PSs X e t' := ⟨fun pins s σ H D I q => h.run pins s σ H D I (i D σ H q)⟩

section
variable {K : PySem.W.Frag} {mg : Str → Option Value}
theorem RRs.keep {F H F' H' : Hp} {σ : L2.St} {en en' : En} {L L' M : List Addr} : ∀ {rs : List R} {vs : List V} {Lr : List Addr}, RRs K mg F H σ en L rs vs Lr → (∀ r ∈ rs, r.stable = true) → Ext F H M F' H' L' → (∀ b ∈ Lr, b ∉ M) → RRs K mg F' H' σ en' L' rs vs Lr
  | [], [], _, h, _, _, _ => by simpa only [RRs] using h
  | r :: rs, v :: vs, Lr, h, hs, x, nd => by
    simp only [RRs] at h ⊢
    obtain ⟨L1, L2, e, h1, h2⟩ := h
    subst e
    exact ⟨L1, L2, rfl, h1.keep (hs r (by simp)) x fun b hb => nd b (by simp [hb]), RRs.keep h2 (fun r hr => hs r (by simp [hr])) x fun b hb => nd b (by simp [hb])⟩
  | [], _ :: _, _, h, _, _, _ => by simp only [RRs] at h
  | _ :: _, [], _, h, _, _, _ => by simp only [RRs] at h
theorem tEv_nil {σ : L2.St} {H : Hp} {Q : List V → Hp → Prop} (h : tEv K mg [] σ H Q) : tNil σ H Q := by
  obtain ⟨F, en, L, en', rs, st, e, q⟩ := h
  simp only [evs, Option.some.injEq, Prod.mk.injEq] at e
  obtain ⟨rfl, rfl⟩ := e
  exact q [] F H L [] st (by simp only [RRs]) (by simpa using st.nd) (by simpa using Ext.refl)
theorem tEv_cons {f : FE} {fs : List FE} {σ : L2.St} {H : Hp} {Q : List V → Hp → Prop} (h : tEv K mg (f :: fs) σ H Q) : tCons (tS K mg f) (tEv K mg fs) σ H Q := by
  obtain ⟨F, en, L, en', rs, st, e, q⟩ := h
  simp only [evs] at e
  split at e
  · cases e
  rename_i en1 r ef
  split at e
  · cases e
  rename_i en2 r' es
  split at e
  · cases e
  rename_i en3 rs' eg
  simp only [Option.some.injEq, Prod.mk.injEq] at e
  obtain ⟨rfl, rfl⟩ := e
  refine ⟨F, en, L, en1, r, st, ef, fun v F1 H1 L1 Lr1 st1 rr1 nd1 x1 => ?_⟩
  obtain ⟨F2, L2, Lr2, st2, rr2, nd2, x2, hst⟩ := RR.st st1 rr1 nd1 es
  refine ⟨F2, en2, L2, en3, rs', st2, eg, fun vs F3 H3 L3 Lr3 st3 rr3 nd3 x3 => ?_⟩
  obtain ⟨a1, a2, a3⟩ := nd_app nd2
  obtain ⟨b1, b2, b3⟩ := nd_app nd3
  have dj : ∀ b ∈ Lr2, b ∉ L2 := fun b hb hb' => a3 b hb' hb
  have k2 := rr2.keep (en' := en3) (L' := L3) hst (x3.mem (fun _ h => h) fun a h => by simp [h]) dj
  have ap := x3.apart (M := Lr2) fun b hb => ⟨dj b hb, (rr2.cell b hb).1.1⟩
  refine q (v :: vs) F3 H3 L3 (Lr2 ++ Lr3) st3 (by simp only [RRs]; exact ⟨Lr2, Lr3, rfl, k2, rr3⟩) ?_ ?_
  · refine nd_of b1 (nd_of a2 b2 fun b hb hb' => ap b (by simp [hb']) b hb rfl) fun b hb hb' => ?_
    rcases List.mem_append.mp hb' with z | z
    · exact ap b (by simp [hb]) b z rfl
    · exact b3 b hb z
  · refine (x1.trans (x2.trans (x3.frame Lr2))).mem (fun _ h => h) fun a ha => ?_
    simp only [List.mem_append] at ha ⊢
    rcases ha with z | z | z <;> simp [z]
/-- two in a row, by the list of both -/
theorem tEv_two {f g : FE} {σ : L2.St} {H : Hp} {R : V → V → Hp → Prop} (h : tEv K mg [f, g] σ H fun vs H' => ∃ a b, vs = [a, b] ∧ R a b H') : tS K mg f σ H fun a H1 => tS K mg g σ H1 fun b H2 => R a b H2 := by
  obtain ⟨F, en, L, en1, r, st, ef, k⟩ := tEv_cons h
  refine ⟨F, en, L, en1, r, st, ef, fun v F' H' L' Lr a b c d => ?_⟩
  obtain ⟨F, en, L, en1, r, st, ef, k⟩ := tEv_cons (k v F' H' L' Lr a b c d)
  refine ⟨F, en, L, en1, r, st, ef, fun v2 F' H' L' Lr a b c d => ?_⟩
  obtain ⟨x, y, e, q⟩ := tEv_nil (k v2 F' H' L' Lr a b c d)
  cases e
  exact q
theorem tEv_one {f : FE} {σ : L2.St} {H : Hp} {R : V → Hp → Prop} (h : tEv K mg [f] σ H fun vs H' => ∃ a, vs = [a] ∧ R a H') : tS K mg f σ H fun a H1 => R a H1 := by
  obtain ⟨F, en, L, en1, r, st, ef, k⟩ := tEv_cons h
  refine ⟨F, en, L, en1, r, st, ef, fun v F' H' L' Lr a b c d => ?_⟩
  obtain ⟨x, e, q⟩ := tEv_nil (k v F' H' L' Lr a b c d)
  cases e
  exact q
theorem sa_nil {X : Cx} : SA X [] [] := pa_imp pa_nil fun _ _ _ h => tEv_nil h
theorem sa_cons {X : Cx} {e : Expr} {es : List Expr} {f : FE} {fs : List FE} (h1 : SE X e f) (h2 : SA X es fs) (hs : starEach (e :: es) X.env = (false, eval e X.env) :: starEach es X.env := by rfl) : SA X (e :: es) (f :: fs) :=
  pa_imp (pa_cons h1 h2 hs) fun _ _ _ h => tEv_cons h
end
end Pu

/-! Pu2: expressions: constants, names, displays, operators, tests. -/
namespace Pu
open PySem PySem.Spec PyProof.Rows L2

def D.v : D → Option V
  | .non => some .non
  | .bl b => some (.bl b)
  | .int i => some (.int i)
  | .str x => some (.str x)
  | _ => none
section
variable {K : PySem.W.Frag} {mg : Str → Option Value} {F H : Hp}
theorem rep_v {d : D} {v : V} (h : d.v = some v) : Rep K mg F d v := by
  cases d <;> simp only [D.v, Option.some.injEq] at h <;> first | (cases h; done) | (subst h; simp only [Rep])
theorem rep_int {i : Int} {v : V} (h : Rep K mg F (.int i) v) : v = .int i := by simpa only [Rep] using h
theorem rep_bl {i : Bool} {v : V} (h : Rep K mg F (.bl i) v) : v = .bl i := by simpa only [Rep] using h
theorem rep_str {i : Str} {v : V} (h : Rep K mg F (.str i) v) : v = .str i := by simpa only [Rep] using h
theorem rep_non {v : V} (h : Rep K mg F .non v) : v = .non := by simpa only [Rep] using h
theorem own_sh {d : D} {v : V} (h : Rep K mg F d v) : Own K mg F H (.sh d) v [] := by
  simp only [Own]; exact ⟨h, trivial⟩
end

/-! ### constants, names -/
def fC (d : D) : FE := fun en => some (en, .val (.sh d))
theorem se_of_tC {X : Cx} {e : Expr} {d : D} {v : V} (h : PE X e (tC v)) (r : ∀ F, Rep X.K X.mg F d v) : SE X e (fC d) :=
  pe_imp h fun σ H Q q => by
    obtain ⟨F, en, L, en', rr, st, ef, k⟩ := q
    simp only [fC, Option.some.injEq, Prod.mk.injEq] at ef
    obtain ⟨rfl, rfl⟩ := ef
    exact k v F H L [] st (by simp only [RR]; exact own_sh (r F)) (by simpa using st.nd) (by simpa using Ext.refl)
theorem se_int {X : Cx} {i : Int} {j pos} : SE X (.Constant (.int i) j pos) (fC (.int i)) := se_of_tC pe_int fun _ => rep_v rfl
theorem se_bl {X : Cx} {b : Bool} {j pos} : SE X (.Constant (.bool b) j pos) (fC (.bl b)) := se_of_tC pe_bl fun _ => rep_v rfl
theorem se_non {X : Cx} {j pos} : SE X (.Constant .none j pos) (fC .non) := se_of_tC pe_non fun _ => rep_v rfl
theorem se_str {X : Cx} {x : Str} {j pos} : SE X (.Constant (.str x) j pos) (fC (.str x)) := se_of_tC pe_str fun _ => rep_v rfl
def fVar (i : Nat) : FE := fun en => match en[i]? with
  | some (.sh .any) => none
  | some (.sh d) => some (en, .val (.sh d))
  | some _ => some (en, .pl i [])
  | none => none
theorem se_var {X : Cx} {e : Expr} {i : Nat} (h : PE X e (tVar i)) : SE X e (fVar i) :=
  pe_imp h fun σ H Q q => by
    obtain ⟨F, en, L, en', rr, st, ef, k⟩ := q
    unfold fVar at ef
    cases hw : en[i]? with
    | none => rw [hw] at ef; cases ef
    | some w =>
      rw [hw] at ef
      obtain ⟨o, La, Lm, Lb, e1, e2, e3, e4⟩ := st.own.get hw
      rcases e3 with ⟨v, rfl, ho⟩ | ⟨_, rfl, _⟩
      · refine ⟨v, e1, ?_⟩
        cases w with
        | sh d =>
          have hd : Rep X.K X.mg F d v := by simp only [Own] at ho; exact ho.1
          cases d <;> simp only [Option.some.injEq, Prod.mk.injEq] at ef <;> first
            | (cases ef; done)
            | (obtain ⟨rfl, rfl⟩ := ef
               exact k v F H L [] st (by simp only [RR]; exact own_sh hd) (by simpa using st.nd) (by simpa using Ext.refl))
        | _ =>
          simp only [Option.some.injEq, Prod.mk.injEq] at ef
          obtain ⟨rfl, rfl⟩ := ef
          exact k v F H L [] st (by simp only [RR]; exact ⟨trivial, e1⟩) (by simpa using st.nd) (by simpa using Ext.refl)
      · simp at ef

/-! ### lists of results: looked at, frozen, taken -/
def rds (en : En) : List R → Option (List D)
  | [] => some []
  | r :: rs => match r.d en, rds en rs with
    | some d, some ds => some (d :: ds)
    | _, _ => none
def rfz : En → List R → Option (En × List D)
  | en, [] => some (en, [])
  | en, r :: rs => match r.fz en with
    | none => none
    | some (en1, d) => match rfz en1 rs with
      | none => none
      | some (en2, ds) => some (en2, d :: ds)
def rtk : En → List R → Option (En × List W)
  | en, [] => some (en, [])
  | en, r :: rs => match r.tk en with
    | none => none
    | some (en1, d) => match rtk en1 rs with
      | none => none
      | some (en2, ds) => some (en2, d :: ds)
section
variable {K : PySem.W.Frag} {mg : Str → Option Value} {σ : L2.St}
theorem RRs.peek {F H : Hp} {en : En} {L : List Addr} (st : StOk K mg F H σ en L) : ∀ {rs : List R} {vs : List V} {Lr : List Addr} {ds : List D}, RRs K mg F H σ en L rs vs Lr → rds en rs = some ds → Reps K mg H ds vs
  | [], [], _, ds, _, e => by
    simp only [rds, Option.some.injEq] at e
    subst e
    simp only [Reps]
  | r :: rs, v :: vs, Lr, ds, h, e => by
    simp only [RRs] at h
    obtain ⟨L1, L2, e0, h1, h2⟩ := h
    simp only [rds] at e
    split at e
    · rename_i d ds' e1 e2
      cases e
      simp only [Reps]
      exact ⟨h1.peek st e1, RRs.peek st h2 e2⟩
    · cases e
  | [], _ :: _, _, _, h, _ => by simp only [RRs] at h
  | _ :: _, [], _, _, h, _ => by simp only [RRs] at h
theorem Reps.append {F : Hp} : ∀ {ds es : List D} {vs us : List V}, Reps K mg F ds vs → Reps K mg F es us → Reps K mg F (ds ++ es) (vs ++ us)
  | [], es, [], us, _, h => h
  | d :: ds, es, v :: vs, us, h, h' => by
    simp only [Reps, List.cons_append] at h ⊢
    exact ⟨h.1, h.2.append h'⟩
  | [], _, _ :: _, _, h, _ => by simp only [Reps] at h
  | _ :: _, _, [], _, h, _ => by simp only [Reps] at h
theorem Reps.len {F : Hp} : ∀ {ds : List D} {vs : List V}, Reps K mg F ds vs → ds.length = vs.length
  | [], [], _ => rfl
  | d :: ds, v :: vs, h => by
    simp only [Reps] at h
    simp [h.2.len]
  | [], _ :: _, h => by simp only [Reps] at h
  | _ :: _, [], h => by simp only [Reps] at h
theorem Owns.len {F H : Hp} : ∀ {ws : List W} {vs : List V} {L : List Addr}, Owns K mg F H ws vs L → ws.length = vs.length
  | [], [], _, _ => rfl
  | w :: ws, v :: vs, _, h => by
    simp only [Owns] at h
    obtain ⟨_, _, _, _, h2⟩ := h
    simp [h2.len]
  | [], _ :: _, _, h => by simp only [Owns] at h
  | _ :: _, [], _, h => by simp only [Owns] at h
theorem RRs.fz : ∀ {rs : List R} {vs : List V} {F H : Hp} {en en' : En} {L Lr : List Addr} {ds : List D}, StOk K mg F H σ en L → RRs K mg F H σ en L rs vs Lr → (∀ r ∈ rs, r.stable = true) → (L ++ Lr).Nodup → rfz en rs = some (en', ds) →
    ∃ F' L', StOk K mg F' H σ en' L' ∧ Reps K mg F' ds vs ∧ Ext F H (L ++ Lr) F' H L'
  | [], [], F, H, en, en', L, Lr, ds, st, h, _, nd, e => by
    simp only [rfz, Option.some.injEq, Prod.mk.injEq] at e
    obtain ⟨rfl, rfl⟩ := e
    exact ⟨F, L, st, by simp only [Reps], Ext.refl.mem (fun _ h => by simp [h]) fun _ h => h⟩
  | r :: rs, v :: vs, F, H, en, en', L, Lr, ds, st, h, hs, nd, e => by
    simp only [RRs] at h
    obtain ⟨L1, L2, e0, h1, h2⟩ := h
    subst e0
    simp only [rfz] at e
    split at e
    · cases e
    rename_i en1 d e1
    split at e
    · cases e
    rename_i en2 ds' e2
    cases e
    have nd1 : (L ++ L1).Nodup := (nd_app (by simpa using nd : (L ++ L1 ++ L2).Nodup)).1
    have dj : ∀ b ∈ L2, b ∉ L ++ L1 := fun b hb hb' => (nd_app (by simpa using nd : (L ++ L1 ++ L2).Nodup)).2.2 b hb' hb
    have nd2 := (nd_app (by simpa using nd : (L ++ L1 ++ L2).Nodup)).2.1
    obtain ⟨F1, M1, st1, rp1, x1⟩ := h1.fz st nd1 e1
    have k2 := RRs.keep (en' := en1) (L' := M1) h2 (fun r hr => hs r (by simp [hr])) x1 dj
    have cell2 : ∀ b ∈ L2, H b ≠ none := by
      have gen : ∀ {rs : List R} {vs : List V} {Lr : List Addr}, RRs K mg F H σ en L rs vs Lr → ∀ b ∈ Lr, H b ≠ none := by
        intro rs
        induction rs with
        | nil => intro vs Lr h b hb; cases vs <;> simp only [RRs] at h; rw [h] at hb; cases hb
        | cons r rs ih =>
          intro vs Lr h b hb
          cases vs with
          | nil => simp only [RRs] at h
          | cons v vs =>
            simp only [RRs] at h
            obtain ⟨A, B, e, a1, a2⟩ := h
            subst e
            rcases List.mem_append.mp hb with z | z
            · exact (a1.cell b z).1.1
            · exact ih a2 b z
      exact gen h2
    have ap := x1.apart (M := L2) fun b hb => ⟨dj b hb, cell2 b hb⟩
    obtain ⟨F2, M2, st2, rp2, x2⟩ := RRs.fz st1 k2 (fun r hr => hs r (by simp [hr])) (nd_of st1.nd nd2 fun b hb hb' => ap b hb b hb' rfl) e2
    refine ⟨F2, M2, st2, by simp only [Reps]; exact ⟨rp1.mono x2.sub, rp2⟩, ?_⟩
    exact ((x1.frame L2).trans x2).mem (fun a h => by simpa using h) fun a h => h
  | [], _ :: _, _, _, _, _, _, _, _, _, h, _, _, _ => by simp only [RRs] at h
  | _ :: _, [], _, _, _, _, _, _, _, _, h, _, _, _ => by simp only [RRs] at h
theorem RRs.cell {F H : Hp} {en : En} {L : List Addr} : ∀ {rs : List R} {vs : List V} {Lr : List Addr}, RRs K mg F H σ en L rs vs Lr → ∀ b ∈ Lr, NoTup (H b) ∧ F b = none
  | [], [], _, h, b, hb => by simp only [RRs] at h; rw [h] at hb; cases hb
  | r :: rs, v :: vs, _, h, b, hb => by
    simp only [RRs] at h
    obtain ⟨A, B, e, a1, a2⟩ := h
    subst e
    rcases List.mem_append.mp hb with z | z
    · exact a1.cell b z
    · exact RRs.cell a2 b z
  | [], _ :: _, _, h, _, _ => by simp only [RRs] at h
  | _ :: _, [], _, h, _, _ => by simp only [RRs] at h
theorem RRs.tk : ∀ {rs : List R} {vs : List V} {F H : Hp} {en en' : En} {L Lr : List Addr} {ws : List W}, StOk K mg F H σ en L → RRs K mg F H σ en L rs vs Lr → (∀ r ∈ rs, r.stable = true) → (L ++ Lr).Nodup → rtk en rs = some (en', ws) →
    ∃ F' L' Lr', StOk K mg F' H σ en' L' ∧ Owns K mg F' H ws vs Lr' ∧ (L' ++ Lr').Nodup ∧ Ext F H (L ++ Lr) F' H (L' ++ Lr')
  | [], [], F, H, en, en', L, Lr, ds, st, h, _, nd, e => by
    simp only [rtk, Option.some.injEq, Prod.mk.injEq] at e
    obtain ⟨rfl, rfl⟩ := e
    exact ⟨F, L, [], st, by simp only [Owns], by simpa using st.nd, Ext.refl.mem (fun _ h => by simpa using Or.inl h) fun _ h => h⟩
  | r :: rs, v :: vs, F, H, en, en', L, Lr, ds, st, h, hs, nd, e => by
    simp only [RRs] at h
    obtain ⟨L1, L2, e0, h1, h2⟩ := h
    subst e0
    simp only [rtk] at e
    split at e
    · cases e
    rename_i en1 d e1
    split at e
    · cases e
    rename_i en2 ds' e2
    cases e
    have nd' : (L ++ L1 ++ L2).Nodup := by simpa using nd
    obtain ⟨nd1, nd2, dj0⟩ := nd_app nd'
    have dj : ∀ b ∈ L2, b ∉ L ++ L1 := fun b hb hb' => dj0 b hb' hb
    obtain ⟨F1, M1, N1, st1, ow1, ndm, x1⟩ := h1.tk st nd1 e1
    have k2 := RRs.keep (en' := en1) (L' := M1) h2 (fun r hr => hs r (by simp [hr])) (x1.mem (fun _ h => h) fun a h => by simp [h]) dj
    have ap := x1.apart (M := L2) fun b hb => ⟨dj b hb, (h2.cell b hb).1.1⟩
    have n2 : (M1 ++ L2).Nodup := nd_of st1.nd nd2 fun b hb hb' => ap b (by simp [hb]) b hb' rfl
    obtain ⟨F2, M2, N2, st2, ow2, ndn, x2⟩ := RRs.tk st1 k2 (fun r hr => hs r (by simp [hr])) n2 e2
    have djN : ∀ b ∈ N1, b ∉ M1 ++ L2 := fun b hb hb' => by
      rcases List.mem_append.mp hb' with z | z
      · exact (nd_app ndm).2.2 b z hb
      · exact ap b (by simp [hb]) b z rfl
    have ow1' := ow1.stay (x2.stay fun b hb => ⟨djN b hb, ow1.cell b hb⟩)
    have ap2 := x2.apart (M := N1) fun b hb => ⟨djN b hb, (ow1.cell b hb).1.1⟩
    refine ⟨F2, M2, N1 ++ N2, st2, by simp only [Owns]; exact ⟨N1, N2, rfl, ow1', ow2⟩, ?_, ?_⟩
    · refine nd_of st2.nd (nd_of (nd_app ndm).2.1 (nd_app ndn).2.1 fun b hb hb' => ap2 b (by simp [hb']) b hb rfl) fun b hb hb' => ?_
      rcases List.mem_append.mp hb' with z | z
      · exact ap2 b (by simp [hb]) b z rfl
      · exact (nd_app ndn).2.2 b hb z
    · refine ((x1.frame L2).trans ((x2.frame N1).mem (M := M1 ++ N1 ++ L2) (fun a h => ?_) fun a h => h)).mem (fun a h => by simpa using h) fun a h => ?_
      · simp only [List.mem_append] at h ⊢
        rcases h with (z | z) | z <;> simp [z]
      · simp only [List.mem_append] at h ⊢
        rcases h with z | z | z <;> simp [z]
  | [], _ :: _, _, _, _, _, _, _, _, _, h, _, _, _ => by simp only [RRs] at h
  | _ :: _, [], _, _, _, _, _, _, _, _, h, _, _, _ => by simp only [RRs] at h

/-! ### new objects -/
theorem upd_sub {F H : Hp} {p : Addr} {o : HO} (s : Same F H) (h : H p = none) : Same F (upd H p o) := fun b u e => by
  have hb := s b u e
  rw [upd_ne (ne_of_none hb h)]
  exact hb
theorem upd_both {F H : Hp} {p : Addr} {o : HO} (s : Same F H) (h : H p = none) : Same (upd F p o) (upd H p o) := fun b u e => by
  by_cases hb : b = p
  · subst hb; rw [upd_same] at e ⊢; exact e
  · rw [upd_ne hb] at e ⊢; exact s b u e
theorem sub_none {F H : Hp} {p : Addr} (s : Same F H) (h : H p = none) : F p = none := s.free h
/-- laid and frozen -/
theorem lay_frozen {F H : Hp} {en : En} {L : List Addr} {p : Addr} {o : HO} (st : StOk K mg F H σ en L) (h : H p = none) : StOk K mg (upd F p o) (upd H p o) σ en L ∧ Ext F H L (upd F p o) (upd H p o) L := by
  have hp : ∀ b ∈ L, b ≠ p := fun b hb z => by subst z; exact (st.cell b hb).1.1 h
  refine ⟨⟨upd_both st.sub h, st.nd, st.own.stay ⟨fun b u e => ?_, fun b hb => ?_, fun b hb => ?_⟩⟩, ⟨fun a u e _ => ?_, fun a e => ?_, fun b u e => ?_, fun a e => ?_, fun a e => .inl e⟩⟩
  · rw [upd_ne (ne_of_none (st.sub b u e) h)]; exact e
  · rw [upd_ne (hp b hb)]; exact (st.cell b hb).2
  · rw [upd_ne (hp b hb)]
  · rw [upd_ne (ne_of_none e h)]; exact e
  · by_cases z : a = p
    · subst z; rw [upd_same]; simp
    · rw [upd_ne z]; exact e
  · rw [upd_ne (ne_of_none (st.sub b u e) h)]; exact e
  · by_cases z : a = p
    · subst z; exact .inr (.inr (.inl h))
    · rw [upd_ne z] at e; exact .inl e
/-- laid and owned -/
theorem lay_owned {F H : Hp} {en : En} {L : List Addr} {p : Addr} {o : HO} (st : StOk K mg F H σ en L) (h : H p = none) : StOk K mg F (upd H p o) σ en L ∧ Ext F H L F (upd H p o) (L ++ [p]) := by
  have hp : ∀ b ∈ L, b ≠ p := fun b hb z => by subst z; exact (st.cell b hb).1.1 h
  refine ⟨⟨upd_sub st.sub h, st.nd, st.own.stay ⟨Same.refl F, fun b hb => (st.cell b hb).2, fun b hb => upd_ne (hp b hb)⟩⟩, ⟨fun a u e _ => ?_, fun a e => ?_, Same.refl F, fun a e => .inl e, fun a e => ?_⟩⟩
  · rw [upd_ne (ne_of_none e h)]; exact e
  · by_cases z : a = p
    · subst z; rw [upd_same]; simp
    · rw [upd_ne z]; exact e
  · rcases List.mem_append.mp e with z | z
    · exact .inl z
    · have : a = p := by simpa using z
      subst this
      exact .inr h
end

/-! ### an operation on results -/
def OpN (K : PySem.W.Frag) (mg : Str → Option Value) (r : List V → Hp → VK → Prop) (g : En → List R → Option (En × R)) : Prop :=
  ∀ (F H : Hp) (σ : L2.St) (en : En) (L : List Addr) (rs : List R) (vs : List V) (Lr : List Addr) (en' : En) (r' : R), StOk K mg F H σ en L → RRs K mg F H σ en L rs vs Lr → (∀ r ∈ rs, r.stable = true) → (L ++ Lr).Nodup → g en rs = some (en', r') →
    ∀ Q : VK, (∀ v F' H' L' Lr', StOk K mg F' H' σ en' L' → RR K mg F' H' σ en' L' r' v Lr' → (L' ++ Lr').Nodup → Ext F H (L ++ Lr) F' H' (L' ++ Lr') → Q v H') → r vs H Q
def gOr (g g' : En → List R → Option (En × R)) : En → List R → Option (En × R) := fun en rs => match g en rs with
  | some x => some x
  | none => g' en rs
theorem OpN.or {K : PySem.W.Frag} {mg : Str → Option Value} {r r' : List V → Hp → VK → Prop} {g g' : En → List R → Option (En × R)} (h : OpN K mg r g) (h' : OpN K mg r' g') :
    OpN K mg (fun vs H Q => r vs H Q ∨ r' vs H Q) (gOr g g') := fun F H σ en L rs vs Lr en' r0 st rr hs nd e Q q => by
  unfold gOr at e
  cases hg : g en rs with
  | some x =>
    simp only [hg] at e
    exact .inl (h F H σ en L rs vs Lr en' r0 st rr hs nd (hg.trans e) Q q)
  | none =>
    simp only [hg] at e
    exact .inr (h' F H σ en L rs vs Lr en' r0 st rr hs nd e Q q)
theorem OpN.imp {K : PySem.W.Frag} {mg : Str → Option Value} {r r' : List V → Hp → VK → Prop} {g : En → List R → Option (En × R)} (h : OpN K mg r g) (i : ∀ vs H Q, r vs H Q → r' vs H Q) : OpN K mg r' g :=
  fun F H σ en L rs vs Lr en' r0 st rr hs nd e Q q => i vs H Q (h F H σ en L rs vs Lr en' r0 st rr hs nd e Q q)
def fN (g : En → List R → Option (En × R)) (fs : List FE) : FE := fun en => match evs fs en with
  | none => none
  | some (en', rs) => g en' rs
theorem evs_stable : ∀ {fs : List FE} {en en' : En} {rs : List R}, evs fs en = some (en', rs) → ∀ r ∈ rs, r.stable = true
  | [], en, en', rs, e, r, hr => by
    simp only [evs, Option.some.injEq, Prod.mk.injEq] at e
    obtain ⟨rfl, rfl⟩ := e
    cases hr
  | f :: fs, en, en', rs, e, r, hr => by
    simp only [evs] at e
    split at e
    · cases e
    split at e
    · cases e
    rename_i en1 r1 _ _ en2 r2 e2
    split at e
    · cases e
    rename_i en3 rs' e3
    cases e
    rcases List.mem_cons.mp hr with rfl | hr
    · cases r1 with
      | val w => simp only [R.st, Option.some.injEq, Prod.mk.injEq] at e2; rw [← e2.2]; rfl
      | pl i p =>
        cases p with
        | nil => simp only [R.st, Option.some.injEq, Prod.mk.injEq] at e2; rw [← e2.2]; rfl
        | cons k p =>
          simp only [R.st] at e2
          split at e2
          · cases e2; rfl
          · cases e2
    · exact evs_stable e3 r hr
section
variable {X : Cx}
/-- an operation behind its operands -/
theorem op_behind {r : List V → Hp → VK → Prop} {g : En → List R → Option (En × R)} {fs : List FE} (o : OpN X.K X.mg r g) {σ : L2.St} {H : Hp} {Q : VK} (h : tS X.K X.mg (fN g fs) σ H Q) : tEv X.K X.mg fs σ H fun vs H' => r vs H' Q := by
  obtain ⟨F, en, L, en', rr, st, ef, k⟩ := h
  unfold fN at ef
  split at ef
  · cases ef
  rename_i en1 rs e1
  refine ⟨F, en, L, en1, rs, st, e1, fun vs F1 H1 L1 Lr1 st1 rr1 nd1 x1 => ?_⟩
  exact o F1 H1 σ en1 L1 rs vs Lr1 en' rr st1 rr1 (evs_stable e1) nd1 ef Q fun v F2 H2 L2 Lr2 st2 rr2 nd2 x2 => k v F2 H2 L2 Lr2 st2 rr2 nd2 (x1.trans x2)
def r2N (r : R2) : List V → Hp → VK → Prop := fun vs H Q => ∃ a b, vs = [a, b] ∧ r a b H Q
def r1N (r : V → Hp → VK → Prop) : List V → Hp → VK → Prop := fun vs H Q => ∃ a, vs = [a] ∧ r a H Q
theorem se_op {op : Operator} {r : R2} {g : En → List R → Option (En × R)} {a b : Expr} {fa fb : FE} {pos : Pos} (ho : OpR X (binaryOp op) r) (o : OpN X.K X.mg (r2N r) g) (ha : SE X a fa) (hb : SE X b fb) : SE X (.BinOp a op b pos) (fN g [fa, fb]) :=
  pe_imp (pe_op ho ha hb) fun σ H Q q => tEv_two (op_behind o q)
theorem se_cmp {op : CmpOp} {r : R2} {g : En → List R → Option (En × R)} {a b : Expr} {fa fb : FE} {pos : Pos} (ho : OpR X (compareOp op) r) (o : OpN X.K X.mg (r2N r) g) (hm : behindInMarks op b = false) (ha : SE X a fa) (hb : SE X b fb) : SE X (.Compare a [op] [b] pos) (fN g [fa, fb]) :=
  pe_imp (pe_cmpR ho ha hb hm) fun σ H Q q => tEv_two (op_behind o q)
theorem se_un {op : UnaryOp} {r : V → Hp → VK → Prop} {g : En → List R → Option (En × R)} {a : Expr} {fa : FE} {pos : Pos} (ho : UnR X (unaryOp op) r) (o : OpN X.K X.mg (r1N r) g) (ha : SE X a fa) : SE X (.UnaryOp op a pos) (fN g [fa]) :=
  pe_imp (pe_un ho ha) fun σ H Q q => tEv_one (op_behind o q)
end
/-! ### operations that only look -/
def gS (op : List D → Option D) : En → List R → Option (En × R) := fun en rs => match rds en rs with
  | none => none
  | some ds => match op ds with
    | none => none
    | some d => some (en, .val (.sh d))
def PkS (K : PySem.W.Frag) (mg : Str → Option Value) (r : List V → Hp → VK → Prop) (op : List D → Option D) : Prop :=
  ∀ (ds : List D) (vs : List V) (H : Hp) (d : D), Reps K mg H ds vs → op ds = some d → ∃ v, d.v = some v ∧ ∀ Q : VK, Q v H → r vs H Q
theorem PkS.ok {K : PySem.W.Frag} {mg : Str → Option Value} {r : List V → Hp → VK → Prop} {op : List D → Option D} (h : PkS K mg r op) : OpN K mg r (gS op) := fun F H σ en L rs vs Lr en' r' st rr hs nd e Q q => by
  unfold gS at e
  split at e
  · cases e
  rename_i ds e1
  split at e
  · cases e
  rename_i d e2
  cases e
  obtain ⟨v, hv, k⟩ := h ds vs H d (rr.peek st e1) e2
  exact k Q (q v F H L [] st (by simp only [RR]; exact own_sh (rep_v hv)) (by simpa using st.nd) (by simpa using Ext.refl.mem (fun a h => by simp [h]) fun a h => h))
end Pu

/-! Pu3: the operators at the data, tests, displays, items and slices. -/
namespace Pu
open PySem PySem.Spec PyProof.Rows L2

/-! ### ints, texts -/
def oII (C : Int → Int → Bool) (g : Int → Int → D) : List D → Option D
  | [.int i, .int j] => if C i j = true then some (g i j) else none
  | _ => none
section
variable {K : PySem.W.Frag} {mg : Str → Option Value} {H : Hp}
theorem reps2 {a b : D} {vs : List V} (h : Reps K mg H [a, b] vs) : ∃ v w, vs = [v, w] ∧ Rep K mg H a v ∧ Rep K mg H b w := by
  match vs, h with
  | [v, w], h =>
    simp only [Reps] at h
    exact ⟨v, w, rfl, h.1, h.2.1⟩
  | [], h => simp only [Reps] at h
  | [_], h =>
    simp only [Reps] at h
    exact h.2.elim
  | _ :: _ :: _ :: _, h =>
    simp only [Reps] at h
    exact h.2.2.elim
theorem reps1 {a : D} {vs : List V} (h : Reps K mg H [a] vs) : ∃ v, vs = [v] ∧ Rep K mg H a v := by
  match vs, h with
  | [v], h =>
    simp only [Reps] at h
    exact ⟨v, rfl, h.1⟩
  | [], h => simp only [Reps] at h
  | _ :: _ :: _, h =>
    simp only [Reps] at h
    exact h.2.elim
theorem pk_II {r : R2} {C : Int → Int → Bool} {g : Int → Int → D} {gv : Int → Int → V} (hg : ∀ i j, (g i j).v = some (gv i j)) (hr : ∀ i j H Q, C i j = true → Q (gv i j) H → r (.int i) (.int j) H Q) : PkS K mg (r2N r) (oII C g) := by
  intro ds vs H d h e
  unfold oII at e
  split at e
  · rename_i i j
    split at e
    · rename_i hc
      cases e
      obtain ⟨v, w, rfl, h1, h2⟩ := reps2 h
      cases rep_int h1
      cases rep_int h2
      exact ⟨gv i j, hg i j, fun Q q => ⟨_, _, rfl, hr i j H Q hc q⟩⟩
    · cases e
  · cases e
end
def tt2 : Int → Int → Bool := fun _ _ => true
def okMul (i j : Int) : Bool := decide ((-(2 ^ 64) < i ∧ i < 2 ^ 64) ∨ (-(2 ^ 64) < j ∧ j < 2 ^ 64))
def okDiv (_ j : Int) : Bool := decide (0 < j ∧ j < 1073741824)
def okMod (_ j : Int) : Bool := decide (0 < j)
def okPow (i j : Int) : Bool := decide (0 ≤ j ∧ j ≤ 1000000 ∧ i.natAbs < 2 ^ 64)
def oAddI : List D → Option D := oII tt2 fun i j => .int (i + j)
def oSub : List D → Option D := oII tt2 fun i j => .int (i - j)
def oMul : List D → Option D := oII okMul fun i j => .int (i * j)
def oDiv : List D → Option D := oII okDiv fun i j => .int (i / j)
def oMod : List D → Option D := oII okMod fun i j => .int (i % j)
def oPow : List D → Option D := oII okPow fun i j => .int (i ^ j.toNat)
def oLtI : List D → Option D := oII tt2 fun i j => .bl (decide (i < j))
def oLeI : List D → Option D := oII tt2 fun i j => .bl (decide (i ≤ j))
def oGtI : List D → Option D := oII tt2 fun i j => .bl (decide (j < i))
def oGeI : List D → Option D := oII tt2 fun i j => .bl (decide (j ≤ i))
def oAddS : List D → Option D
  | [.str x, .str y] => if x.length + y.length ≤ sizeLine then some (.str (x ++ y)) else none
  | _ => none
def oLtS : List D → Option D
  | [.str x, .str y] => some (.bl (decide (x.cps.toList < y.cps.toList)))
  | _ => none
def oNeg : List D → Option D
  | [.int i] => some (.int (-i))
  | _ => none
section
variable {K : PySem.W.Frag} {mg : Str → Option Value}
theorem pk_addS : PkS K mg (r2N fun x y H Q => ∃ i j, x = .str i ∧ y = .str j ∧ i.length + j.length ≤ sizeLine ∧ Q (.str (i ++ j)) H) oAddS := by
  intro ds vs H d h e
  unfold oAddS at e
  split at e
  · rename_i x y
    split at e
    · rename_i hc
      cases e
      obtain ⟨v, w, rfl, h1, h2⟩ := reps2 h
      cases rep_str h1
      cases rep_str h2
      exact ⟨_, rfl, fun Q q => ⟨_, _, rfl, _, _, rfl, rfl, hc, q⟩⟩
    · cases e
  · cases e
theorem pk_ltS : PkS K mg (r2N fun x y H Q => ∃ i j, x = .str i ∧ y = .str j ∧ Q (.bl (decide (i.cps.toList < j.cps.toList))) H) oLtS := by
  intro ds vs H d h e
  unfold oLtS at e
  split at e
  · rename_i x y
    cases e
    obtain ⟨v, w, rfl, h1, h2⟩ := reps2 h
    cases rep_str h1
    cases rep_str h2
    exact ⟨_, rfl, fun Q q => ⟨_, _, rfl, _, _, rfl, rfl, q⟩⟩
  · cases e
theorem pk_neg : PkS K mg (r1N (rU fun i => .int (-i))) oNeg := by
  intro ds vs H d h e
  unfold oNeg at e
  split at e
  · cases e
    obtain ⟨v, rfl, h1⟩ := reps1 h
    cases rep_int h1
    exact ⟨_, rfl, fun Q q => ⟨_, rfl, _, rfl, q⟩⟩
  · cases e
end
section
variable {X : Cx} {a b : Expr} {fa fb : FE} {pos : Pos}
def fSub (fa fb : FE) : FE := fN (gS oSub) [fa, fb]
def fMul (fa fb : FE) : FE := fN (gS oMul) [fa, fb]
def fDiv (fa fb : FE) : FE := fN (gS oDiv) [fa, fb]
def fMod (fa fb : FE) : FE := fN (gS oMod) [fa, fb]
def fPow (fa fb : FE) : FE := fN (gS oPow) [fa, fb]
def fNeg (fa : FE) : FE := fN (gS oNeg) [fa]
theorem se_sub (ha : SE X a fa) (hb : SE X b fb) : SE X (.BinOp a .Sub b pos) (fSub fa fb) := se_op op_sub (PkS.ok (pk_II (fun _ _ => rfl) fun i j H Q _ q => ⟨_, _, rfl, rfl, q⟩)) ha hb
theorem se_mul (ha : SE X a fa) (hb : SE X b fb) : SE X (.BinOp a .Mult b pos) (fMul fa fb) := se_op op_mul (PkS.ok (pk_II (fun _ _ => rfl) fun i j H Q c q => ⟨_, _, rfl, rfl, by unfold okMul at c; simp only [decide_eq_true_eq] at c; exact c, q⟩)) ha hb
theorem se_div (ha : SE X a fa) (hb : SE X b fb) : SE X (.BinOp a .FloorDiv b pos) (fDiv fa fb) := se_op op_fdiv (PkS.ok (pk_II (fun _ _ => rfl) fun i j H Q c q => ⟨_, _, rfl, rfl, by unfold okDiv at c; simp only [decide_eq_true_eq] at c; exact c, q⟩)) ha hb
theorem se_mod (ha : SE X a fa) (hb : SE X b fb) : SE X (.BinOp a .Mod b pos) (fMod fa fb) := se_op op_mod (PkS.ok (pk_II (fun _ _ => rfl) fun i j H Q c q => ⟨_, _, rfl, rfl, by unfold okMod at c; simp only [decide_eq_true_eq] at c; exact c, q⟩)) ha hb
theorem se_pow (ha : SE X a fa) (hb : SE X b fb) : SE X (.BinOp a .Pow b pos) (fPow fa fb) := se_op op_pow (PkS.ok (pk_II (fun _ _ => rfl) fun i j H Q c q => ⟨_, _, rfl, rfl, by unfold okPow at c; simp only [decide_eq_true_eq] at c; exact c, q⟩)) ha hb
theorem se_neg (ha : SE X a fa) : SE X (.UnaryOp .USub a pos) (fNeg fa) := se_un un_neg (PkS.ok pk_neg) ha
theorem nLt : OpN X.K X.mg (r2N fun x y H Q => rI0 (fun i j => .bl (decide (i < j))) x y H Q ∨ ∃ i j, x = .str i ∧ y = .str j ∧ Q (.bl (decide (i.cps.toList < j.cps.toList))) H) (gOr (gS oLtI) (gS oLtS)) := by
  refine (OpN.or (PkS.ok (pk_II (r := rI0 fun i j => .bl (decide (i < j))) (fun _ _ => rfl) fun i j H Q c q => ⟨_, _, rfl, rfl, q⟩)) (PkS.ok pk_ltS)).imp ?_
  rintro vs H Q (⟨a, b, e, q⟩ | ⟨a, b, e, q⟩)
  · exact ⟨a, b, e, .inl q⟩
  · exact ⟨a, b, e, .inr q⟩
theorem nLe : OpN X.K X.mg (r2N (rI0 fun i j => .bl (decide (i ≤ j)))) (gS oLeI) := PkS.ok (pk_II (fun _ _ => rfl) fun i j H Q c q => ⟨_, _, rfl, rfl, q⟩)
theorem nGt : OpN X.K X.mg (r2N (rI0 fun i j => .bl (decide (j < i)))) (gS oGtI) := PkS.ok (pk_II (fun _ _ => rfl) fun i j H Q c q => ⟨_, _, rfl, rfl, q⟩)
theorem nGe : OpN X.K X.mg (r2N (rI0 fun i j => .bl (decide (j ≤ i)))) (gS oGeI) := PkS.ok (pk_II (fun _ _ => rfl) fun i j H Q c q => ⟨_, _, rfl, rfl, q⟩)
end

/-! ### == at any depth, is None -/
mutual
def D.py : D → Option PyData
  | .non => some .none
  | .bl b => some (.bool b)
  | .int i => some (.int i)
  | .str x => some (.str x)
  | .tup ds => match D.pys ds with
    | some ps => some (.tuple ps)
    | none => none
  | .lst ds => match D.pys ds with
    | some ps => some (.list ps)
    | none => none
  | .frl ds => match D.pys ds with
    | some ps => some (.list ps)
    | none => none
  | _ => none
def D.pys : List D → Option (List PyData)
  | [] => some []
  | d :: ds => match D.py d, D.pys ds with
    | some p, some ps => some (p :: ps)
    | _, _ => none
end
section
variable {K : PySem.W.Frag} {mg : Str → Option Value} {H : Hp}
mutual
theorem Rep.dp : ∀ {d : D} {v : V} {p : PyData}, Rep K mg H d v → d.py = some p → Dp K H v p
  | .non, v, p, h, e => by
    simp only [D.py, Option.some.injEq] at e
    subst e
    cases rep_non h
    exact .non
  | .bl b, v, p, h, e => by
    simp only [D.py, Option.some.injEq] at e
    subst e
    cases rep_bl h
    exact .bl b
  | .int b, v, p, h, e => by
    simp only [D.py, Option.some.injEq] at e
    subst e
    cases rep_int h
    exact .int b
  | .str b, v, p, h, e => by
    simp only [D.py, Option.some.injEq] at e
    subst e
    cases rep_str h
    exact .str b
  | .tup ds, v, p, h, e => by
    simp only [D.py] at e
    split at e
    · rename_i ps e1
      cases e
      simp only [Rep] at h
      obtain ⟨a, vs, rfl, h1, h2⟩ := h
      exact .tup h1.1 (Reps.dp h2 e1)
    · cases e
  | .lst ds, v, p, h, e => by
    simp only [D.py] at e
    split at e
    · rename_i ps e1
      cases e
      simp only [Rep] at h
      obtain ⟨a, vs, rfl, h1, h2⟩ := h
      exact .lst (SqL.of h1) (Reps.dp h2 e1)
    · cases e
  | .frl ds, v, p, h, e => by
    simp only [D.py] at e
    split at e
    · rename_i ps e1
      cases e
      simp only [Rep] at h
      obtain ⟨a, vs, rfl, h1, h2⟩ := h
      exact .lst h1 (Reps.dp h2 e1)
    · cases e
  | .any, _, _, _, e => by simp only [D.py] at e; cases e
  | .dT _ _, _, _, _, e => by simp only [D.py] at e; cases e
  | .lT _ _, _, _, _, e => by simp only [D.py] at e; cases e
  | .dK _ _, _, _, _, e => by simp only [D.py] at e; cases e
  | .ins _ _, _, _, _, e => by simp only [D.py] at e; cases e
theorem Reps.dp : ∀ {ds : List D} {vs : List V} {ps : List PyData}, Reps K mg H ds vs → D.pys ds = some ps → DpAll K H vs ps
  | [], [], ps, _, e => by
    simp only [D.pys, Option.some.injEq] at e
    subst e
    exact .nil
  | d :: ds, v :: vs, ps, h, e => by
    simp only [D.pys] at e
    split at e
    · rename_i p ps' e1 e2
      cases e
      simp only [Reps] at h
      exact .cons (Rep.dp h.1 e1) (Reps.dp h.2 e2)
    · cases e
  | [], _ :: _, _, h, _ => by simp only [Reps] at h
  | _ :: _, [], _, h, _ => by simp only [Reps] at h
end
end
def eqD (a b : D) : Option Bool := match a.py, b.py with
  | some p, some q => if SeqAt.shaped p && SeqAt.shaped q then some (PyData.eqv p q) else none
  | _, _ => none
def oEq : List D → Option D
  | [a, b] => match eqD a b with
    | some k => some (.bl k)
    | none => none
  | _ => none
def oNe : List D → Option D
  | [a, b] => match eqD a b with
    | some k => some (.bl (!k))
    | none => none
  | _ => none
def isN : D → Option Bool
  | .any => none
  | .non => some true
  | _ => some false
def oIsN : List D → Option D
  | [a, .non] => match isN a with
    | some k => some (.bl k)
    | none => none
  | _ => none
def oNotN : List D → Option D
  | [a, .non] => match isN a with
    | some k => some (.bl (!k))
    | none => none
  | _ => none
section
variable {K : PySem.W.Frag} {mg : Str → Option Value}
theorem eqD_dp {H : Hp} {a b : D} {v w : V} {k : Bool} (h1 : Rep K mg H a v) (h2 : Rep K mg H b w) (e : eqD a b = some k) : ∃ d e, Dp K H v d ∧ Dp K H w e ∧ SeqAt.shaped d = true ∧ SeqAt.shaped e = true ∧ k = PyData.eqv d e := by
  unfold eqD at e
  split at e
  · rename_i p q e1 e2
    split at e
    · rename_i hs
      cases e
      simp only [Bool.and_eq_true] at hs
      exact ⟨p, q, h1.dp e1, h2.dp e2, hs.1, hs.2, rfl⟩
    · cases e
  · cases e
theorem pk_eq : PkS K mg (r2N (rEqD K)) oEq := by
  intro ds vs H d h e
  unfold oEq at e
  split at e
  · split at e
    · rename_i k e1
      cases e
      obtain ⟨v, w, rfl, h1, h2⟩ := reps2 h
      obtain ⟨p, q, a1, a2, a3, a4, rfl⟩ := eqD_dp h1 h2 e1
      exact ⟨_, rfl, fun Q z => ⟨_, _, rfl, p, q, a1, a2, a3, a4, z⟩⟩
    · cases e
  · cases e
theorem pk_ne : PkS K mg (r2N (rNeD K)) oNe := by
  intro ds vs H d h e
  unfold oNe at e
  split at e
  · split at e
    · rename_i k e1
      cases e
      obtain ⟨v, w, rfl, h1, h2⟩ := reps2 h
      obtain ⟨p, q, a1, a2, a3, a4, rfl⟩ := eqD_dp h1 h2 e1
      exact ⟨_, rfl, fun Q z => ⟨_, _, rfl, p, q, a1, a2, a3, a4, z⟩⟩
    · cases e
  · cases e
theorem isN_ok {H : Hp} {d : D} {v : V} {k : Bool} (h : Rep K mg H d v) (e : isN d = some k) : decide (v = .non) = k := by
  cases d <;> simp only [isN, Option.some.injEq] at e <;> first
    | (cases e; done)
    | (subst e
       simp only [Rep] at h
       first
       | (subst h; simp)
       | (obtain ⟨a, vs, rfl, _⟩ := h; simp)
       | (obtain ⟨a, _, vs, rfl, _⟩ := h; simp)
       | (obtain ⟨a, _, _, vs, rfl, _⟩ := h; simp))
theorem pk_isN : PkS K mg (r2N fun x y H Q => y = .non ∧ Q (.bl (decide (x = .non))) H) oIsN := by
  intro ds vs H d h e
  unfold oIsN at e
  split at e
  · split at e
    · rename_i k e1
      cases e
      obtain ⟨v, w, rfl, h1, h2⟩ := reps2 h
      cases rep_non h2
      exact ⟨_, rfl, fun Q q => ⟨_, _, rfl, rfl, by rw [isN_ok h1 e1]; exact q⟩⟩
    · cases e
  · cases e
theorem pk_notN : PkS K mg (r2N fun x y H Q => y = .non ∧ Q (.bl (!decide (x = .non))) H) oNotN := by
  intro ds vs H d h e
  unfold oNotN at e
  split at e
  · split at e
    · rename_i k e1
      cases e
      obtain ⟨v, w, rfl, h1, h2⟩ := reps2 h
      cases rep_non h2
      exact ⟨_, rfl, fun Q q => ⟨_, _, rfl, rfl, by rw [isN_ok h1 e1]; exact q⟩⟩
    · cases e
  · cases e
end
/-! membership -/
def ins (x : D) (ds : List D) : Option Bool := match x.py, D.pys ds with
  | some p, some ps => if SeqAt.shaped p && SeqAt.shaped (.list ps) then some (ps.any fun z => PyData.eqv z p) else none
  | _, _ => none
def oIn : List D → Option D
  | [a, .lst ds] => match ins a ds with
    | some k => some (.bl k)
    | none => none
  | _ => none
def oNotIn : List D → Option D
  | [a, .lst ds] => match ins a ds with
    | some k => some (.bl (!k))
    | none => none
  | _ => none
/-- in a tuple or list of flat things -/
def D.fl : D → Option V
  | .non => some .non
  | .bl b => some (.bl b)
  | .int i => some (.int i)
  | .str x => some (.str x)
  | _ => none
def D.fls : List D → Option (List V)
  | [] => some []
  | d :: ds => match d.fl, D.fls ds with
    | some v, some vs => some (v :: vs)
    | _, _ => none
def insF (x : D) (ds : List D) : Option Bool := match x.fl, D.fls ds with
  | some p, some ps => if flatV p && ps.all flatV then some (inV p ps) else none
  | _, _ => none
def D.items : D → Option (List D)
  | .tup ds => some ds
  | .lst ds => some ds
  | .frl ds => some ds
  | _ => none
def oInF : List D → Option D
  | [a, b] => match b.items with
    | some ds => match insF a ds with
      | some k => some (.bl k)
      | none => none
    | none => none
  | _ => none
def oNotInF : List D → Option D
  | [a, b] => match b.items with
    | some ds => match insF a ds with
      | some k => some (.bl (!k))
      | none => none
    | none => none
  | _ => none
section
variable {K : PySem.W.Frag} {mg : Str → Option Value} {H : Hp}
theorem rep_fl {d : D} {v w : V} (h : Rep K mg H d v) (e : d.fl = some w) : v = w := by
  cases d <;> simp only [D.fl, Option.some.injEq] at e <;> first | (cases e; done) | (subst e; simpa only [Rep] using h)
theorem reps_fl : ∀ {ds : List D} {vs ws : List V}, Reps K mg H ds vs → D.fls ds = some ws → vs = ws
  | [], [], ws, _, e => by simp only [D.fls, Option.some.injEq] at e; exact e
  | d :: ds, v :: vs, ws, h, e => by
    simp only [D.fls] at e
    split at e
    · rename_i p ps e1 e2
      cases e
      simp only [Reps] at h
      rw [rep_fl h.1 e1, reps_fl h.2 e2]
    · cases e
  | [], _ :: _, _, h, _ => by simp only [Reps] at h
  | _ :: _, [], _, h, _ => by simp only [Reps] at h
theorem rep_items {d : D} {v : V} {ds : List D} (h : Rep K mg H d v) (e : d.items = some ds) : ∃ a vs, v = .ref a ∧ (SqL K H a vs ∨ SqT K H a vs) ∧ Reps K mg H ds vs := by
  cases d <;> simp only [D.items, Option.some.injEq] at e <;> first
    | (cases e; done)
    | (subst e
       simp only [Rep] at h
       obtain ⟨a, vs, e1, h1, h2⟩ := h
       first
       | exact ⟨a, vs, e1, .inr h1.1, h2⟩
       | exact ⟨a, vs, e1, .inl h1, h2⟩
       | exact ⟨a, vs, e1, .inl (SqL.of h1), h2⟩)
theorem pk_inF : PkS K mg (r2N (rIn K false)) oInF := by
  intro ds vs H d h e
  unfold oInF at e
  split at e
  · split at e
    · rename_i es e0
      split at e
      · rename_i k e1
        cases e
        obtain ⟨v, w, rfl, h1, h2⟩ := reps2 h
        obtain ⟨a, ws, rfl, h3, h4⟩ := rep_items h2 e0
        unfold insF at e1
        split at e1
        · rename_i p ps z1 z2
          split at e1
          · rename_i hf
            cases e1
            simp only [Bool.and_eq_true] at hf
            cases rep_fl h1 z1
            cases reps_fl h4 z2
            exact ⟨_, rfl, fun Q q => ⟨_, _, rfl, a, _, rfl, h3, hf.1, hf.2, q⟩⟩
          · cases e1
        · cases e1
      · cases e
    · cases e
  · cases e
theorem pk_notInF : PkS K mg (r2N (rIn K true)) oNotInF := by
  intro ds vs H d h e
  unfold oNotInF at e
  split at e
  · split at e
    · rename_i es e0
      split at e
      · rename_i k e1
        cases e
        obtain ⟨v, w, rfl, h1, h2⟩ := reps2 h
        obtain ⟨a, ws, rfl, h3, h4⟩ := rep_items h2 e0
        unfold insF at e1
        split at e1
        · rename_i p ps z1 z2
          split at e1
          · rename_i hf
            cases e1
            simp only [Bool.and_eq_true] at hf
            cases rep_fl h1 z1
            cases reps_fl h4 z2
            exact ⟨_, rfl, fun Q q => ⟨_, _, rfl, a, _, rfl, h3, hf.1, hf.2, q⟩⟩
          · cases e1
        · cases e1
      · cases e
    · cases e
  · cases e
theorem pk_in : PkS K mg (r2N (rInD K)) oIn := by
  intro ds vs H d h e
  unfold oIn at e
  split at e
  · split at e
    · rename_i k e1
      cases e
      obtain ⟨v, w, rfl, h1, h2⟩ := reps2 h
      unfold ins at e1
      split at e1
      · rename_i p ps z1 z2
        split at e1
        · rename_i hf
          cases e1
          simp only [Bool.and_eq_true] at hf
          exact ⟨_, rfl, fun Q q => ⟨_, _, rfl, p, ps, h1.dp z1, h2.dp (by simp only [D.py, z2]), hf.1, hf.2, q⟩⟩
        · cases e1
      · cases e1
    · cases e
  · cases e
theorem pk_notIn : PkS K mg (r2N (rNotInD K)) oNotIn := by
  intro ds vs H d h e
  unfold oNotIn at e
  split at e
  · split at e
    · rename_i k e1
      cases e
      obtain ⟨v, w, rfl, h1, h2⟩ := reps2 h
      unfold ins at e1
      split at e1
      · rename_i p ps z1 z2
        split at e1
        · rename_i hf
          cases e1
          simp only [Bool.and_eq_true] at hf
          exact ⟨_, rfl, fun Q q => ⟨_, _, rfl, p, ps, h1.dp z1, h2.dp (by simp only [D.py, z2]), hf.1, hf.2, q⟩⟩
        · cases e1
      · cases e1
    · cases e
  · cases e
theorem one_sign {x : Str} {c : Nat} (h : x.cps.toList = [c]) : x = ⟨#[c]⟩ := by
  obtain ⟨cps⟩ := x
  have h' : cps.toList = [c] := h
  congr 1
  exact Array.ext' (by simpa using h')
/-- one sign in a text -/
def oInS : List D → Option D
  | [.str x, .str y] => match x.cps.toList with
    | [c] => some (.bl (decide (c ∈ y.cps.toList)))
    | _ => none
  | _ => none
def oNotInS : List D → Option D
  | [.str x, .str y] => match x.cps.toList with
    | [c] => some (.bl (!decide (c ∈ y.cps.toList)))
    | _ => none
  | _ => none
theorem pk_inS : PkS K mg (r2N fun x y H Q => ∃ (c : Nat) (z : Str), x = .str ⟨#[c]⟩ ∧ y = .str z ∧ Q (.bl (decide (c ∈ z.cps.toList))) H) oInS := by
  intro ds vs H d h e
  unfold oInS at e
  split at e
  · split at e
    · rename_i c hc
      cases e
      obtain ⟨v, w, rfl, h1, h2⟩ := reps2 h
      cases rep_str h1
      cases rep_str h2
      exact ⟨_, rfl, fun Q q => ⟨_, _, rfl, c, _, by rw [one_sign hc], rfl, q⟩⟩
    · cases e
  · cases e
theorem pk_notInS : PkS K mg (r2N fun x y H Q => ∃ (c : Nat) (z : Str), x = .str ⟨#[c]⟩ ∧ y = .str z ∧ Q (.bl (!decide (c ∈ z.cps.toList))) H) oNotInS := by
  intro ds vs H d h e
  unfold oNotInS at e
  split at e
  · split at e
    · rename_i c hc
      cases e
      obtain ⟨v, w, rfl, h1, h2⟩ := reps2 h
      cases rep_str h1
      cases rep_str h2
      exact ⟨_, rfl, fun Q q => ⟨_, _, rfl, c, _, by rw [one_sign hc], rfl, q⟩⟩
    · cases e
  · cases e
end
end Pu

/-! Pu4: one operand, tests, displays, sums of lists, items. -/
namespace Pu
open PySem PySem.Spec PyProof.Rows L2

/-! ### one operand -/
def OpU (K : PySem.W.Frag) (mg : Str → Option Value) (r : List V → Hp → VK → Prop) (g : En → R → Option (En × R)) : Prop :=
  ∀ (F H : Hp) (σ : L2.St) (en : En) (L : List Addr) (r0 : R) (v : V) (Lr : List Addr) (en' : En) (r' : R), StOk K mg F H σ en L → RR K mg F H σ en L r0 v Lr → (L ++ Lr).Nodup → g en r0 = some (en', r') →
    ∀ Q : VK, (∀ v F' H' L' Lr', StOk K mg F' H' σ en' L' → RR K mg F' H' σ en' L' r' v Lr' → (L' ++ Lr').Nodup → Ext F H (L ++ Lr) F' H' (L' ++ Lr') → Q v H') → r [v] H Q
def fU (g : En → R → Option (En × R)) (f : FE) : FE := fun en => match f en with
  | none => none
  | some (en', r) => g en' r
theorem OpU.imp {K : PySem.W.Frag} {mg : Str → Option Value} {r r' : List V → Hp → VK → Prop} {g : En → R → Option (En × R)} (h : OpU K mg r g) (i : ∀ vs H Q, r vs H Q → r' vs H Q) : OpU K mg r' g :=
  fun F H σ en L r0 v Lr en' r'' st rr nd e Q q => i _ H Q (h F H σ en L r0 v Lr en' r'' st rr nd e Q q)
def gOrU (g g' : En → R → Option (En × R)) : En → R → Option (En × R) := fun en rs => match g en rs with
  | some x => some x
  | none => g' en rs
theorem OpU.or {K : PySem.W.Frag} {mg : Str → Option Value} {r r' : List V → Hp → VK → Prop} {g g' : En → R → Option (En × R)} (h : OpU K mg r g) (h' : OpU K mg r' g') :
    OpU K mg (fun vs H Q => r vs H Q ∨ r' vs H Q) (gOrU g g') := fun F H σ en L rs vs Lr en' r0 st rr nd e Q q => by
  unfold gOrU at e
  cases hg : g en rs with
  | some x =>
    simp only [hg] at e
    exact .inl (h F H σ en L rs vs Lr en' r0 st rr nd (hg.trans e) Q q)
  | none =>
    simp only [hg] at e
    exact .inr (h' F H σ en L rs vs Lr en' r0 st rr nd e Q q)
def gS1 (op : D → Option D) : En → R → Option (En × R) := fun en r => match r.d en with
  | none => none
  | some a => match op a with
    | none => none
    | some d => some (en, .val (.sh d))
def PkU (K : PySem.W.Frag) (mg : Str → Option Value) (r : List V → Hp → VK → Prop) (op : D → Option D) : Prop :=
  ∀ (a : D) (va : V) (H : Hp) (d : D), Rep K mg H a va → op a = some d → ∃ v, d.v = some v ∧ ∀ Q : VK, Q v H → r [va] H Q
theorem PkU.ok {K : PySem.W.Frag} {mg : Str → Option Value} {r : List V → Hp → VK → Prop} {op : D → Option D} (h : PkU K mg r op) : OpU K mg r (gS1 op) := fun F H σ en L r0 v0 Lr en' r' st rr nd e Q q => by
  unfold gS1 at e
  split at e
  · cases e
  rename_i a e1
  split at e
  · cases e
  rename_i d e2
  cases e
  obtain ⟨v, hv, k⟩ := h a v0 H d (rr.peek st e1) e2
  exact k Q (q v F H L [] st (by simp only [RR]; exact own_sh (rep_v hv)) (by simpa using st.nd) (by simpa using Ext.refl.mem (fun a h => by simp [h]) fun a h => h))
section
variable {X : Cx} {e : Expr} {f : FE}
theorem op1_behind {r : List V → Hp → VK → Prop} {g : En → R → Option (En × R)} (o : OpU X.K X.mg r g) {σ : L2.St} {H : Hp} {Q : VK} (h : tS X.K X.mg (fU g f) σ H Q) : tS X.K X.mg f σ H fun v H' => r [v] H' Q := by
  obtain ⟨F, en, L, en', rr, st, ef, k⟩ := h
  unfold fU at ef
  split at ef
  · cases ef
  rename_i en1 rs e1
  refine ⟨F, en, L, en1, rs, st, e1, fun vs F1 H1 L1 Lr1 st1 rr1 nd1 x1 => ?_⟩
  exact o F1 H1 σ en1 L1 rs vs Lr1 en' rr st1 rr1 nd1 ef Q fun v F2 H2 L2 Lr2 st2 rr2 nd2 x2 => k v F2 H2 L2 Lr2 st2 rr2 nd2 (x1.trans x2)
end

/-! ### tests -/
abbrev FT := En → Option (En × Bool)
def tT (K : PySem.W.Frag) (mg : Str → Option Value) (f : FT) : TT := fun σ H Q => ∃ F en L en' b, StOk K mg F H σ en L ∧ f en = some (en', b) ∧
  ∀ F' H' L', StOk K mg F' H' σ en' L' → Ext F H L F' H' L' → Q b H'
abbrev ST (X : Cx) (e : Expr) (f : FT) : Prop := PT X e (tT X.K X.mg f)
abbrev SW (X : Cx) (e : Expr) (f : FT) : Prop := PW X e (tT X.K X.mg f)
theorem pw_imp {X : Cx} {e : Expr} {t t' : TT} (h : PW X e t) (i : ∀ σ H Q, t' σ H Q → t σ H Q) : PW X e t' := ⟨fun whole pins s σ H Q I q => h.run whole pins s σ H Q I (i σ H Q q)⟩
/-- the bool that an expression gives -/
def fTb (f : FE) : FT := fun en => match f en with
  | none => none
  | some (en', r) => match r.d en' with
    | some (.bl b) => some (en', b)
    | _ => none
def truthD : D → Option Bool
  | .non => some false
  | .bl b => some b
  | .int i => some (i != 0)
  | .str x => if x.length ≤ sizeLine then some ((x.length : Int) != 0) else none
  | .tup ds => some (!ds.isEmpty)
  | .lst ds => some (!ds.isEmpty)
  | .frl ds => some (!ds.isEmpty)
  | .dK ks _ => some (!ks.isEmpty)
  | _ => none
/-- an expression's truth -/
def fTr (f : FE) : FT := fun en => match f en with
  | none => none
  | some (en', r) => match r.d en' with
    | none => none
    | some d => match truthD d with
      | none => none
      | some b => some (en', b)
section
variable {K : PySem.W.Frag} {mg : Str → Option Value}
theorem truth_ok {H : Hp} {d : D} {v : V} {k : Bool} (h : Rep K mg H d v) (e : truthD d = some k) : TruV K v H k := by
  have emp : ∀ {ds : List D} {vs : List V}, Reps K mg H ds vs → (!ds.isEmpty) = !vs.isEmpty := fun {ds vs} h => by
    cases ds <;> cases vs <;> first | rfl | simp only [Reps] at h
  cases d with
  | non => simp only [truthD, Option.some.injEq] at e; subst e; cases rep_non h; rfl
  | bl b => simp only [truthD, Option.some.injEq] at e; subst e; cases rep_bl h; rfl
  | int i => simp only [truthD, Option.some.injEq] at e; subst e; cases rep_int h; rfl
  | str x =>
    simp only [truthD] at e
    split at e
    · rename_i hx
      cases e
      cases rep_str h
      exact ⟨hx, rfl⟩
    · cases e
  | tup ds =>
    simp only [truthD, Option.some.injEq] at e
    subst e
    simp only [Rep] at h
    obtain ⟨a, vs, rfl, h1, h2⟩ := h
    exact .inr (.inl ⟨vs, h1.1, emp h2⟩)
  | lst ds =>
    simp only [truthD, Option.some.injEq] at e
    subst e
    simp only [Rep] at h
    obtain ⟨a, vs, rfl, h1, h2⟩ := h
    exact .inl ⟨vs, SqL.of h1, emp h2⟩
  | frl ds =>
    simp only [truthD, Option.some.injEq] at e
    subst e
    simp only [Rep] at h
    obtain ⟨a, vs, rfl, h1, h2⟩ := h
    exact .inl ⟨vs, h1, emp h2⟩
  | dK ks ds =>
    simp only [truthD, Option.some.injEq] at e
    subst e
    simp only [Rep] at h
    obtain ⟨a, kws, rfl, h1, h2, h3⟩ := h
    refine .inr (.inr ⟨kws, h1, ?_⟩)
    rw [← h2]
    cases kws <;> rfl
  | any => cases e
  | dT _ _ => cases e
  | lT _ _ => cases e
  | ins _ _ => cases e
theorem drop_temp {F H F' H' : Hp} {L L' Lr : List Addr} (x : Ext F H L F' H' (L' ++ Lr)) : Ext F H L F' H' L' := x.mem (fun _ h => h) fun a h => by simp [h]
theorem tTb {f : FE} {σ : L2.St} {H : Hp} {Q : Bool → Hp → Prop} (h : tT K mg (fTb f) σ H Q) : tS K mg f σ H fun x H' => ∃ k, x = .bl k ∧ Q k H' := by
  obtain ⟨F, en, L, en', b, st, e, q⟩ := h
  unfold fTb at e
  split at e
  · cases e
  rename_i en1 r e1
  split at e
  · rename_i b' e2
    cases e
    exact ⟨F, en, L, _, r, st, e1, fun v F' H' L' Lr st' rr nd x => ⟨b, rep_bl (rr.peek st' e2), q F' H' L' st' (drop_temp x)⟩⟩
  · cases e
theorem tTr {f : FE} {σ : L2.St} {H : Hp} {Q : Bool → Hp → Prop} (h : tT K mg (fTr f) σ H Q) : tS K mg f σ H fun x H' => ∃ k, TruV K x H' k ∧ Q k H' := by
  obtain ⟨F, en, L, en', b, st, e, q⟩ := h
  unfold fTr at e
  split at e
  · cases e
  rename_i en1 r e1
  split at e
  · cases e
  rename_i d e2
  split at e
  · cases e
  rename_i b' e3
  cases e
  exact ⟨F, en, L, _, r, st, e1, fun v F' H' L' Lr st' rr nd x => ⟨b, truth_ok (rr.peek st' e2) e3, q F' H' L' st' (drop_temp x)⟩⟩
end
section
variable {X : Cx} {a b c : Expr} {fa fb fc : FE} {ta tb : FT} {pos : Pos}
/-- an expression whose test is its truth -/
theorem st_tr (h : SE X a fa) (he : ∀ whole, isTrue a X.env whole = (do let v ← whole; standAt a.pos; holding [v] (truthy v)) := by intro _; rfl) : ST X a (fTr fa) := pt_imp (pt_truth h he) fun _ _ _ q => tTr q
theorem st_cmp {op : CmpOp} {r : R2} {g : En → List R → Option (En × R)} (ho : OpR X (compareOp op) r) (o : OpN X.K X.mg (r2N r) g) (hm : behindInMarks op b = false) (ha : SE X a fa) (hb : SE X b fb) : ST X (.Compare a [op] [b] pos) (fTb (fN g [fa, fb])) :=
  pt_imp (pt_cmpR ho ha hb hm) fun σ H Q q => tEv_two (op_behind o (tTb q))
def fNotT (t : FT) : FT := fun en => match t en with
  | none => none
  | some (en', b) => some (en', !b)
theorem st_not (h : ST X a ta) : ST X (.UnaryOp .Not a pos) (fNotT ta) := pt_imp (pt_not h) fun σ H Q q => by
  obtain ⟨F, en, L, en', b, st, e, q⟩ := q
  unfold fNotT at e
  split at e
  · cases e
  rename_i en1 b1 e1
  cases e
  exact ⟨F, en, L, _, b1, st, e1, q⟩
def fAndT (t u : FT) : FT := fun en => match t en with
  | none => none
  | some (en', b) => if b = true then u en' else some (en', false)
def fOrT (t u : FT) : FT := fun en => match t en with
  | none => none
  | some (en', b) => if b = true then some (en', true) else u en'
theorem sw_and1 (h : ST X a ta) : SW X (.BoolOp .And [a] pos) ta := pw_and1 h
theorem sw_or1 (h : ST X a ta) : SW X (.BoolOp .Or [a] pos) ta := pw_or1 h
theorem sw_and {rest : List Expr} (h : ST X a ta) (h2 : SW X (.BoolOp .And (b :: rest) pos) tb) : SW X (.BoolOp .And (a :: b :: rest) pos) (fAndT ta tb) := pw_imp (pw_and h h2) fun σ H Q q => by
  obtain ⟨F, en, L, en', k, st, e, q⟩ := q
  unfold fAndT at e
  split at e
  · cases e
  rename_i en1 b1 e1
  refine ⟨F, en, L, en1, b1, st, e1, fun F1 H1 L1 st1 x1 => ?_⟩
  cases b1 with
  | true =>
    rw [if_pos rfl] at e ⊢
    exact ⟨F1, en1, L1, en', k, st1, e, fun F2 H2 L2 st2 x2 => q F2 H2 L2 st2 (x1.trans x2)⟩
  | false =>
    rw [if_neg Bool.false_ne_true] at e ⊢
    cases e
    exact q F1 H1 L1 st1 x1
theorem sw_or {rest : List Expr} (h : ST X a ta) (h2 : SW X (.BoolOp .Or (b :: rest) pos) tb) : SW X (.BoolOp .Or (a :: b :: rest) pos) (fOrT ta tb) := pw_imp (pw_or h h2) fun σ H Q q => by
  obtain ⟨F, en, L, en', k, st, e, q⟩ := q
  unfold fOrT at e
  split at e
  · cases e
  rename_i en1 b1 e1
  refine ⟨F, en, L, en1, b1, st, e1, fun F1 H1 L1 st1 x1 => ?_⟩
  cases b1 with
  | true =>
    rw [if_pos rfl] at e ⊢
    cases e
    exact q F1 H1 L1 st1 x1
  | false =>
    rw [if_neg Bool.false_ne_true] at e ⊢
    exact ⟨F1, en1, L1, en', k, st1, e, fun F2 H2 L2 st2 x2 => q F2 H2 L2 st2 (x1.trans x2)⟩
theorem st_w (h : SW X a ta) : ST X a ta := h.pt
/-! and, or, not as values -/
def fOrV (f g : FE) : FE := fun en => match f en with
  | none => none
  | some (en', r) => match r.d en' with
    | none => none
    | some d => match truthD d with
      | none => none
      | some b => if b = true then some (en', r) else g en'
def fAndV (f g : FE) : FE := fun en => match f en with
  | none => none
  | some (en', r) => match r.d en' with
    | none => none
    | some d => match truthD d with
      | none => none
      | some b => if b = true then g en' else some (en', r)
theorem se_one {op} (h : SE X a fa) : SE X (.BoolOp op [a] pos) fa := pe_one h
theorem se_or {rest : List Expr} (ha : SE X a fa) (hb : SE X (.BoolOp .Or (b :: rest) pos) fb) : SE X (.BoolOp .Or (a :: b :: rest) pos) (fOrV fa fb) := pe_imp (pe_orT ha hb) fun σ H Q q => by
  obtain ⟨F, en, L, en', r0, st, e, q⟩ := q
  unfold fOrV at e
  split at e
  · cases e
  rename_i en1 r e1
  split at e
  · cases e
  rename_i d e2
  split at e
  · cases e
  rename_i k e3
  refine ⟨F, en, L, en1, r, st, e1, fun v F1 H1 L1 Lr st1 rr nd x1 => ⟨k, truth_ok (rr.peek st1 e2) e3, ?_⟩⟩
  cases k with
  | true =>
    rw [if_pos rfl] at e ⊢
    cases e
    exact q v F1 H1 L1 Lr st1 rr nd x1
  | false =>
    rw [if_neg Bool.false_ne_true] at e ⊢
    exact ⟨F1, en1, L1, en', r0, st1, e, fun v F2 H2 L2 Lr2 st2 rr2 nd2 x2 => q v F2 H2 L2 Lr2 st2 rr2 nd2 ((drop_temp x1).trans x2)⟩
theorem se_and {rest : List Expr} (ha : SE X a fa) (hb : SE X (.BoolOp .And (b :: rest) pos) fb) : SE X (.BoolOp .And (a :: b :: rest) pos) (fAndV fa fb) := pe_imp (pe_andT ha hb) fun σ H Q q => by
  obtain ⟨F, en, L, en', r0, st, e, q⟩ := q
  unfold fAndV at e
  split at e
  · cases e
  rename_i en1 r e1
  split at e
  · cases e
  rename_i d e2
  split at e
  · cases e
  rename_i k e3
  refine ⟨F, en, L, en1, r, st, e1, fun v F1 H1 L1 Lr st1 rr nd x1 => ⟨k, truth_ok (rr.peek st1 e2) e3, ?_⟩⟩
  cases k with
  | true =>
    rw [if_pos rfl] at e ⊢
    exact ⟨F1, en1, L1, en', r0, st1, e, fun v F2 H2 L2 Lr2 st2 rr2 nd2 x2 => q v F2 H2 L2 Lr2 st2 rr2 nd2 ((drop_temp x1).trans x2)⟩
  | false =>
    rw [if_neg Bool.false_ne_true] at e ⊢
    cases e
    exact q v F1 H1 L1 Lr st1 rr nd x1
def oNotV (d : D) : Option D := match truthD d with
  | some k => some (.bl (!k))
  | none => none
def fNotV (f : FE) : FE := fU (gS1 oNotV) f
theorem se_not (ha : SE X a fa) : SE X (.UnaryOp .Not a pos) (fNotV fa) := by
  have o : OpU X.K X.mg (r1N fun x H Q => ∃ k, TruV X.K x H k ∧ Q (.bl (!k)) H) (gS1 oNotV) := PkU.ok fun a va H d h e => by
    unfold oNotV at e
    split at e
    · rename_i k ek
      cases e
      exact ⟨_, rfl, fun Q q => ⟨_, rfl, k, truth_ok h ek, q⟩⟩
    · cases e
  refine pe_imp (pe_notT ha) fun σ H Q q => ?_
  obtain ⟨F, en, L, en1, r, st, e1, k⟩ := op1_behind o q
  exact ⟨F, en, L, en1, r, st, e1, fun v F1 H1 L1 Lr st1 rr nd x1 => by
    obtain ⟨a, e, z⟩ := k v F1 H1 L1 Lr st1 rr nd x1
    cases e
    exact z⟩
def fIf (t : FT) (f g : FE) : FE := fun en => match t en with
  | none => none
  | some (en', b) => if b = true then f en' else g en'
theorem se_if (hc : ST X c ta) (ha : SE X a fa) (hb : SE X b fb) : SE X (.IfExp c a b pos) (fIf ta fa fb) := pe_imp (pe_ifExp hc ha hb) fun σ H Q q => by
  obtain ⟨F, en, L, en', r0, st, e, q⟩ := q
  unfold fIf at e
  split at e
  · cases e
  rename_i en1 k e1
  refine ⟨F, en, L, en1, k, st, e1, fun F1 H1 L1 st1 x1 => ?_⟩
  cases k with
  | true =>
    rw [if_pos rfl] at e ⊢
    exact ⟨F1, en1, L1, en', r0, st1, e, fun v F2 H2 L2 Lr2 st2 rr2 nd2 x2 => q v F2 H2 L2 Lr2 st2 rr2 nd2 (x1.trans x2)⟩
  | false =>
    rw [if_neg Bool.false_ne_true] at e ⊢
    exact ⟨F1, en1, L1, en', r0, st1, e, fun v F2 H2 L2 Lr2 st2 rr2 nd2 x2 => q v F2 H2 L2 Lr2 st2 rr2 nd2 (x1.trans x2)⟩
/-! comparisons in pairs -/
def tr2 (r r' : R2) : R2 := fun x y H Q => r x y H Q ∨ r' x y H Q
def gIn : En → List R → Option (En × R) := gOr (gS oInS) (gOr (gS oInF) (gS oIn))
def gNotIn : En → List R → Option (En × R) := gOr (gS oNotInS) (gOr (gS oNotInF) (gS oNotIn))
theorem OpN.r2 {r r' : R2} {g g' : En → List R → Option (En × R)} (h : OpN X.K X.mg (r2N r) g) (h' : OpN X.K X.mg (r2N r') g') : OpN X.K X.mg (r2N fun x y H Q => r x y H Q ∨ r' x y H Q) (gOr g g') :=
  (h.or h').imp fun vs H Q q => by
    rcases q with ⟨a, b, e, q⟩ | ⟨a, b, e, q⟩
    · exact ⟨a, b, e, .inl q⟩
    · exact ⟨a, b, e, .inr q⟩
section
variable (hu : X.A.units + 65 < cLine)
include hu
theorem se_in (ha : SE X a fa) (hb : SE X b fb) (hm : behindInMarks .In b = false := by rfl) : SE X (.Compare a [.In] [b] pos) (fN gIn [fa, fb]) :=
  se_cmp (op_in_sign.or (op_in_seq.or (op_inD hu))) ((PkS.ok pk_inS).r2 ((PkS.ok pk_inF).r2 (PkS.ok pk_in))) hm ha hb
theorem st_in (ha : SE X a fa) (hb : SE X b fb) (hm : behindInMarks .In b = false := by rfl) : ST X (.Compare a [.In] [b] pos) (fTb (fN gIn [fa, fb])) :=
  st_cmp (op_in_sign.or (op_in_seq.or (op_inD hu))) ((PkS.ok pk_inS).r2 ((PkS.ok pk_inF).r2 (PkS.ok pk_in))) hm ha hb
theorem se_notin (ha : SE X a fa) (hb : SE X b fb) (hm : behindInMarks .NotIn b = false := by rfl) : SE X (.Compare a [.NotIn] [b] pos) (fN gNotIn [fa, fb]) :=
  se_cmp (op_notIn_sign.or (op_notIn_seq.or (op_notInD hu))) ((PkS.ok pk_notInS).r2 ((PkS.ok pk_notInF).r2 (PkS.ok pk_notIn))) hm ha hb
theorem st_notin (ha : SE X a fa) (hb : SE X b fb) (hm : behindInMarks .NotIn b = false := by rfl) : ST X (.Compare a [.NotIn] [b] pos) (fTb (fN gNotIn [fa, fb])) :=
  st_cmp (op_notIn_sign.or (op_notIn_seq.or (op_notInD hu))) ((PkS.ok pk_notInS).r2 ((PkS.ok pk_notInF).r2 (PkS.ok pk_notIn))) hm ha hb
theorem se_eq (ha : SE X a fa) (hb : SE X b fb) : SE X (.Compare a [.Eq] [b] pos) (fN (gS oEq) [fa, fb]) := se_cmp (op_eqD (by omega)) (PkS.ok pk_eq) (nomark _) ha hb
theorem st_eq (ha : SE X a fa) (hb : SE X b fb) : ST X (.Compare a [.Eq] [b] pos) (fTb (fN (gS oEq) [fa, fb])) := st_cmp (op_eqD (by omega)) (PkS.ok pk_eq) (nomark _) ha hb
theorem se_ne (ha : SE X a fa) (hb : SE X b fb) : SE X (.Compare a [.NotEq] [b] pos) (fN (gS oNe) [fa, fb]) := se_cmp (op_neD (by omega)) (PkS.ok pk_ne) (nomark _) ha hb
theorem st_ne (ha : SE X a fa) (hb : SE X b fb) : ST X (.Compare a [.NotEq] [b] pos) (fTb (fN (gS oNe) [fa, fb])) := st_cmp (op_neD (by omega)) (PkS.ok pk_ne) (nomark _) ha hb
end
def gLt : En → List R → Option (En × R) := gOr (gS oLtI) (gS oLtS)
theorem se_lt (ha : SE X a fa) (hb : SE X b fb) : SE X (.Compare a [.Lt] [b] pos) (fN gLt [fa, fb]) := se_cmp (op_lt.or op_lt_str) nLt (nomark _) ha hb
theorem st_lt (ha : SE X a fa) (hb : SE X b fb) : ST X (.Compare a [.Lt] [b] pos) (fTb (fN gLt [fa, fb])) := st_cmp (op_lt.or op_lt_str) nLt (nomark _) ha hb
theorem se_le (ha : SE X a fa) (hb : SE X b fb) : SE X (.Compare a [.LtE] [b] pos) (fN (gS oLeI) [fa, fb]) := se_cmp op_le nLe (nomark _) ha hb
theorem st_le (ha : SE X a fa) (hb : SE X b fb) : ST X (.Compare a [.LtE] [b] pos) (fTb (fN (gS oLeI) [fa, fb])) := st_cmp op_le nLe (nomark _) ha hb
theorem se_gt (ha : SE X a fa) (hb : SE X b fb) : SE X (.Compare a [.Gt] [b] pos) (fN (gS oGtI) [fa, fb]) := se_cmp op_gt nGt (nomark _) ha hb
theorem st_gt (ha : SE X a fa) (hb : SE X b fb) : ST X (.Compare a [.Gt] [b] pos) (fTb (fN (gS oGtI) [fa, fb])) := st_cmp op_gt nGt (nomark _) ha hb
theorem se_ge (ha : SE X a fa) (hb : SE X b fb) : SE X (.Compare a [.GtE] [b] pos) (fN (gS oGeI) [fa, fb]) := se_cmp op_ge nGe (nomark _) ha hb
theorem st_ge (ha : SE X a fa) (hb : SE X b fb) : ST X (.Compare a [.GtE] [b] pos) (fTb (fN (gS oGeI) [fa, fb])) := st_cmp op_ge nGe (nomark _) ha hb
theorem se_isN (ha : SE X a fa) (hb : SE X b fb) : SE X (.Compare a [.Is] [b] pos) (fN (gS oIsN) [fa, fb]) := se_cmp op_isN (PkS.ok pk_isN) (nomark _) ha hb
theorem st_isN (ha : SE X a fa) (hb : SE X b fb) : ST X (.Compare a [.Is] [b] pos) (fTb (fN (gS oIsN) [fa, fb])) := st_cmp op_isN (PkS.ok pk_isN) (nomark _) ha hb
theorem se_notN (ha : SE X a fa) (hb : SE X b fb) : SE X (.Compare a [.IsNot] [b] pos) (fN (gS oNotN) [fa, fb]) := se_cmp op_notN (PkS.ok pk_notN) (nomark _) ha hb
theorem st_notN (ha : SE X a fa) (hb : SE X b fb) : ST X (.Compare a [.IsNot] [b] pos) (fTb (fN (gS oNotN) [fa, fb])) := st_cmp op_notN (PkS.ok pk_notN) (nomark _) ha hb
end
end Pu

/-! Pu5: displays, items, sums of lists, slices, chains. -/
namespace Pu
open PySem PySem.Spec PyProof.Rows L2

section
variable {K : PySem.W.Frag} {mg : Str → Option Value}
theorem rep_tup {F H : Hp} {p : Addr} {ds : List D} {vs : List V} (s : Same F H) (h : H p = none) (r : Reps K mg F ds vs) : Rep K mg (upd F p (.tup vs)) (.tup ds) (.ref p) := by
  simp only [Rep]
  refine ⟨p, vs, rfl, .of upd_same, r.mono fun b u e => ?_⟩
  rw [upd_ne (ne_of_none (s b u e) h)]
  exact e
/-- a frozen tuple is laid -/
theorem lay_tup {F H : Hp} {σ : L2.St} {en : En} {L : List Addr} {p : Addr} {ds : List D} {vs : List V} (st : StOk K mg F H σ en L) (h : H p = none) (r : Reps K mg F ds vs) :
    StOk K mg (upd F p (.tup vs)) (upd H p (.tup vs)) σ en L ∧ RR K mg (upd F p (.tup vs)) (upd H p (.tup vs)) σ en L (.val (.sh (.tup ds))) (.ref p) [] ∧ (L ++ []).Nodup ∧ Ext F H L (upd F p (.tup vs)) (upd H p (.tup vs)) (L ++ []) := by
  obtain ⟨a, b⟩ := lay_frozen (o := .tup vs) st h
  exact ⟨a, by simp only [RR]; exact own_sh (rep_tup st.sub h r), by simpa using st.nd, by simpa using b⟩
theorem owns_sh {F H : Hp} : ∀ {ds : List D} {vs : List V}, Reps K mg F ds vs → Owns K mg F H (ds.map W.sh) vs []
  | [], [], _ => by simp only [List.map_nil, Owns]
  | d :: ds, v :: vs, h => by
    simp only [Reps] at h
    simp only [List.map_cons, Owns]
    exact ⟨[], [], rfl, own_sh h.1, owns_sh h.2⟩
  | [], _ :: _, h => by simp only [Reps] at h
  | _ :: _, [], h => by simp only [Reps] at h
/-- an owned list is laid -/
theorem lay_list {F H : Hp} {σ : L2.St} {en : En} {L Lr : List Addr} {p : Addr} {ws : List W} {vs : List V} (st : StOk K mg F H σ en L) (h : H p = none) (r : Owns K mg F H ws vs Lr) (nd : (L ++ Lr).Nodup) :
    StOk K mg F (upd H p (.lst vs)) σ en L ∧ RR K mg F (upd H p (.lst vs)) σ en L (.val (.lst ws)) (.ref p) (p :: Lr) ∧ (L ++ p :: Lr).Nodup ∧ Ext F H (L ++ Lr) F (upd H p (.lst vs)) (L ++ p :: Lr) := by
  obtain ⟨a, ex⟩ := lay_owned (o := .lst vs) st h
  have hp : ∀ c ∈ Lr, c ≠ p := fun c hc z => (r.cell c hc).1.1 (z ▸ h)
  have hpL : p ∉ L := fun z => (st.cell p z).1.1 h
  obtain ⟨n1, n2, n3⟩ := nd_app nd
  refine ⟨a, ?_, ?_, ?_⟩
  · simp only [RR, Own]
    exact ⟨p, vs, Lr, rfl, upd_same, sub_none st.sub h, rfl, r.stay ⟨Same.refl F, fun b hb => (r.cell b hb).2, fun b hb => upd_ne (hp b hb)⟩⟩
  · refine nd_of n1 (List.nodup_cons.mpr ⟨fun z => hp p z rfl, n2⟩) fun b hb hb' => ?_
    rcases List.mem_cons.mp hb' with rfl | z
    · exact hpL hb
    · exact n3 b hb z
  · refine (ex.frame Lr).mem (fun a h => h) fun a h => ?_
    simp only [List.mem_append, List.mem_cons] at h ⊢
    rcases h with z | rfl | z <;> simp_all
end
/-! ### displays -/
def gTupD : En → List R → Option (En × R) := fun en rs => match rfz en rs with
  | none => none
  | some (en', ds) => if ds.length ≤ sizeLine then some (en', .val (.sh (.tup ds))) else none
def gLstD : En → List R → Option (En × R) := fun en rs => match rtk en rs with
  | none => none
  | some (en', ws) => if ws.length ≤ sizeLine then some (en', .val (.lst ws)) else none
section
variable {K : PySem.W.Frag} {mg : Str → Option Value}
theorem n_tup : OpN K mg (fun xs H1 Q => xs.length ≤ sizeLine ∧ ∀ p, H1 p = none → Q (.ref p) (upd H1 p (.tup xs))) gTupD := by
  intro F H σ en L rs vs Lr en' r' st rr hs nd e Q q
  unfold gTupD at e
  split at e
  · cases e
  rename_i en1 ds e1
  split at e
  · rename_i hl
    cases e
    obtain ⟨F1, L1, st1, rp, x1⟩ := rr.fz st hs nd e1
    refine ⟨by rw [← rp.len]; exact hl, fun p hp => ?_⟩
    obtain ⟨a, b, c, d⟩ := lay_tup st1 hp rp
    exact q _ _ _ _ _ a b c (x1.trans d)
  · cases e
theorem n_lst : OpN K mg (fun xs H1 Q => xs.length ≤ sizeLine ∧ ∀ p, H1 p = none → Q (.ref p) (upd H1 p (.lst xs))) gLstD := by
  intro F H σ en L rs vs Lr en' r' st rr hs nd e Q q
  unfold gLstD at e
  split at e
  · cases e
  rename_i en1 ws e1
  split at e
  · rename_i hl
    cases e
    obtain ⟨F1, L1, Lr1, st1, ow, nd1, x1⟩ := rr.tk st hs nd e1
    refine ⟨by rw [← ow.len]; exact hl, fun p hp => ?_⟩
    obtain ⟨a, b, c, d⟩ := lay_list st1 hp ow nd1
    exact q _ _ _ _ _ a b c (x1.trans d)
  · cases e
end
def fTup (fs : List FE) : FE := fN gTupD fs
def fLst (fs : List FE) : FE := fN gLstD fs
theorem se_tup {X : Cx} {es : List Expr} {fs : List FE} {x1} {pos : Pos} (h : SA X es fs) : SE X (.Tuple es x1 pos) (fTup fs) := pe_imp (pe_tup h) fun σ H Q q => op_behind n_tup q
theorem se_lst {X : Cx} {es : List Expr} {fs : List FE} {pos : Pos} (h : SA X es fs) : SE X (.List es pos) (fLst fs) := pe_imp (pe_lst h) fun σ H Q q => op_behind n_lst q

/-! ### the items of a list or tuple -/
inductive Kd where
  | t | l | f
  deriving DecidableEq
def shs (ws : List W) : List W := (W.ds ws).map W.sh
def D.its : D → Option (Kd × List D)
  | .tup ds => some (.t, ds)
  | .lst ds => some (.l, ds)
  | .frl ds => some (.f, ds)
  | _ => none
def R.els (en : En) : R → Option (En × Kd × List D)
  | .val (.sh d) => match d.its with
    | some (k, ds) => some (en, k, ds)
    | none => none
  | .val (.lst ws) => some (en, .l, W.ds ws)
  | .val _ => none
  | .pl i p => match en.get i p with
    | some (.sh d) => match d.its with
      | some (k, ds) => some (en, k, ds)
      | none => none
    | some (.lst ws) => some (en.put i p (.lst (shs ws)), .l, W.ds ws)
    | _ => none
/-- how such a thing stands -/
def StK (K : PySem.W.Frag) (H : Hp) (k : Kd) (a : Addr) (vs : List V) : Prop := match k with
  | .t => TupAt K H a vs
  | .l => H a = some (.lst vs)
  | .f => SqL K H a vs
section
variable {K : PySem.W.Frag} {mg : Str → Option Value}
theorem rep_its {H : Hp} {d : D} {v : V} {k : Kd} {ds : List D} (h : Rep K mg H d v) (e : d.its = some (k, ds)) : ∃ a vs, v = .ref a ∧ StK K H k a vs ∧ Reps K mg H ds vs := by
  cases d <;> simp only [D.its, Option.some.injEq, Prod.mk.injEq] at e <;> first
    | (cases e; done)
    | (obtain ⟨rfl, rfl⟩ := e
       simp only [Rep] at h
       exact h)
theorem StK.mono {H H' : Hp} {k : Kd} {a : Addr} {vs : List V} (s : Same H H') (h : StK K H k a vs) : StK K H' k a vs := by
  cases k with
  | t => exact ⟨seqT s h.1, h.2.imp (s _ _) id⟩
  | l => exact s _ _ h
  | f => exact s.seq h
theorem StK.lst {H : Hp} {k : Kd} {a : Addr} {vs : List V} (h : StK K H k a vs) (hk : k ≠ .t) : SqL K H a vs := by
  cases k with
  | t => exact absurd rfl hk
  | l => exact SqL.of h
  | f => exact h
theorem StK.any {H : Hp} {k : Kd} {a : Addr} {vs : List V} (h : StK K H k a vs) : SqL K H a vs ∨ SqT K H a vs := by
  cases k with
  | t => exact .inr h.1
  | l => exact .inl (SqL.of h)
  | f => exact .inl h
theorem RR.els {F H : Hp} {σ : L2.St} {en en' : En} {L Lr : List Addr} {r : R} {v : V} {k : Kd} {ds : List D} (st : StOk K mg F H σ en L) (h : RR K mg F H σ en L r v Lr) (nd : (L ++ Lr).Nodup) (e : r.els en = some (en', k, ds)) :
    ∃ F' L', StOk K mg F' H σ en' L' ∧ (∃ a vs, v = .ref a ∧ (StK K H k a vs ∧ (k = .t → TupAt K F' a vs)) ∧ Reps K mg F' ds vs) ∧ Ext F H (L ++ Lr) F' H L' := by
  cases r with
  | val w =>
    cases w with
    | sh d =>
      simp only [R.els] at e
      split at e
      · rename_i k' ds' e1
        cases e
        simp only [RR, Own] at h
        obtain ⟨h1, rfl⟩ := h
        obtain ⟨a, vs, e2, e3, e4⟩ := rep_its h1 e1
        exact ⟨F, L, st, ⟨a, vs, e2, ⟨e3.mono st.sub, fun z => by subst z; exact e3⟩, e4⟩, by simpa using Ext.refl⟩
      · cases e
    | lst ws =>
      simp only [R.els, Option.some.injEq, Prod.mk.injEq] at e
      obtain ⟨rfl, rfl, rfl⟩ := e
      simp only [RR, Own] at h
      obtain ⟨a, vs, L', rfl, h2, h3, rfl, h5⟩ := h
      obtain ⟨n1, n2, n3⟩ := nd_app nd
      refine ⟨addF F H L', L, st.freeze fun b hb hb' => n3 b hb (by simp [hb']), ⟨a, vs, rfl, ⟨h2, fun z => by cases z⟩, h5.seen (seen_add st.sub fun _ h => h)⟩, Ext.freeze st.sub (fun b hb => by simp [hb]) fun b hb => by simp [hb]⟩
    | dT _ _ => cases e
    | dK _ _ => cases e
    | ins _ _ => cases e
  | pl i p =>
    obtain ⟨rfl, w1, La, Lm, Lb, P⟩ := RR.part st h
    have g := P.1
    simp only [R.els, g] at e
    obtain ⟨_, eL, o, kk⟩ := P
    cases w1 with
    | sh d =>
      simp only at e
      split at e
      · rename_i k' ds' e1
        cases e
        simp only [Own] at o
        obtain ⟨h1, rfl⟩ := o
        obtain ⟨a, vs, e2, e3, e4⟩ := rep_its h1 e1
        exact ⟨F, L, st, ⟨a, vs, e2, ⟨e3.mono st.sub, fun z => by subst z; exact e3⟩, e4⟩, by simpa using Ext.refl⟩
      · cases e
    | lst ws =>
      simp only [Option.some.injEq, Prod.mk.injEq] at e
      obtain ⟨rfl, rfl, rfl⟩ := e
      simp only [Own] at o
      obtain ⟨a, vs, L', rfl, h2, h3, rfl, h5⟩ := o
      have nd0 := st.nd
      have cl := st.cell
      subst eL
      obtain ⟨n1, n2⟩ := nodup3 nd0
      have nm : (a :: L').Nodup := (nd_app (nd_app nd0).2.1).1
      obtain ⟨na, nL⟩ := List.nodup_cons.mp nm
      have rp : Reps K mg (addF F H L') (W.ds ws) vs := h5.seen (seen_add st.sub fun _ h => h)
      have hs : Stay F H (addF F H L') H (La ++ Lb) := stay_freeze st.sub (fun b hb => (cl b (by simp only [List.mem_append] at hb ⊢; rcases hb with z | z <;> simp [z])).2) fun b hb z => n2 b hb (by simp [z])
      have own' : Own K mg (addF F H L') H (.lst (shs ws)) (.ref a) [a] := by
        simp only [Own]
        exact ⟨a, vs, [], rfl, h2, by rw [addF_out na]; exact h3, rfl, owns_sh rp⟩
      refine ⟨addF F H L', La ++ ([a] ++ Lb), ⟨addF_le st.sub, ?_, kk _ _ _ _ hs own'⟩, ⟨a, vs, rfl, ⟨h2, fun z => by cases z⟩, rp⟩, ?_⟩
      · simp only [List.nodup_append, List.mem_append, List.mem_cons] at nd0 ⊢
        obtain ⟨q1, ⟨q2, q3, q4⟩, q5⟩ := nd0
        refine ⟨q1, ⟨by simp, q3, fun x hx y hy => ?_⟩, fun x hx y hy => ?_⟩
        · have : x = a := by simpa using hx
          subst this
          exact q4 x (.inl rfl) y hy
        · rcases hy with z | z
          · have : y = a := by simpa using z
            exact q5 x hx y (.inl (.inl this))
          · exact q5 x hx y (.inr z)
      · refine Ext.freeze st.sub (fun b hb => by simp [hb]) fun b hb => ?_
        simp only [List.mem_append, List.mem_cons, List.mem_singleton] at hb ⊢
        rcases hb with z | z | z
        · simp [z]
        · rcases z with z | z
          · simp [z]
          · cases z
        · simp [z]
    | dT _ _ => cases e
    | dK _ _ => cases e
    | ins _ _ => cases e
/-- both operands' items -/
def els2 (en : En) (r1 r2 : R) : Option (En × (Kd × List D) × (Kd × List D)) := match r1.els en with
  | none => none
  | some (en1, k1, ds1) => match r2.els en1 with
    | none => none
    | some (en2, k2, ds2) => some (en2, (k1, ds1), (k2, ds2))
theorem RRs.els2 {F H : Hp} {σ : L2.St} {en en' : En} {L Lr : List Addr} {r1 r2 : R} {vs : List V} {k1 k2 : Kd} {ds1 ds2 : List D} (st : StOk K mg F H σ en L) (h : RRs K mg F H σ en L [r1, r2] vs Lr) (hs : ∀ r ∈ [r1, r2], r.stable = true) (nd : (L ++ Lr).Nodup) (e : els2 en r1 r2 = some (en', (k1, ds1), (k2, ds2))) :
    ∃ a b xs ys F' L', vs = [.ref a, .ref b] ∧ StOk K mg F' H σ en' L' ∧ (StK K H k1 a xs ∧ (k1 = .t → TupAt K F' a xs)) ∧ (StK K H k2 b ys ∧ (k2 = .t → TupAt K F' b ys)) ∧ Reps K mg F' ds1 xs ∧ Reps K mg F' ds2 ys ∧ Ext F H (L ++ Lr) F' H L' := by
  match vs, h with
  | [v1, v2], h =>
    simp only [RRs] at h
    obtain ⟨A, B, rfl, h1, C, E, e0, h2, rfl⟩ := h
    have e0' : B = C := by simpa using e0
    subst e0'
    unfold Pu.els2 at e
    split at e
    · cases e
    rename_i en1 k1' ds1' e1
    split at e
    · cases e
    rename_i en2 k2' ds2' e2
    simp only [Option.some.injEq, Prod.mk.injEq] at e
    obtain ⟨rfl, ⟨rfl, rfl⟩, ⟨rfl, rfl⟩⟩ := e
    have nd' : (L ++ A ++ B).Nodup := by simpa using nd
    obtain ⟨nd1, nd2, dj0⟩ := nd_app nd'
    have dj : ∀ b ∈ B, b ∉ L ++ A := fun b hb hb' => dj0 b hb' hb
    obtain ⟨F1, M1, st1, ⟨a, xs, rfl, s1, rp1⟩, x1⟩ := h1.els st nd1 e1
    have k2 := h2.keep (en' := en1) (L' := M1) (hs _ (by simp)) x1 dj
    have ap := x1.apart (M := B) fun b hb => ⟨dj b hb, (h2.cell b hb).1.1⟩
    obtain ⟨F2, M2, st2, ⟨b, ys, rfl, s2, rp2⟩, x2⟩ := k2.els st1 (nd_of st1.nd nd2 fun b hb hb' => ap b hb b hb' rfl) e2
    refine ⟨a, b, xs, ys, F2, M2, rfl, st2, ⟨s1.1, fun z => StK.mono (k := .t) x2.sub (s1.2 z)⟩, s2, rp1.mono x2.sub, rp2, ?_⟩
    exact ((x1.frame B).trans x2).mem (fun a h => by simpa using h) fun a h => h
  | [], h => simp only [RRs] at h
  | [_], h =>
    simp only [RRs] at h
    obtain ⟨_, _, _, _, h⟩ := h
    exact h.elim
  | _ :: _ :: _ :: _, h =>
    simp only [RRs] at h
    obtain ⟨_, _, _, _, _, _, _, _, h⟩ := h
    exact h.elim
/-! ### x + y -/
def gCatL : En → List R → Option (En × R)
  | en, [r1, r2] => match els2 en r1 r2 with
    | some (en', (.l, ds1), (.l, ds2)) => if ds1.length + ds2.length ≤ sizeLine then some (en', .val (.lst ((ds1 ++ ds2).map W.sh))) else none
    | _ => none
  | _, _ => none
def gCatT : En → List R → Option (En × R)
  | en, [r1, r2] => match els2 en r1 r2 with
    | some (en', (.t, ds1), (.t, ds2)) => if ds1.length + ds2.length ≤ sizeLine then some (en', .val (.sh (.tup (ds1 ++ ds2)))) else none
    | _ => none
  | _, _ => none
theorem n_catL : OpN K mg (r2N rCat) gCatL := by
  intro F H σ en L rs vs Lr en' r' st rr hs nd e Q q
  unfold gCatL at e
  split at e
  · rename_i r1 r2
    split at e
    · rename_i en1 ds1 ds2 e1
      split at e
      · rename_i hl
        cases e
        obtain ⟨a, b, xs, ys, F1, L1, rfl, st1, s1, s2, p1, p2, x1⟩ := rr.els2 st hs nd e1
        refine ⟨_, _, rfl, a, b, xs, ys, rfl, rfl, s1.1, s2.1, by rw [← p1.len, ← p2.len]; exact hl, fun p hp => ?_⟩
        obtain ⟨z1, z2, z3, z4⟩ := lay_list st1 hp (owns_sh (p1.append p2)) (by simpa using st1.nd)
        exact q _ _ _ _ _ z1 z2 z3 (x1.trans (z4.mem (fun a h => by simpa using h) fun a h => h))
      · cases e
    · cases e
  · cases e
theorem n_catT : OpN K mg (r2N (rCatA K)) gCatT := by
  intro F H σ en L rs vs Lr en' r' st rr hs nd e Q q
  unfold gCatT at e
  split at e
  · rename_i r1 r2
    split at e
    · rename_i en1 ds1 ds2 e1
      split at e
      · rename_i hl
        cases e
        obtain ⟨a, b, xs, ys, F1, L1, rfl, st1, s1, s2, p1, p2, x1⟩ := rr.els2 st hs nd e1
        have nd1 : (L1 ++ []).Nodup := by simpa using st1.nd
        have fin : ∀ {c : Addr} {zs : List V}, TupAt K F1 c zs → Reps K mg F1 (ds1 ++ ds2) zs → Q (.ref c) H := fun {c zs} h1 h2 =>
          q (.ref c) F1 H L1 [] st1 (by simp only [RR]; exact own_sh (by simp only [Rep]; exact ⟨c, zs, rfl, h1, h2⟩)) nd1 (x1.mem (fun _ h => h) fun a h => by simpa using h)
        refine ⟨_, _, rfl, a, b, xs, ys, rfl, rfl, s1.1.1, s2.1.1, by rw [← p1.len, ← p2.len]; exact hl, fun hx => ?_, fun hx hy => ?_, fun hx hy p hp => ?_⟩
        · subst hx
          exact fin (s2.2 rfl) (by simpa using p1.append p2)
        · subst hy
          exact fin (s1.2 rfl) (by simpa using p1.append p2)
        · obtain ⟨z1, z2, z3, z4⟩ := lay_tup st1 hp (p1.append p2)
          exact q _ _ _ _ _ z1 z2 z3 (x1.trans z4)
      · cases e
    · cases e
  · cases e
end
end Pu

/-! Pu6: +, items, slices, kinds, built-ins of one argument. -/
namespace Pu
open PySem PySem.Spec PyProof.Rows L2

theorem pe_or2 {X : Cx} {e : Expr} {t t' : TE} (h : PE X e t) (h' : PE X e t') : PE X e (fun σ H Q => t σ H Q ∨ t' σ H Q) := ⟨fun pins s σ H Q I q => q.elim (h.run pins s σ H Q I) (h'.run pins s σ H Q I)⟩
def fOr2 (f g : FE) : FE := fun en => match f en with
  | some x => some x
  | none => g en
theorem se_or2 {X : Cx} {e : Expr} {f g : FE} (h : SE X e f) (h' : SE X e g) : SE X e (fOr2 f g) := pe_imp (pe_or2 h h') fun σ H Q q => by
  obtain ⟨F, en, L, en', r, st, e, k⟩ := q
  unfold fOr2 at e
  cases hf : f en with
  | some x =>
    simp only [hf] at e
    exact .inl ⟨F, en, L, en', r, st, hf.trans e, k⟩
  | none =>
    simp only [hf] at e
    exact .inr ⟨F, en, L, en', r, st, e, k⟩

/-! ### + -/
def gAdd : En → List R → Option (En × R) := gOr (gS oAddI) (gOr (gS oAddS) (gOr gCatL gCatT))
def fAdd (fa fb : FE) : FE := fN gAdd [fa, fb]
theorem se_add {X : Cx} {a b : Expr} {fa fb : FE} {pos : Pos} (ha : SE X a fa) (hb : SE X b fb) : SE X (.BinOp a .Add b pos) (fAdd fa fb) :=
  se_op (op_add.or (op_add_str.or (op_cat.or op_catA))) ((PkS.ok (pk_II (r := rI0 fun i j => .int (i + j)) (fun _ _ => rfl) fun i j H Q _ q => ⟨_, _, rfl, rfl, q⟩)).r2 ((PkS.ok pk_addS).r2 (n_catL.r2 n_catT))) ha hb

/-! ### an item -/
section
variable {K : PySem.W.Frag} {mg : Str → Option Value}
theorem reps_at {F : Hp} : ∀ {ds : List D} {vs : List V} {j : Nat} {d : D}, Reps K mg F ds vs → ds[j]? = some d → ∃ v, vs[j]? = some v ∧ Rep K mg F d v
  | d :: ds, v :: vs, 0, x, h, e => by
    simp only [Reps] at h
    simp only [List.getElem?_cons_zero, Option.some.injEq] at e
    subst e
    exact ⟨v, rfl, h.1⟩
  | d :: ds, v :: vs, j + 1, x, h, e => by
    simp only [Reps] at h
    simp only [List.getElem?_cons_succ] at e ⊢
    exact reps_at h.2 e
  | [], _, _, _, _, e => by simp at e
  | _ :: _, [], _, _, h, _ => by simp only [Reps] at h
theorem at_of {α β : Type} {xs : List α} {ys : List β} {i : Int} {x : α} (hl : xs.length = ys.length) (h : atI xs i = some x) : ∃ j, ixN xs.length i = some j ∧ xs[j]? = some x ∧ ∀ y, ys[j]? = some y → atI ys i = some y := by
  unfold atI at h ⊢
  cases hj : ixN xs.length i with
  | none => rw [hj] at h; cases h
  | some j =>
    rw [hj] at h
    exact ⟨j, rfl, h, fun y hy => by rw [← hl, hj]; exact hy⟩
end
def oIxD (d : D) (k : Int) : Option D := match d with
  | .tup ds => atI ds k
  | .lst ds => atI ds k
  | .frl ds => atI ds k
  | .str x => if x.length ≤ sizeLine then (match atI x.cps.toList k with
    | some c => some (.str ⟨#[c]⟩)
    | none => none) else none
  | _ => none
def gIx : En → List R → Option (En × R)
  | en, [r1, r2] => match r2.d en with
    | some (.int k) => match r1 with
      | .val (.sh d) => match oIxD d k with
        | some x => some (en, .val (.sh x))
        | none => none
      | .val (.lst ws) => match atI ws k with
        | some w => some (en, .val w)
        | none => none
      | .pl i [] => match en[i]? with
        | some (.sh d) => match oIxD d k with
          | some x => some (en, .val (.sh x))
          | none => none
        | some (.lst ws) => match ixN ws.length k with
          | some j => match ws[j]? with
            | some (.sh d) => some (en, .val (.sh d))
            | some _ => some (en, .pl i [j])
            | none => none
          | none => none
        | _ => none
      | _ => none
    | _ => none
  | _, _ => none
section
variable {K : PySem.W.Frag} {mg : Str → Option Value}
theorem ixD_ok {F H : Hp} {d x : D} {v : V} {k : Int} {Q : VK} (s : Same F H) (h : Rep K mg F d v) (e : oIxD d k = some x) (q : ∀ y, Rep K mg F x y → Q y H) : rIx K v (.int k) H Q := by
  have seq : ∀ {ds : List D} {a : Addr} {vs : List V}, Reps K mg F ds vs → atI ds k = some x → ∃ y, atI vs k = some y ∧ Rep K mg F x y := fun {ds a vs} r e => by
    obtain ⟨j, e1, e2, e3⟩ := at_of r.len e
    obtain ⟨y, h1, h2⟩ := reps_at r e2
    exact ⟨y, e3 y h1, h2⟩
  cases d with
  | tup ds =>
    simp only [Rep] at h
    obtain ⟨a, vs, rfl, h1, h2⟩ := h
    obtain ⟨y, z1, z2⟩ := seq (a := a) h2 e
    exact .inr (.inl ⟨a, vs, k, y, rfl, rfl, seqT s h1.1, z1, q y z2⟩)
  | lst ds =>
    simp only [Rep] at h
    obtain ⟨a, vs, rfl, h1, h2⟩ := h
    obtain ⟨y, z1, z2⟩ := seq (a := a) h2 e
    exact .inl ⟨a, vs, k, y, rfl, rfl, SqL.of (s _ _ h1), z1, q y z2⟩
  | frl ds =>
    simp only [Rep] at h
    obtain ⟨a, vs, rfl, h1, h2⟩ := h
    obtain ⟨y, z1, z2⟩ := seq (a := a) h2 e
    exact .inl ⟨a, vs, k, y, rfl, rfl, s.seq h1, z1, q y z2⟩
  | str z =>
    cases rep_str h
    simp only [oIxD] at e
    split at e
    · rename_i hz
      split at e
      · rename_i c hc
        cases e
        exact .inr (.inr ⟨z, k, c, rfl, rfl, hz, hc, q _ (rep_v rfl)⟩)
      · cases e
    · cases e
  | _ => cases e
theorem n_ix : OpN K mg (r2N (rIx K)) gIx := by
  intro F H σ en L rs vs Lr en' r' st rr hs nd e Q q
  unfold gIx at e
  split at e
  · rename_i r1 r2
    split at e
    · rename_i k ek
      match vs, rr with
      | [v1, v2], rr =>
        have pk : Rep K mg H (.int k) v2 := by
          simp only [RRs] at rr
          obtain ⟨A, B, _, _, C, E, _, h2, _⟩ := rr
          exact h2.peek st ek
        cases rep_int pk
        simp only [RRs] at rr
        obtain ⟨A, B, rfl, h1, _⟩ := rr
        have base : Ext F H (L ++ (A ++ B)) F H (L ++ []) := Ext.refl.mem (fun a h => h) fun a h => by
          have h' : a ∈ L := by simpa using h
          simp [h']
        have shc : ∀ {x : D} {y : V}, Rep K mg F x y → (en, R.val (.sh x)) = (en', r') → Q y H := fun {x y} hx ee => by
          cases ee
          exact q y F H L [] st (by simp only [RR]; exact own_sh hx) (by simpa using st.nd) base
        split at e
        · rename_i d
          split at e
          · rename_i x ex
            simp only [Option.some.injEq] at e
            simp only [RR, Own] at h1
            exact ⟨_, _, rfl, ixD_ok st.sub h1.1 ex fun y hy => shc hy e⟩
          · cases e
        · rename_i ws
          split at e
          · rename_i w ew
            cases e
            simp only [RR, Own] at h1
            obtain ⟨a, xs, A', rfl, ha, hfa, rfl, ho⟩ := h1
            obtain ⟨j, e1, e2, e3⟩ := at_of ho.len ew
            obtain ⟨y, La, Lm, Lb, g1, g2, g3, _⟩ := ho.get e2
            subst g2
            refine ⟨_, _, rfl, .inl ⟨a, xs, k, y, rfl, rfl, SqL.of ha, e3 y g1, ?_⟩⟩
            refine q y F H L Lm st (by simp only [RR]; exact g3) ?_ (Ext.refl.mem (fun a h => h) fun c hc => ?_)
            · obtain ⟨n1, n2, n3⟩ := nd_app nd
              refine nd_of n1 ?_ fun c hc hc' => n3 c hc (by simp [hc'])
              have m1 := (nd_app n2).1
              have m2 := (List.nodup_cons.mp m1).2
              exact (nd_app (nd_app m2).2.1).1
            · simp only [List.mem_append] at hc ⊢
              rcases hc with z | z <;> simp [z]
          · cases e
        · rename_i i
          have hv := h1
          simp only [RR] at hv
          obtain ⟨rfl, hσ⟩ := hv
          split at e
          · rename_i d hd
            split at e
            · rename_i x ex
              simp only [Option.some.injEq] at e
              obtain ⟨o, La, Lm, Lb, g1, g2, g3, _⟩ := st.own.get hd
              rw [hσ] at g1
              cases g1
              rcases g3 with ⟨v', ev, ho⟩ | ⟨ev, _⟩
              · cases ev
                simp only [Own] at ho
                exact ⟨_, _, rfl, ixD_ok st.sub ho.1 ex fun y hy => shc hy e⟩
              · cases ev
            · cases e
          · rename_i ws hw
            obtain ⟨w0, La, Lm, Lb, P⟩ := part_name st.own hσ
            have hw0 : w0 = .lst ws := by
              have := P.1
              simp only [En.get, hw, W.get, Option.some.injEq] at this
              exact this.symm
            subst hw0
            obtain ⟨_, eL, o, kk⟩ := P
            have o2 := o
            simp only [Own] at o2
            obtain ⟨a, xs, A', rfl, ha, hfa, rfl, ho⟩ := o2
            split at e
            · rename_i j hj
              have atv : ∀ {w : W}, ws[j]? = some w → ∃ y La Lm Lb, xs[j]? = some y ∧ atI xs k = some y ∧ A' = La ++ (Lm ++ Lb) ∧ Own K mg F H w y Lm ∧
                  ∀ (F' H' : Hp) (w' : W) (v' : V) (Lm' : List Addr), Stay F H F' H' (La ++ Lb) → Own K mg F' H' w' v' Lm' → Owns K mg F' H' (ws.set j w') (xs.set j v') (La ++ (Lm' ++ Lb)) := fun {w} ew => by
                obtain ⟨y, La, Lm, Lb, g1, g2, g3, g4⟩ := ho.get ew
                refine ⟨y, La, Lm, Lb, g1, ?_, g2, g3, g4⟩
                unfold atI
                rw [← ho.len, hj]
                exact g1
              split at e
              · rename_i d hd
                simp only [Option.some.injEq] at e
                obtain ⟨y, _, _, _, _, z2, _, z4, _⟩ := atv hd
                simp only [Own] at z4
                exact ⟨_, _, rfl, .inl ⟨a, xs, k, y, rfl, rfl, SqL.of ha, z2, shc z4.1 e⟩⟩
              · rename_i w1 hne hw1
                cases e
                obtain ⟨y, Ma, Mm, Mb, z1, z2, z3, z4, z5⟩ := atv hw1
                subst z3 eL
                refine ⟨_, _, rfl, .inl ⟨a, xs, k, y, rfl, rfl, SqL.of ha, z2, ?_⟩⟩
                refine q y F H _ [] st ?_ (by simpa using st.nd) base
                simp only [RR]
                refine ⟨trivial, w1, La ++ (a :: Ma), Mm, Mb ++ Lb, ?_, by simp, z4, fun F' H' w' Lm' s' o' => ?_⟩
                · simp only [En.get, hw, W.get, hw1]
                · have s1 : Stay F H F' H' (Ma ++ Mb) := s'.less fun c hc => by
                    rcases List.mem_append.mp hc with z | z <;> simp [z]
                  have s2 : Stay F H F' H' (La ++ Lb) := s'.less fun c hc => by
                    rcases List.mem_append.mp hc with z | z <;> simp [z]
                  have q1 := z5 F' H' w' y Lm' s1 o'
                  rw [set_get z1] at q1
                  have q2 : Own K mg F' H' (.lst (ws.set j w')) (.ref a) (a :: (Ma ++ (Lm' ++ Mb))) := by
                    simp only [Own]
                    exact ⟨a, xs, _, rfl, (s'.eq a (by simp)).trans ha, s'.out a (by simp), rfl, q1⟩
                  have q3 := kk F' H' _ _ s2 q2
                  have ep : en.put i [j] w' = en.put i [] (.lst (ws.set j w')) := by
                    simp only [En.put, hw, W.put, hw1]
                  rw [ep]
                  simpa using q3
              · cases e
            · cases e
          · cases e
        · cases e
      | [], rr => simp only [RRs] at rr
      | [_], rr =>
        simp only [RRs] at rr
        obtain ⟨_, _, _, _, h⟩ := rr
        exact h.elim
      | _ :: _ :: _ :: _, rr =>
        simp only [RRs] at rr
        obtain ⟨_, _, _, _, _, _, _, _, h⟩ := rr
        exact h.elim
    · cases e
  · cases e
end
def fIx (fa fb : FE) : FE := fN gIx [fa, fb]
theorem se_ix {X : Cx} {a b : Expr} {fa fb : FE} {pos : Pos} (ha : SE X a fa) (hb : SE X b fb) (hs : PlainIx b := by exact fun _ _ => rfl) : SE X (.Subscript a b pos) (fIx fa fb) :=
  pe_imp (pe_ix ix_seq ha hb hs) fun σ H Q q => tEv_two (op_behind n_ix q)
end Pu

/-! Pu7: slices, kinds, built-ins of one argument, chains. -/
namespace Pu
open PySem PySem.Spec PyProof.Rows L2

/-! ### slices -/
def cutG {α : Type} (xs : List α) (lo hi : Option Int) : List α := (xs.drop (HT.sIx xs.length 0 lo)).take (HT.sIx xs.length xs.length hi - HT.sIx xs.length 0 lo)
section
variable {K : PySem.W.Frag} {mg : Str → Option Value}
theorem reps_drop {F : Hp} : ∀ {ds : List D} {vs : List V} (n : Nat), Reps K mg F ds vs → Reps K mg F (ds.drop n) (vs.drop n)
  | _, _, 0, h => h
  | [], [], _ + 1, h => h
  | _ :: _, _ :: _, n + 1, h => by
    simp only [Reps] at h
    exact reps_drop n h.2
  | [], _ :: _, _ + 1, h => by simp only [Reps] at h
  | _ :: _, [], _ + 1, h => by simp only [Reps] at h
theorem reps_take {F : Hp} : ∀ {ds : List D} {vs : List V} (n : Nat), Reps K mg F ds vs → Reps K mg F (ds.take n) (vs.take n)
  | _, _, 0, h => by simp only [List.take_zero, Reps]
  | [], [], _ + 1, h => by simp only [List.take_nil, Reps]
  | _ :: _, _ :: _, n + 1, h => by
    simp only [Reps] at h
    simp only [List.take_succ_cons, Reps]
    exact ⟨h.1, reps_take n h.2⟩
  | [], _ :: _, _ + 1, h => by simp only [Reps] at h
  | _ :: _, [], _ + 1, h => by simp only [Reps] at h
theorem reps_cut {F : Hp} {ds : List D} {vs : List V} {lo hi : Option Int} (h : Reps K mg F ds vs) : Reps K mg F (cutG ds lo hi) (cutV vs lo hi) := by
  unfold cutG cutV
  rw [h.len]
  exact reps_take _ (reps_drop _ h)
end
/-- the parts of a slice among the results -/
def sPart (en : En) : List (Bool × R) → Option (List (Option Int))
  | [] => some []
  | (true, r) :: rs => match r.d en, sPart en rs with
    | some (.int i), some os => some (some i :: os)
    | _, _ => none
  | (false, _) :: rs => match sPart en rs with
    | some os => some (none :: os)
    | none => none
def slOf (en : En) (r : R) (lo hi : Option Int) : Option (En × R) := match r.d en with
  | some (.str x) => if x.length ≤ sizeLine then some (en, .val (.sh (.str (cutS x lo hi)))) else none
  | _ => match r.els en with
    | some (en', .t, ds) => some (en', .val (.sh (.tup (cutG ds lo hi))))
    | some (en', _, ds) => some (en', .val (.lst ((cutG ds lo hi).map W.sh)))
    | none => none
/-- a slice by values -/
def rSlAll (K : PySem.W.Frag) : V → Option Int → Option Int → Hp → VK → Prop := fun x lo hi H Q => rSlL K x lo hi H Q ∨ (rSlA K x lo hi H Q ∨ rSlS x lo hi H Q)
theorem sl_all {X : Cx} : SlR X (rSlAll X.K) := sl_list.or (sl_tupA.or sl_str)
section
variable {K : PySem.W.Frag} {mg : Str → Option Value}
theorem slOf_ok {F H : Hp} {σ : L2.St} {en en' : En} {L Lr : List Addr} {r r' : R} {v : V} {lo hi : Option Int} {Q : VK} (st : StOk K mg F H σ en L) (h : RR K mg F H σ en L r v Lr) (nd : (L ++ Lr).Nodup) (e : slOf en r lo hi = some (en', r'))
    (q : ∀ v F' H' L' Lr', StOk K mg F' H' σ en' L' → RR K mg F' H' σ en' L' r' v Lr' → (L' ++ Lr').Nodup → Ext F H (L ++ Lr) F' H' (L' ++ Lr') → Q v H') : rSlAll K v lo hi H Q := by
  unfold slOf at e
  split at e
  · rename_i x hx
    split at e
    · rename_i hl
      cases e
      cases rep_str (h.peek st hx)
      exact .inr (.inr ⟨x, rfl, hl, q _ F H L [] st (by simp only [RR]; exact own_sh (rep_v rfl)) (by simpa using st.nd) (Ext.refl.mem (fun _ h => h) fun a h => by
        have h' : a ∈ L := by simpa using h
        simp [h'])⟩)
    · cases e
  · split at e
    · rename_i en1 ds e1
      cases e
      obtain ⟨F1, L1, st1, ⟨a, vs, rfl, ⟨s1, s2⟩, rp⟩, x1⟩ := h.els st nd e1
      refine .inr (.inl ⟨a, vs, rfl, s1.1, fun hw => ?_, fun hw p hp => ?_⟩)
      · have ec : cutV vs lo hi = vs := by
          unfold cutV
          rw [hw.1, hw.2]
          simp
        have r1 := reps_cut (lo := lo) (hi := hi) rp
        rw [ec] at r1
        refine q (.ref a) F1 H L1 [] st1 (by simp only [RR]; exact own_sh (by simp only [Rep]; exact ⟨a, vs, rfl, s2 rfl, r1⟩)) (by simpa using st1.nd) (x1.mem (fun _ h => h) fun a h => by simpa using h)
      · obtain ⟨z1, z2, z3, z4⟩ := lay_tup st1 hp (reps_cut (lo := lo) (hi := hi) rp)
        exact q _ _ _ _ _ z1 z2 z3 (x1.trans z4)
    · rename_i en1 k ds hk e1
      cases e
      obtain ⟨F1, L1, st1, ⟨a, vs, rfl, ⟨s1, s2⟩, rp⟩, x1⟩ := h.els st nd e1
      refine .inl ⟨a, vs, rfl, s1.lst (fun z => hk z), fun p hp => ?_⟩
      obtain ⟨z1, z2, z3, z4⟩ := lay_list st1 hp (owns_sh (reps_cut (lo := lo) (hi := hi) rp)) (by simpa using st1.nd)
      exact q _ _ _ _ _ z1 z2 z3 (x1.trans (z4.mem (fun a h => by simpa using h) fun a h => h))
    · cases e
end
def gSl0 : En → R → Option (En × R) := fun en r => slOf en r none none
def gSlLo : En → List R → Option (En × R)
  | en, [r, r1] => match r1.d en with
    | some (.int i) => slOf en r (some i) none
    | _ => none
  | _, _ => none
def gSlHi : En → List R → Option (En × R)
  | en, [r, r1] => match r1.d en with
    | some (.int i) => slOf en r none (some i)
    | _ => none
  | _, _ => none
def gSl2 : En → List R → Option (En × R)
  | en, [r, r1, r2] => match r1.d en, r2.d en with
    | some (.int i), some (.int j) => slOf en r (some i) (some j)
    | _, _ => none
  | _, _ => none
section
variable {K : PySem.W.Frag} {mg : Str → Option Value}
theorem slOf_list {F H : Hp} {σ : L2.St} {en en' : En} {L Lr : List Addr} {r r' : R} {rs : List R} {vs : List V} {v : V} {lo hi : Option Int} {Q : VK} (st : StOk K mg F H σ en L) (h : RRs K mg F H σ en L (r :: rs) (v :: vs) Lr) (nd : (L ++ Lr).Nodup) (e : slOf en r lo hi = some (en', r'))
    (q : ∀ v F' H' L' Lr', StOk K mg F' H' σ en' L' → RR K mg F' H' σ en' L' r' v Lr' → (L' ++ Lr').Nodup → Ext F H (L ++ Lr) F' H' (L' ++ Lr') → Q v H') : rSlAll K v lo hi H Q := by
  simp only [RRs] at h
  obtain ⟨A, B, rfl, h1, _⟩ := h
  have nd1 : (L ++ A).Nodup := (nd_app (by simpa using nd : (L ++ A ++ B).Nodup)).1
  exact slOf_ok st h1 nd1 e fun v F' H' L' Lr' a b c d => q v F' H' L' Lr' a b c (d.mem (fun a h => by
    simp only [List.mem_append] at h ⊢
    rcases h with z | z <;> simp [z]) fun a h => h)
theorem rrs2 {F H : Hp} {σ : L2.St} {en : En} {L Lr : List Addr} {r1 r2 : R} {vs : List V} (h : RRs K mg F H σ en L [r1, r2] vs Lr) : ∃ v1 v2 A B, vs = [v1, v2] ∧ Lr = A ++ B ∧ RR K mg F H σ en L r1 v1 A ∧ RR K mg F H σ en L r2 v2 B := by
  match vs, h with
  | [v1, v2], h =>
    simp only [RRs] at h
    obtain ⟨A, B, rfl, h1, C, E, e0, h2, rfl⟩ := h
    exact ⟨v1, v2, A, C, rfl, by rw [e0]; simp, h1, h2⟩
  | [], h => simp only [RRs] at h
  | [_], h =>
    simp only [RRs] at h
    obtain ⟨_, _, _, _, h⟩ := h
    exact h.elim
  | _ :: _ :: _ :: _, h =>
    simp only [RRs] at h
    obtain ⟨_, _, _, _, _, _, _, _, h⟩ := h
    exact h.elim
theorem rrs3 {F H : Hp} {σ : L2.St} {en : En} {L Lr : List Addr} {r1 r2 r3 : R} {vs : List V} (h : RRs K mg F H σ en L [r1, r2, r3] vs Lr) : ∃ v1 v2 v3 A B C, vs = [v1, v2, v3] ∧ RR K mg F H σ en L r1 v1 A ∧ RR K mg F H σ en L r2 v2 B ∧ RR K mg F H σ en L r3 v3 C := by
  match vs, h with
  | v1 :: vs, h =>
    simp only [RRs] at h
    obtain ⟨A, B, rfl, h1, h2⟩ := h
    obtain ⟨v2, v3, C, E, rfl, _, h3, h4⟩ := rrs2 h2
    exact ⟨v1, v2, v3, A, C, E, rfl, h1, h3, h4⟩
  | [], h => simp only [RRs] at h
end
def tSl1 (r : V → Option Int → Option Int → Hp → VK → Prop) : List V → Hp → VK → Prop := fun vs H Q => ∃ x, vs = [x] ∧ r x none none H Q
section
variable {X : Cx} {e : Expr} {lo hi : Expr} {fe fl fh : FE} {pos p2 : Pos}
theorem se_sl0 (he : SE X e fe) : SE X (.Subscript e (.Slice none none none p2) pos) (fU gSl0 fe) :=
  pe_imp (pe_slice sl_all he po_none po_none) fun σ H Q q => by
    have o : OpU X.K X.mg (fun vs H Q => ∃ x, vs = [x] ∧ rSlAll X.K x none none H Q) gSl0 := fun F H σ en L r0 v Lr en' r' st rr nd e Q q => ⟨v, rfl, slOf_ok st rr nd e q⟩
    obtain ⟨F, en, L, en1, r, st, e1, k⟩ := op1_behind o q
    exact ⟨F, en, L, en1, r, st, e1, fun v F1 H1 L1 Lr st1 rr nd x1 => by
      obtain ⟨x, ex, z⟩ := k v F1 H1 L1 Lr st1 rr nd x1
      cases ex
      exact z⟩
theorem se_slLo (he : SE X e fe) (hl : SE X lo fl) : SE X (.Subscript e (.Slice (some lo) none none p2) pos) (fN gSlLo [fe, fl]) :=
  pe_imp (pe_slice sl_all he (po_some hl) po_none) fun σ H Q q => by
    have o : OpN X.K X.mg (r2N fun x y H Q => ∃ i, y = .int i ∧ rSlAll X.K x (some i) none H Q) gSlLo := fun F H σ en L rs vs Lr en' r' st rr hs nd e Q q => by
      unfold gSlLo at e
      split at e
      · split at e
        · rename_i i hi
          obtain ⟨v1, v2, A, B, rfl, rfl, h1, h2⟩ := rrs2 rr
          cases rep_int (h2.peek st hi)
          exact ⟨_, _, rfl, i, rfl, slOf_list st rr nd e q⟩
        · cases e
      · cases e
    exact tEv_two (op_behind o q)
theorem se_slHi (he : SE X e fe) (hl : SE X hi fh) : SE X (.Subscript e (.Slice none (some hi) none p2) pos) (fN gSlHi [fe, fh]) :=
  pe_imp (pe_slice sl_all he po_none (po_some hl)) fun σ H Q q => by
    have o : OpN X.K X.mg (r2N fun x y H Q => ∃ i, y = .int i ∧ rSlAll X.K x none (some i) H Q) gSlHi := fun F H σ en L rs vs Lr en' r' st rr hs nd e Q q => by
      unfold gSlHi at e
      split at e
      · split at e
        · rename_i i hi
          obtain ⟨v1, v2, A, B, rfl, rfl, h1, h2⟩ := rrs2 rr
          cases rep_int (h2.peek st hi)
          exact ⟨_, _, rfl, i, rfl, slOf_list st rr nd e q⟩
        · cases e
      · cases e
    exact tEv_two (op_behind o q)
/-- one more expression behind results that stay -/
theorem ev_then {K : PySem.W.Frag} {mg : Str → Option Value} {F H : Hp} {σ : L2.St} {en en' : En} {L Lr : List Addr} {rs : List R} {vs : List V} {f : FE} {r : R} {Q : VK} (st : StOk K mg F H σ en L) (rr : RRs K mg F H σ en L rs vs Lr) (hs : ∀ r ∈ rs, r.stable = true) (nd : (L ++ Lr).Nodup) (e : f en = some (en', r))
    (q : ∀ v F' H' L' Lr', StOk K mg F' H' σ en' L' → RRs K mg F' H' σ en' L' rs vs Lr → RR K mg F' H' σ en' L' r v Lr' → (L' ++ (Lr ++ Lr')).Nodup → Ext F H (L ++ Lr) F' H' (L' ++ (Lr ++ Lr')) → Q v H') : tS K mg f σ H Q := by
  refine ⟨F, en, L, en', r, st, e, fun v F3 H3 L3 Lr3 st3 rr3 nd3 x3 => ?_⟩
  obtain ⟨a1, a2, a3⟩ := nd_app nd
  obtain ⟨b1, b2, b3⟩ := nd_app nd3
  have dj : ∀ b ∈ Lr, b ∉ L := fun b hb hb' => a3 b hb' hb
  have k2 := RRs.keep (en' := en') (L' := L3) rr hs (x3.mem (fun _ h => h) fun a h => by simp [h]) dj
  have ap := x3.apart (M := Lr) fun b hb => ⟨dj b hb, (rr.cell b hb).1.1⟩
  refine q v F3 H3 L3 Lr3 st3 k2 rr3 ?_ ?_
  · refine nd_of b1 (nd_of a2 b2 fun b hb hb' => ap b (by simp [hb']) b hb rfl) fun b hb hb' => ?_
    rcases List.mem_append.mp hb' with z | z
    · exact ap b (by simp [hb]) b z rfl
    · exact b3 b hb z
  · refine (x3.frame Lr).mem (fun a h => h) fun a ha => ?_
    simp only [List.mem_append] at ha ⊢
    rcases ha with z | z | z <;> simp [z]
def fSl2 (fe fl fh : FE) : FE := fun en => match evs [fe, fl] en with
  | some (en1, [r, r1]) => match r1.d en1 with
    | some (.int i) => match fh en1 with
      | none => none
      | some (en2, r2) => match r2.d en2 with
        | some (.int j) => slOf en2 r (some i) (some j)
        | _ => none
    | _ => none
  | _ => none
theorem se_sl2 (he : SE X e fe) (hl : SE X lo fl) (hh : SE X hi fh) : SE X (.Subscript e (.Slice (some lo) (some hi) none p2) pos) (fSl2 fe fl fh) :=
  pe_imp (pe_slice sl_all he (po_some hl) (po_some hh)) fun σ H Q q => by
    obtain ⟨F, en, L, en', r', st, e, k⟩ := q
    unfold fSl2 at e
    split at e
    · rename_i en1 r r1 e1
      split at e
      · rename_i i hi
        split at e
        · cases e
        rename_i en2 r2 e2
        split at e
        · rename_i j hj
          refine tEv_two (K := X.K) (mg := X.mg) (R := fun a b H2 => ∃ i, b = .int i ∧ tS X.K X.mg fh σ H2 fun c H3 => ∃ j, c = .int j ∧ rSlAll X.K a (some i) (some j) H3 Q) ⟨F, en, L, en1, [r, r1], st, e1, fun vs F1 H1 L1 Lr1 st1 rr1 nd1 x1 => ?_⟩
          obtain ⟨v1, v2, A, B, rfl, rfl, h1, h2⟩ := rrs2 rr1
          refine ⟨v1, v2, rfl, i, rep_int (h2.peek st1 hi), ?_⟩
          refine ev_then st1 rr1 (evs_stable e1) nd1 e2 fun v F2 H2 L2 Lr2 st2 rrs rr2 nd2 x2 => ⟨j, rep_int (rr2.peek st2 hj), ?_⟩
          have nd3 : (L2 ++ (A ++ B)).Nodup := (nd_app (by simpa using nd2 : (L2 ++ (A ++ B) ++ Lr2).Nodup)).1
          refine slOf_list st2 rrs nd3 e fun v F' H' L' Lr' a b c d => k v F' H' L' Lr' a b c (x1.trans (x2.trans (d.mem (fun a h => ?_) fun a h => h)))
          simp only [List.mem_append] at h ⊢
          rcases h with z | z | z <;> simp [z]
        · cases e
      · cases e
    · cases e
end

/-! ### built-ins of one argument -/
section
variable {X : Cx} {e : Expr} {f : FE} {p pos : Pos} {x : Str} {r : List V → Hp → VK → Prop} {g : En → R → Option (En × R)}
theorem tCB_one {K : PySem.W.Frag} {mg : Str → Option Value} {σ : L2.St} {H : Hp} {Q : VK} (h : tS K mg f σ H fun v H' => r [v] H' Q) : tCB r (tCons (tS K mg f) tNil) σ H Q := h
theorem se_callB {id : String} (hc : CallR X (.builtin id) r) (o : OpU X.K X.mg r g) (hg : Gl X x) (hm : X.mg x = none) (hv : bootBuiltins x = some (.builtin id)) (he : SE X e f) (hn : x ≠ "__name__" := by decide) (hdb : (x == ("__debug__" : Str)) = false := by decide) (hs : starEach [e] X.env = [(false, eval e X.env)] := by rfl) :
    SE X (.Call (.Name x p) [e] [] pos) (fU g f) :=
  pe_imp (pe_callB hc hg hm hv (pa_cons he pa_nil hs) hn hdb hs rfl) fun σ H Q q => op1_behind o q
theorem se_callTy {T : String} (hc : CallR X (.type T) r) (o : OpU X.K X.mg r g) (hg : Gl X x) (hm : X.mg x = none) (hv : bootBuiltins x = some (.type T)) (he : SE X e f) (hn : x ≠ "__name__" := by decide) (hdb : (x == ("__debug__" : Str)) = false := by decide) (hs : starEach [e] X.env = [(false, eval e X.env)] := by rfl) :
    SE X (.Call (.Name x p) [e] [] pos) (fU g f) :=
  pe_imp (pe_callTy hc hg hm hv (pa_cons he pa_nil hs) hn hdb hs rfl) fun σ H Q q => op1_behind o q
end
def oLen : D → Option D
  | .str x => if x.length ≤ sizeLine then some (.int x.length) else none
  | .tup ds => some (.int ds.length)
  | .lst ds => some (.int ds.length)
  | .frl ds => some (.int ds.length)
  | .dK ks _ => some (.int ks.length)
  | _ => none
def rLenAll (K : PySem.W.Frag) : List V → Hp → VK → Prop := fun xs H Q => (∃ x n, xs = [x] ∧ LenV K x H n ∧ Q (.int n) H) ∨ ∃ a kvs, xs = [V.ref a] ∧ H a = some (.dK kvs) ∧ Q (.int kvs.length) H
theorem call_or {X : Cx} {f : Value} {r r' : List V → Hp → VK → Prop} (h : CallR X f r) (h' : CallR X f r') : CallR X f (fun xs H Q => r xs H Q ∨ r' xs H Q) := by
  intro pins s σ H xs us Q I rs q
  rcases q with q | q
  · exact h pins s σ H xs us Q I rs q
  · exact h' pins s σ H xs us Q I rs q
def oAbs : D → Option D
  | .int i => some (.int (if i < 0 then -i else i))
  | _ => none
def oInt : D → Option D
  | .int i => some (.int i)
  | .bl k => some (.int (if k then 1 else 0))
  | _ => none
/-- a list of bools, of ints -/
def D.bls : List D → Option (List Bool)
  | [] => some []
  | .bl b :: ds => match D.bls ds with
    | some bs => some (b :: bs)
    | none => none
  | _ => none
def D.ints : List D → Option (List Int)
  | [] => some []
  | .int b :: ds => match D.ints ds with
    | some bs => some (b :: bs)
    | none => none
  | _ => none
def D.strs : List D → Option (List Str)
  | [] => some []
  | .str b :: ds => match D.strs ds with
    | some bs => some (b :: bs)
    | none => none
  | _ => none
def D.litems : D → Option (List D)
  | .lst ds => some ds
  | .frl ds => some ds
  | _ => none
def oAll (d : D) : Option D := match d.litems with
  | some ds => match D.bls ds with
    | some bs => some (.bl (bs.all id))
    | none => none
  | none => none
def oAny (d : D) : Option D := match d.litems with
  | some ds => match D.bls ds with
    | some bs => some (.bl (bs.any id))
    | none => none
  | none => none
def oSum (d : D) : Option D := match d.litems with
  | some ds => match D.ints ds with
    | some bs => some (.int bs.sum)
    | none => none
  | none => none
section
variable {K : PySem.W.Frag} {mg : Str → Option Value} {H : Hp}
theorem pk_len : PkU K mg (rLenAll K) oLen := by
  intro a va H d h e
  cases a with
  | str x =>
    simp only [oLen] at e
    split at e
    · rename_i hx
      cases e
      cases rep_str h
      exact ⟨_, rfl, fun Q q => .inl ⟨_, x.length, rfl, ⟨hx, rfl⟩, q⟩⟩
    · cases e
  | tup ds =>
    simp only [oLen, Option.some.injEq] at e
    subst e
    simp only [Rep] at h
    obtain ⟨a, vs, rfl, h1, h2⟩ := h
    exact ⟨_, rfl, fun Q q => .inl ⟨_, _, rfl, .inr ⟨vs, h1.1, rfl⟩, by rw [← h2.len]; exact q⟩⟩
  | lst ds =>
    simp only [oLen, Option.some.injEq] at e
    subst e
    simp only [Rep] at h
    obtain ⟨a, vs, rfl, h1, h2⟩ := h
    exact ⟨_, rfl, fun Q q => .inl ⟨_, _, rfl, .inl ⟨vs, SqL.of h1, rfl⟩, by rw [← h2.len]; exact q⟩⟩
  | frl ds =>
    simp only [oLen, Option.some.injEq] at e
    subst e
    simp only [Rep] at h
    obtain ⟨a, vs, rfl, h1, h2⟩ := h
    exact ⟨_, rfl, fun Q q => .inl ⟨_, _, rfl, .inl ⟨vs, h1, rfl⟩, by rw [← h2.len]; exact q⟩⟩
  | dK ks ds =>
    simp only [oLen, Option.some.injEq] at e
    subst e
    simp only [Rep] at h
    obtain ⟨a, kws, rfl, h1, h2, h3⟩ := h
    exact ⟨_, rfl, fun Q q => .inr ⟨a, kws, rfl, h1, by rw [← h2, List.length_map] at q; exact q⟩⟩
  | _ => cases e
theorem pk_abs : PkU K mg (fun xs H Q => ∃ i, xs = [.int i] ∧ Q (.int (if i < 0 then -i else i)) H) oAbs := by
  intro a va H d h e
  cases a <;> first | (cases e; done) | skip
  cases e
  cases rep_int h
  exact ⟨_, rfl, fun Q q => ⟨_, rfl, q⟩⟩
theorem pk_int : PkU K mg (fun xs H Q => (∃ i, xs = [.int i] ∧ Q (.int i) H) ∨ ∃ k, xs = [.bl k] ∧ Q (.int (if k then 1 else 0)) H) oInt := by
  intro a va H d h e
  cases a <;> first | (cases e; done) | skip
  · cases e
    cases rep_bl h
    exact ⟨_, rfl, fun Q q => .inr ⟨_, rfl, q⟩⟩
  · cases e
    cases rep_int h
    exact ⟨_, rfl, fun Q q => .inl ⟨_, rfl, q⟩⟩
theorem reps_bls : ∀ {ds : List D} {vs : List V} {bs : List Bool}, Reps K mg H ds vs → D.bls ds = some bs → vs = bs.map V.bl
  | [], [], bs, _, e => by simp only [D.bls, Option.some.injEq] at e; subst e; rfl
  | .bl b :: ds, v :: vs, bs, h, e => by
    simp only [D.bls] at e
    split at e
    · rename_i bs' e1
      cases e
      simp only [Reps] at h
      rw [List.map_cons, ← reps_bls h.2 e1, rep_bl h.1]
    · cases e
  | [], _ :: _, _, h, _ => by simp only [Reps] at h
  | .bl _ :: _, [], _, h, _ => by simp only [Reps] at h
  | .any :: _, _, _, _, e => by simp [D.bls] at e
  | .non :: _, _, _, _, e => by simp [D.bls] at e
  | .int _ :: _, _, _, _, e => by simp [D.bls] at e
  | .str _ :: _, _, _, _, e => by simp [D.bls] at e
  | .tup _ :: _, _, _, _, e => by simp [D.bls] at e
  | .lst _ :: _, _, _, _, e => by simp [D.bls] at e
  | .frl _ :: _, _, _, _, e => by simp [D.bls] at e
  | .dT _ _ :: _, _, _, _, e => by simp [D.bls] at e
  | .lT _ _ :: _, _, _, _, e => by simp [D.bls] at e
  | .dK _ _ :: _, _, _, _, e => by simp [D.bls] at e
  | .ins _ _ :: _, _, _, _, e => by simp [D.bls] at e
theorem reps_ints : ∀ {ds : List D} {vs : List V} {bs : List Int}, Reps K mg H ds vs → D.ints ds = some bs → vs = bs.map V.int
  | [], [], bs, _, e => by simp only [D.ints, Option.some.injEq] at e; subst e; rfl
  | .int b :: ds, v :: vs, bs, h, e => by
    simp only [D.ints] at e
    split at e
    · rename_i bs' e1
      cases e
      simp only [Reps] at h
      rw [List.map_cons, ← reps_ints h.2 e1, rep_int h.1]
    · cases e
  | [], _ :: _, _, h, _ => by simp only [Reps] at h
  | .int _ :: _, [], _, h, _ => by simp only [Reps] at h
  | .any :: _, _, _, _, e => by simp [D.ints] at e
  | .non :: _, _, _, _, e => by simp [D.ints] at e
  | .bl _ :: _, _, _, _, e => by simp [D.ints] at e
  | .str _ :: _, _, _, _, e => by simp [D.ints] at e
  | .tup _ :: _, _, _, _, e => by simp [D.ints] at e
  | .lst _ :: _, _, _, _, e => by simp [D.ints] at e
  | .frl _ :: _, _, _, _, e => by simp [D.ints] at e
  | .dT _ _ :: _, _, _, _, e => by simp [D.ints] at e
  | .lT _ _ :: _, _, _, _, e => by simp [D.ints] at e
  | .dK _ _ :: _, _, _, _, e => by simp [D.ints] at e
  | .ins _ _ :: _, _, _, _, e => by simp [D.ints] at e
theorem reps_strs : ∀ {ds : List D} {vs : List V} {bs : List Str}, Reps K mg H ds vs → D.strs ds = some bs → vs = bs.map V.str
  | [], [], bs, _, e => by simp only [D.strs, Option.some.injEq] at e; subst e; rfl
  | .str b :: ds, v :: vs, bs, h, e => by
    simp only [D.strs] at e
    split at e
    · rename_i bs' e1
      cases e
      simp only [Reps] at h
      rw [List.map_cons, ← reps_strs h.2 e1, rep_str h.1]
    · cases e
  | [], _ :: _, _, h, _ => by simp only [Reps] at h
  | .str _ :: _, [], _, h, _ => by simp only [Reps] at h
  | .any :: _, _, _, _, e => by simp [D.strs] at e
  | .non :: _, _, _, _, e => by simp [D.strs] at e
  | .bl _ :: _, _, _, _, e => by simp [D.strs] at e
  | .int _ :: _, _, _, _, e => by simp [D.strs] at e
  | .tup _ :: _, _, _, _, e => by simp [D.strs] at e
  | .lst _ :: _, _, _, _, e => by simp [D.strs] at e
  | .frl _ :: _, _, _, _, e => by simp [D.strs] at e
  | .dT _ _ :: _, _, _, _, e => by simp [D.strs] at e
  | .lT _ _ :: _, _, _, _, e => by simp [D.strs] at e
  | .dK _ _ :: _, _, _, _, e => by simp [D.strs] at e
  | .ins _ _ :: _, _, _, _, e => by simp [D.strs] at e
theorem rep_litems {d : D} {v : V} {ds : List D} (h : Rep K mg H d v) (e : d.litems = some ds) : ∃ a vs, v = .ref a ∧ SqL K H a vs ∧ Reps K mg H ds vs := by
  cases d <;> simp only [D.litems, Option.some.injEq] at e <;> first
    | (cases e; done)
    | (subst e
       simp only [Rep] at h
       obtain ⟨a, vs, e1, h1, h2⟩ := h
       first
       | exact ⟨a, vs, e1, h1, h2⟩
       | exact ⟨a, vs, e1, SqL.of h1, h2⟩)
theorem pk_all : PkU K mg (rAll K) oAll := by
  intro a va H d h e
  unfold oAll at e
  split at e
  · rename_i ds e1
    split at e
    · rename_i bs e2
      cases e
      obtain ⟨p, vs, rfl, h1, h2⟩ := rep_litems h e1
      have := reps_bls h2 e2
      subst this
      exact ⟨_, rfl, fun Q q => ⟨p, bs, rfl, h1, q⟩⟩
    · cases e
  · cases e
theorem pk_any : PkU K mg (rAny K) oAny := by
  intro a va H d h e
  unfold oAny at e
  split at e
  · rename_i ds e1
    split at e
    · rename_i bs e2
      cases e
      obtain ⟨p, vs, rfl, h1, h2⟩ := rep_litems h e1
      have := reps_bls h2 e2
      subst this
      exact ⟨_, rfl, fun Q q => ⟨p, bs, rfl, h1, q⟩⟩
    · cases e
  · cases e
theorem pk_sum : PkU K mg (rSum K) oSum := by
  intro a va H d h e
  unfold oSum at e
  split at e
  · rename_i ds e1
    split at e
    · rename_i bs e2
      cases e
      obtain ⟨p, vs, rfl, h1, h2⟩ := rep_litems h e1
      have := reps_ints h2 e2
      subst this
      exact ⟨_, rfl, fun Q q => ⟨p, bs, rfl, h1, q⟩⟩
    · cases e
  · cases e
/-- list(x), tuple(x) -/
def gList : En → R → Option (En × R) := fun en r => match r.els en with
  | some (en', _, ds) => some (en', .val (.lst (ds.map W.sh)))
  | none => none
def gTuple : En → R → Option (En × R) := fun en r => match r.els en with
  | some (en', _, ds) => some (en', .val (.sh (.tup ds)))
  | none => none
theorem u_list : OpU K mg (fun xs H Q => ∃ p ys, xs = [.ref p] ∧ (SqL K H p ys ∨ SqT K H p ys) ∧ ∀ l, H l = none → Q (.ref l) (upd H l (.lst ys))) gList := by
  intro F H σ en L r v Lr en' r' st h nd e Q q
  unfold gList at e
  split at e
  · rename_i en1 k ds e1
    cases e
    obtain ⟨F1, L1, st1, ⟨a, vs, rfl, ⟨s1, s2⟩, rp⟩, x1⟩ := h.els st nd e1
    refine ⟨a, vs, rfl, s1.any, fun p hp => ?_⟩
    obtain ⟨z1, z2, z3, z4⟩ := lay_list st1 hp (owns_sh rp) (by simpa using st1.nd)
    exact q _ _ _ _ _ z1 z2 z3 (x1.trans (z4.mem (fun a h => by simpa using h) fun a h => h))
  · cases e
theorem u_tuple : OpU K mg (fun xs H Q => ∃ p ys, xs = [.ref p] ∧ ((SqL K H p ys ∧ ∀ l, H l = none → Q (.ref l) (upd H l (.tup ys))) ∨ (SqT K H p ys ∧ Q (.ref p) H))) gTuple := by
  intro F H σ en L r v Lr en' r' st h nd e Q q
  unfold gTuple at e
  split at e
  · rename_i en1 k ds e1
    cases e
    obtain ⟨F1, L1, st1, ⟨a, vs, rfl, ⟨s1, s2⟩, rp⟩, x1⟩ := h.els st nd e1
    refine ⟨a, vs, rfl, ?_⟩
    have lay : SqL K H a vs → ((SqL K H a vs ∧ ∀ l, H l = none → Q (.ref l) (upd H l (.tup vs))) ∨ (SqT K H a vs ∧ Q (.ref a) H)) := fun z => Or.inl ⟨z, fun p hp => by
      obtain ⟨z1, z2, z3, z4⟩ := lay_tup st1 hp rp
      exact q _ _ _ _ _ z1 z2 z3 (x1.trans z4)⟩
    cases k with
    | t => exact .inr ⟨s1.1, q (.ref a) F1 H L1 [] st1 (by simp only [RR]; exact own_sh (by simp only [Rep]; exact ⟨a, vs, rfl, s2 rfl, rp⟩)) (by simpa using st1.nd) (x1.mem (fun _ h => h) fun a h => by simpa using h)⟩
    | l => exact lay (SqL.of s1)
    | f => exact lay s1
  · cases e
end
end Pu

/-! Pu8: isinstance, chains, calls of defs. -/
namespace Pu
open PySem PySem.Spec PyProof.Rows L2

/-! ### isinstance -/
def D.tyn : D → Option String
  | .non => some "NoneType"
  | .bl _ => some "bool"
  | .int _ => some "int"
  | .str _ => some "str"
  | .tup _ => some "tuple"
  | .lst _ => some "list"
  | .frl _ => some "list"
  | .dT _ _ => some "dict"
  | .dK _ _ => some "dict"
  | _ => none
def isiB (t : String) : List String → Option Bool
  | [] => some false
  | c :: cs => match kitB t c with
    | none => none
    | some true => some true
    | some false => isiB t cs
def oIsi (cs : List String) (d : D) : Option D := match d.tyn with
  | none => none
  | some t => match isiB t cs with
    | none => none
    | some b => some (.bl b)
section
variable {K : PySem.W.Frag} {mg : Str → Option Value} {H : Hp}
theorem tyn_ok {d : D} {v : V} {t : String} (h : Rep K mg H d v) (e : d.tyn = some t) : TyX K H v (.type t) := by
  cases d <;> simp only [D.tyn, Option.some.injEq] at e <;> first | (cases e; done) | skip
  · subst e; cases rep_non h; exact .base .non
  · subst e; cases rep_bl h; exact .base (.bl _)
  · subst e; cases rep_int h; exact .base (.int _)
  · subst e; cases rep_str h; exact .base (.str _)
  · subst e
    simp only [Rep] at h
    obtain ⟨a, vs, rfl, h1, h2⟩ := h
    rcases h1.1 with (z | ⟨o, z⟩) | ⟨o, its, n, z, c, _⟩
    · exact .base (.tup z)
    · exact .fTuple z
    · exact .kTuple z c
  · subst e
    simp only [Rep] at h
    obtain ⟨a, vs, rfl, h1, h2⟩ := h
    exact .base (.lst h1)
  · subst e
    simp only [Rep] at h
    obtain ⟨a, vs, rfl, h1, h2⟩ := h
    rcases h1 with (z | ⟨o, z⟩) | ⟨o, its, n, z, c, _⟩
    · exact .base (.lst z)
    · exact .base (.frz z)
    · exact .kList z c
  · subst e
    simp only [Rep] at h
    obtain ⟨a, vs, rfl, h1, h2⟩ := h
    exact .base (.dT h1)
  · subst e
    simp only [Rep] at h
    obtain ⟨a, vs, rfl, h1, h2⟩ := h
    exact .base (.dK h1)
theorem isiB_any {t : String} : ∀ {cs : List String} {b : Bool}, isiB t cs = some b → PySem.W.kitAny K (.type t) (cs.map Value.type) = some b
  | [], b, e => by
    simp only [isiB] at e
    rw [List.map_nil, kitAny_nil]
    exact e
  | c :: cs, b, e => by
    simp only [isiB] at e
    rw [List.map_cons]
    cases hk : kitB t c with
    | none => rw [hk] at e; cases e
    | some k =>
      rw [hk] at e
      cases k with
      | true =>
        simp only [Option.some.injEq] at e
        exact kitAny_cons (kit_ty hk) (fun z => by cases z) (fun _ => e.symm)
      | false => exact kitAny_cons (kit_ty hk) (fun _ => isiB_any e) (fun z => by cases z)
theorem pk_isi1 {c : String} : PkU K mg (fun xs H Q => ∃ x, xs = [x] ∧ rIsi K [x, .ty c] H Q) (oIsi [c]) := by
  intro a va H d h e
  unfold oIsi at e
  split at e
  · cases e
  rename_i t et
  split at e
  · cases e
  rename_i b eb
  cases e
  refine ⟨_, rfl, fun Q q => ⟨va, rfl, va, .ty c, .type t, .type c, b, rfl, .ty c, tyn_ok h et, ?_, q⟩⟩
  simp only [isiB] at eb
  cases hk : kitB t c with
  | none => rw [hk] at eb; cases eb
  | some k =>
    rw [hk] at eb
    cases k <;> (cases eb; exact kit_ty hk)
end
/-- class names as arguments -/
def tTys (ns : List String) : TA := fun _ H Q => Q (ns.map V.ty) H
theorem ty_nil {X : Cx} : PA X [] (tTys []) := pa_nil
theorem ty_cons {X : Cx} {x : Str} {p : Pos} {es : List Expr} {n : String} {ns : List String} (hg : Gl X x) (hm : X.mg x = none) (hv : bootBuiltins x = some (.type n)) (h : PA X es (tTys ns)) (hn : x ≠ "__name__" := by decide) (hd : (x == ("__debug__" : Str)) = false := by decide)
    (hs : starEach (.Name x p :: es) X.env = (false, eval (.Name x p) X.env) :: starEach es X.env := by rfl) : PA X (.Name x p :: es) (tTys (n :: ns)) :=
  pa_imp (pa_cons (pe_bltn hg hm hv (v := .ty n) rfl hn hd) h hs) fun _ _ _ q => q
section
variable {K : PySem.W.Frag} {mg : Str → Option Value}
theorem par_ty : ∀ cs : List String, Paired ClsV (cs.map V.ty) (cs.map Value.type)
  | [] => .nil
  | c :: cs => .cons (.ty c) (par_ty cs)
theorem u_isiT {cs : List String} (hl : cs.length ≤ sizeLine) : OpU K mg (fun xs H Q => ∃ x, xs = [x] ∧ (cs.map V.ty).length ≤ sizeLine ∧ ∀ p, H p = none → rIsiT K [x, .ref p] (upd H p (.tup (cs.map V.ty))) Q) (gS1 (oIsi cs)) := by
  intro F H σ en L r v Lr en' r' st h nd e Q q
  unfold gS1 at e
  split at e
  · cases e
  rename_i a e1
  split at e
  · cases e
  rename_i d e2
  cases e
  have hp := h.peek st e1
  unfold oIsi at e2
  split at e2
  · cases e2
  rename_i t et
  split at e2
  · cases e2
  rename_i b eb
  cases e2
  refine ⟨v, rfl, by simpa using hl, fun p np => ?_⟩
  obtain ⟨z1, z2⟩ := lay_frozen (o := .tup (cs.map V.ty)) st np
  refine ⟨v, p, cs.map V.ty, .type t, cs.map Value.type, b, rfl, upd_same, par_ty cs, ?_, isiB_any eb, ?_⟩
  · exact tyn_ok (hp.mono (upd_sub (Same.refl _) np)) et
  · exact q (.bl b) _ _ L [] z1 (by simp only [RR]; exact own_sh (rep_v rfl)) (by simpa using z1.nd) (z2.mem (fun a h => by simp [h]) fun a h => by simpa using h)
end

def fIsi (cs : List String) (f : FE) : FE := fU (gS1 (oIsi cs)) f
section
variable {X : Cx} {a b c e : Expr} {fa fb fc f : FE} {p p2 p3 pos : Pos}
theorem se_isi1 {x : Str} {n : String} (hi : Gl X "isinstance") (hmi : X.mg "isinstance" = none) (he : SE X e f) (hg : Gl X x) (hm : X.mg x = none) (hv : bootBuiltins x = some (.type n)) (hn : x ≠ "__name__" := by decide) (hd : (x == ("__debug__" : Str)) = false := by decide)
    (hs : starEach [e, .Name x p2] X.env = [(false, eval e X.env), (false, eval (.Name x p2) X.env)] := by rfl) : SE X (.Call (.Name "isinstance" p) [e, .Name x p2] [] pos) (fIsi [n] f) :=
  pe_imp (pe_callB call_isi hi hmi (by decide +kernel) (pa_cons he (ty_cons (ns := []) hg hm hv ty_nil hn hd) hs) (by decide) (by decide) hs rfl) fun σ H Q q => by
    have o := PkU.ok (pk_isi1 (K := X.K) (mg := X.mg) (c := n))
    obtain ⟨F, en, L, en1, r, st, e1, k⟩ := op1_behind o q
    exact ⟨F, en, L, en1, r, st, e1, fun v F1 H1 L1 Lr st1 rr nd x1 => by
      obtain ⟨x, ex, z⟩ := k v F1 H1 L1 Lr st1 rr nd x1
      cases ex
      exact z⟩
theorem se_isiT {es : List Expr} {ns : List String} {x1} (hi : Gl X "isinstance") (hmi : X.mg "isinstance" = none) (he : SE X e f) (ht : PA X es (tTys ns)) (hl : ns.length ≤ sizeLine)
    (hs : starEach [e, .Tuple es x1 p2] X.env = [(false, eval e X.env), (false, eval (.Tuple es x1 p2) X.env)] := by rfl) (hs2 : starEach [.Tuple es x1 p2] X.env = [(false, eval (.Tuple es x1 p2) X.env)] := by rfl) : SE X (.Call (.Name "isinstance" p) [e, .Tuple es x1 p2] [] pos) (fIsi ns f) :=
  pe_imp (pe_callB call_isiT hi hmi (by decide +kernel) (pa_cons he (pa_cons (pe_tup ht) pa_nil hs2) (hs.trans (by rw [hs2]))) (by decide) (by decide) (hs.trans (by rw [hs2])) (by rw [hs2]; rfl)) fun σ H Q q => by
    obtain ⟨F, en, L, en1, r, st, e1, k⟩ := op1_behind (u_isiT (K := X.K) (mg := X.mg) hl) q
    exact ⟨F, en, L, en1, r, st, e1, fun v F1 H1 L1 Lr st1 rr nd x1 => by
      obtain ⟨x, ex, z⟩ := k v F1 H1 L1 Lr st1 rr nd x1
      cases ex
      exact z⟩

/-! ### a < b < c -/
def fChain (o1 o2 : List D → Option D) (fa fb fc : FE) : FE := fun en => match evs [fa, fb] en with
  | some (en1, [r1, r2]) => match r1.d en1, r2.d en1 with
    | some d1, some d2 => match o1 [d1, d2], d2.v with
      | some (.bl true), some _ => match fc en1 with
        | none => none
        | some (en2, r3) => match r3.d en2 with
          | none => none
          | some d3 => match o2 [d2, d3] with
            | none => none
            | some d => some (en2, .val (.sh d))
      | some (.bl false), some _ => some (en1, .val (.sh (.bl false)))
      | _, _ => none
    | _, _ => none
  | _ => none
theorem chain_ok {r1 r2 : R2} {o1 o2 : List D → Option D} (h1 : PkS X.K X.mg (r2N r1) o1) (h2 : PkS X.K X.mg (r2N r2) o2) {σ : L2.St} {H : Hp} {Q : VK} (q : tS X.K X.mg (fChain o1 o2 fa fb fc) σ H Q) : tChain r1 r2 (tS X.K X.mg fa) (tS X.K X.mg fb) (tS X.K X.mg fc) σ H Q := by
  obtain ⟨F, en, L, en', r', st, e, k⟩ := q
  unfold fChain at e
  split at e
  · rename_i en1 q1 q2 e1
    split at e
    · rename_i d1 d2 ed1 ed2
      refine tEv_two (K := X.K) (mg := X.mg) (R := fun x y H2 => r1 x y H2 fun z H3 => ∃ k, z = .bl k ∧ (if k = true then tS X.K X.mg fc σ H3 fun w' H4 => r2 y w' H4 Q else Q (.bl false) H3)) ⟨F, en, L, en1, [q1, q2], st, e1, fun vs F1 H1 L1 Lr1 st1 rr1 nd1 x1 => ?_⟩
      obtain ⟨v1, v2, A, B, rfl, rfl, g1, g2⟩ := rrs2 rr1
      have p1 := g1.peek st1 ed1
      have p2 := g2.peek st1 ed2
      refine ⟨v1, v2, rfl, ?_⟩
      split at e
      · rename_i w eo ev
        obtain ⟨v, hv, z⟩ := h1 [d1, d2] [v1, v2] H1 _ (by simp only [Reps]; exact ⟨p1, p2, trivial⟩) eo
        simp only [D.v, Option.some.injEq] at hv
        subst hv
        obtain ⟨a, b, ee, zz⟩ := z (fun z H3 => ∃ k, z = .bl k ∧ (if k = true then tS X.K X.mg fc σ H3 fun w' H4 => r2 v2 w' H4 Q else Q (.bl false) H3)) (by
          refine ⟨true, rfl, ?_⟩
          rw [if_pos rfl]
          split at e
          · cases e
          rename_i en2 q3 e3
          split at e
          · cases e
          rename_i d3 ed3
          split at e
          · cases e
          rename_i d eo2
          cases e
          refine ev_then st1 rr1 (evs_stable e1) nd1 e3 fun u F2 H2 L2 Lr2 st2 rrs rr2 nd2 x2 => ?_
          obtain ⟨_, v2', _, _, ee, _, _, g2'⟩ := rrs2 rrs
          cases ee
          have ev2 : v2 = w := by
            have hr := p2
            cases d2 <;> simp only [D.v, Option.some.injEq] at ev <;> first
              | (cases ev; done)
              | (subst ev
                 simpa only [Rep] using hr)
          obtain ⟨v, hv, z⟩ := h2 [d2, d3] [v2, u] H2 _ (by simp only [Reps]; exact ⟨by rw [ev2]; exact rep_v ev, rr2.peek st2 ed3, trivial⟩) eo2
          obtain ⟨a, b, ee, zz⟩ := z Q (k v F2 H2 L2 [] st2 (by simp only [RR]; exact own_sh (rep_v hv)) (by simpa using st2.nd) (x1.trans (x2.mem (fun a h => h) fun a h => by
            have h' : a ∈ L2 := by simpa using h
            simp [h'])))
          cases ee
          exact zz)
        cases ee
        exact zz
      · rename_i w eo ev
        cases e
        obtain ⟨v, hv, z⟩ := h1 [d1, d2] [v1, v2] H1 _ (by simp only [Reps]; exact ⟨p1, p2, trivial⟩) eo
        simp only [D.v, Option.some.injEq] at hv
        subst hv
        obtain ⟨a, b, ee, zz⟩ := z (fun z H3 => ∃ k, z = .bl k ∧ (if k = true then tS X.K X.mg fc σ H3 fun w' H4 => r2 v2 w' H4 Q else Q (.bl false) H3)) ⟨false, rfl, by
          rw [if_neg Bool.false_ne_true]
          exact k (.bl false) F1 H1 L1 [] st1 (by simp only [RR]; exact own_sh (rep_v rfl)) (by simpa using st1.nd) (x1.mem (fun a h => h) fun a h => by
            have h' : a ∈ L1 := by simpa using h
            simp [h'])⟩
        cases ee
        exact zz
      · cases e
    · cases e
  · cases e
theorem se_chain {op op' : CmpOp} {r r' : R2} {o1 o2 : List D → Option D} (ho : OpR X (compareOp op) r) (ho' : OpR X (compareOp op') r') (h1 : PkS X.K X.mg (r2N r) o1) (h2 : PkS X.K X.mg (r2N r') o2) (ha : SE X a fa) (hb : SE X b fb) (hc : SE X c fc)
    (hm : lastMarks [op, op'] [b, c] = false := by with_unfolding_all rfl) : SE X (.Compare a [op, op'] [b, c] pos) (fChain o1 o2 fa fb fc) := pe_imp (pe_chain ho ho' ha hb hc hm) fun _ _ _ q => chain_ok h1 h2 q
theorem st_chain {op op' : CmpOp} {r r' : R2} {o1 o2 : List D → Option D} (ho : OpR X (compareOp op) r) (ho' : OpR X (compareOp op') r') (h1 : PkS X.K X.mg (r2N r) o1) (h2 : PkS X.K X.mg (r2N r') o2) (ha : SE X a fa) (hb : SE X b fb) (hc : SE X c fc)
    (hm : lastMarks [op, op'] [b, c] = false := by with_unfolding_all rfl) : ST X (.Compare a [op, op'] [b, c] pos) (fTb (fChain o1 o2 fa fb fc)) := pt_imp (pt_chain ho ho' ha hb hc hm) fun _ _ _ q => chain_ok h1 h2 (tTb q)
theorem cI (g : Int → Int → Bool) {K : PySem.W.Frag} {mg : Str → Option Value} : PkS K mg (r2N (rI0 fun i j => .bl (g i j))) (oII tt2 fun i j => .bl (g i j)) := pk_II (fun _ _ => rfl) fun i j H Q _ q => ⟨_, _, rfl, rfl, q⟩
end

/-! ### calls -/
abbrev PF := List W → Option (W × List W)
/-- what a def is worth: its arguments' things to its result and the things behind -/
def spP (K : PySem.W.Frag) (mg : Str → Option Value) (g : PF) : Sp := fun vs H Q _ => ∃ F ws L, Same F H ∧ L.Nodup ∧ Owns K mg F H ws vs L ∧ ∃ w ws', g ws = some (w, ws') ∧
  ∀ v F' H' L', Same F' H' → L'.Nodup → Owns K mg F' H' (w :: ws') (v :: vs) L' → Ext F H L F' H' L' → Q v H'
/-- the arguments: what is owned at a name is lent -/
def argsOf : En → List R → Option (En × List W × List (Option Nat))
  | en, [] => some (en, [], [])
  | en, .val w :: rs => match argsOf en rs with
    | some (en', ws, bs) => some (en', w :: ws, none :: bs)
    | none => none
  | en, .pl i [] :: rs => match en[i]? with
    | none => none
    | some (.sh d) => match argsOf en rs with
      | some (en', ws, bs) => some (en', .sh d :: ws, none :: bs)
      | none => none
    | some w => match argsOf (en.set i (.sh .any)) rs with
      | some (en', ws, bs) => some (en', w :: ws, some i :: bs)
      | none => none
  | _, .pl _ (_ :: _) :: _ => none
def putB : En → List (Option Nat) → List W → En
  | en, some i :: bs, w :: ws => putB (en.set i w) bs ws
  | en, none :: bs, _ :: ws => putB en bs ws
  | en, _, _ => en
def fCall (g : PF) (fs : List FE) : FE := fun en => match evs fs en with
  | none => none
  | some (en1, rs) => match argsOf en1 rs with
    | none => none
    | some (en2, ws, bs) => match g ws with
      | none => none
      | some (w, ws') => if ws'.length = ws.length then some (putB en2 bs ws', .val w) else none
/-- the places lent -/
def Lent (σ : L2.St) : En → List (Option Nat) → List V → Prop
  | _, [], [] => True
  | en, some i :: bs, v :: vs => σ[i]? = some (some v) ∧ en[i]? = some (.sh .any) ∧ (∀ j, some j ∈ bs → j ≠ i) ∧ Lent σ en bs vs
  | en, none :: bs, _ :: vs => Lent σ en bs vs
  | _, _, _ => False
section
variable {K : PySem.W.Frag} {mg : Str → Option Value} {σ : L2.St}
theorem args_hole : ∀ {rs : List R} {en en' : En} {ws : List W} {bs : List (Option Nat)} {i : Nat}, argsOf en rs = some (en', ws, bs) → en[i]? = some (.sh .any) → en'[i]? = some (.sh .any) ∧ ∀ j, some j ∈ bs → j ≠ i
  | [], en, en', ws, bs, i, e, h => by
    simp only [argsOf, Option.some.injEq, Prod.mk.injEq] at e
    obtain ⟨rfl, rfl, rfl⟩ := e
    exact ⟨h, fun j hj => by cases hj⟩
  | .val w :: rs, en, en', ws, bs, i, e, h => by
    simp only [argsOf] at e
    split at e
    · rename_i en1 ws1 bs1 e1
      cases e
      obtain ⟨h1, h2⟩ := args_hole e1 h
      exact ⟨h1, fun j hj => h2 j (by simpa using hj)⟩
    · cases e
  | .pl k [] :: rs, en, en', ws, bs, i, e, h => by
    simp only [argsOf] at e
    split at e
    · cases e
    · split at e
      · rename_i en1 ws1 bs1 e1
        cases e
        obtain ⟨h1, h2⟩ := args_hole e1 h
        exact ⟨h1, fun j hj => h2 j (by simpa using hj)⟩
      · cases e
    · rename_i w hne hk
      split at e
      · rename_i en1 ws1 bs1 e1
        cases e
        have hki : k ≠ i := fun z => by
          subst z
          rw [h] at hk
          cases hk
          exact hne _ rfl
        obtain ⟨h1, h2⟩ := args_hole e1 (i := i) (by rw [List.getElem?_set_ne hki]; exact h)
        refine ⟨h1, fun j hj => ?_⟩
        rcases List.mem_cons.mp hj with z | z
        · cases z; exact hki
        · exact h2 j z
      · cases e
  | .pl _ (_ :: _) :: _, _, _, _, _, _, e, _ => by simp only [argsOf] at e; cases e
theorem args_ok : ∀ {rs : List R} {vs : List V} {F H : Hp} {en en' : En} {L Lr : List Addr} {ws : List W} {bs : List (Option Nat)}, StOk K mg F H σ en L → RRs K mg F H σ en L rs vs Lr → (∀ r ∈ rs, r.stable = true) → (L ++ Lr).Nodup → argsOf en rs = some (en', ws, bs) →
    ∃ L2 La, StOk K mg F H σ en' L2 ∧ Owns K mg F H ws vs La ∧ (L2 ++ La).Nodup ∧ (∀ a ∈ L2 ++ La, a ∈ L ++ Lr) ∧ Lent σ en' bs vs
  | [], [], F, H, en, en', L, Lr, ws, bs, st, h, hs, nd, e => by
    simp only [argsOf, Option.some.injEq, Prod.mk.injEq] at e
    obtain ⟨rfl, rfl, rfl⟩ := e
    exact ⟨L, [], st, by simp only [Owns], by simpa using st.nd, fun a h => by
      have h' : a ∈ L := by simpa using h
      simp [h'], by simp only [Lent]⟩
  | .val w :: rs, v :: vs, F, H, en, en', L, Lr, ws, bs, st, h, hs, nd, e => by
    simp only [argsOf] at e
    split at e
    · rename_i en1 ws1 bs1 e1
      cases e
      simp only [RRs] at h
      obtain ⟨A, B, rfl, h1, h2⟩ := h
      simp only [RR] at h1
      have nd' : (L ++ B).Nodup := by
        obtain ⟨n1, n2, n3⟩ := nd_app nd
        exact nd_of n1 (nd_app n2).2.1 fun b hb hb' => n3 b hb (by simp [hb'])
      obtain ⟨L2, La, st2, ow, nd2, sub, ln⟩ := args_ok st h2 (fun r hr => hs r (by simp [hr])) nd' e1
      have dA : ∀ a ∈ A, a ∉ L ++ B := fun a ha hb => by
        obtain ⟨n1, n2, n3⟩ := nd_app nd
        rcases List.mem_append.mp hb with z | z
        · exact n3 a z (by simp [ha])
        · exact (nd_app n2).2.2 a ha z
      refine ⟨L2, A ++ La, st2, by simp only [Owns]; exact ⟨A, La, rfl, h1, ow⟩, ?_, fun a ha => ?_, by simp only [Lent]; exact ln⟩
      · obtain ⟨m1, m2, m3⟩ := nd_app nd2
        refine nd_of m1 (nd_of (nd_app (nd_app nd).2.1).1 m2 fun b hb hb' => dA b hb (sub b (by simp [hb']))) fun b hb hb' => ?_
        rcases List.mem_append.mp hb' with z | z
        · exact dA b z (sub b (by simp [hb]))
        · exact m3 b hb z
      · simp only [List.mem_append] at ha sub ⊢
        rcases ha with z | z | z
        · rcases sub a (.inl z) with q | q <;> simp [q]
        · simp [z]
        · rcases sub a (.inr z) with q | q <;> simp [q]
    · cases e
  | .pl i [] :: rs, v :: vs, F, H, en, en', L, Lr, ws, bs, st, h, hs, nd, e => by
    simp only [RRs] at h
    obtain ⟨A, B, rfl, h1, h2⟩ := h
    simp only [RR] at h1
    obtain ⟨rfl, hσ⟩ := h1
    simp only [argsOf] at e
    split at e
    · cases e
    · rename_i d hd
      split at e
      · rename_i en1 ws1 bs1 e1
        cases e
        obtain ⟨L2, La, st2, ow, nd2, sub, ln⟩ := args_ok st h2 (fun r hr => hs r (by simp [hr])) (by simpa using nd) e1
        obtain ⟨w0, Lx, Lm, Ly, g, eL, o, kk⟩ := part_name st.own hσ
        have hw0 : w0 = .sh d := by
          simp only [En.get, hd, W.get, Option.some.injEq] at g
          exact g.symm
        subst hw0
        simp only [Own] at o
        exact ⟨L2, La, st2, by simp only [Owns]; exact ⟨[], La, rfl, own_sh o.1, ow⟩, nd2, fun a ha => by simpa using sub a ha, by simp only [Lent]; exact ln⟩
      · cases e
    · rename_i w hne hw
      split at e
      · rename_i en1 ws1 bs1 e1
        cases e
        obtain ⟨w0, Lx, Lm, Ly, g, eL, o, kk⟩ := part_name st.own hσ
        have hw0 : w0 = w := by
          simp only [En.get, hw, W.get, Option.some.injEq] at g
          exact g.symm
        subst hw0
        subst eL
        have nd0 := st.nd
        obtain ⟨n1, n2⟩ := nodup3 nd0
        have cl := st.cell
        have hs0 : Stay F H F H (Lx ++ Ly) := ⟨Same.refl F, fun b hb => (cl b (by simp only [List.mem_append] at hb ⊢; rcases hb with z | z <;> simp [z])).2, fun _ _ => rfl⟩
        have q := kk F H (.sh .any) [] hs0 (own_sh (by simp only [Rep]))
        have ep : en.put i [] (.sh .any) = en.set i (.sh .any) := by simp only [En.put, hw, W.put]
        rw [ep] at q
        have st1 : StOk K mg F H σ (en.set i (.sh .any)) (Lx ++ Ly) := ⟨st.sub, n1, by simpa using q⟩
        have ndB : ((Lx ++ Ly) ++ B).Nodup := by
          have nd' : (Lx ++ (Lm ++ Ly) ++ B).Nodup := by simpa using nd
          obtain ⟨m1, m2, m3⟩ := nd_app nd'
          exact nd_of n1 m2 fun b hb hb' => m3 b (by simp only [List.mem_append] at hb ⊢; rcases hb with z | z <;> simp [z]) hb'
        have h2' : RRs K mg F H σ (en.set i (.sh .any)) (Lx ++ Ly) rs vs B := RRs.keep (M := Lx ++ Ly) h2 (fun r hr => hs r (by simp [hr])) Ext.refl (fun b hb hb' => (nd_app ndB).2.2 b hb' hb)
        obtain ⟨L2, La, st2, ow, nd2, sub, ln⟩ := args_ok st1 h2' (fun r hr => hs r (by simp [hr])) ndB e1
        obtain ⟨hh1, hh2⟩ := args_hole e1 (i := i) (by rw [List.getElem?_set_self (List.getElem?_eq_some_iff.mp hw).1])
        have dM : ∀ a ∈ Lm, a ∉ (Lx ++ Ly) ++ B := fun a ha hb => by
          rcases List.mem_append.mp hb with z | z
          · exact n2 a z ha
          · have nd' : (Lx ++ (Lm ++ Ly) ++ B).Nodup := by simpa using nd
            exact (nd_app nd').2.2 a (by simp [ha]) z
        refine ⟨L2, Lm ++ La, st2, by simp only [Owns]; exact ⟨Lm, La, rfl, o, ow⟩, ?_, fun a ha => ?_, by simp only [Lent]; exact ⟨hσ, hh1, hh2, ln⟩⟩
        · obtain ⟨m1, m2, m3⟩ := nd_app nd2
          refine nd_of m1 (nd_of (nd_app (nd_app nd0).2.1).1 m2 fun b hb hb' => dM b hb (sub b (by simp [hb']))) fun b hb hb' => ?_
          rcases List.mem_append.mp hb' with z | z
          · exact dM b z (sub b (by simp [hb]))
          · exact m3 b hb z
        · simp only [List.mem_append] at ha sub ⊢
          rcases ha with z | z | z
          · rcases sub a (.inl z) with (q | q) | q <;> simp [q]
          · simp [z]
          · rcases sub a (.inr z) with (q | q) | q <;> simp [q]
      · cases e
  | .pl _ (_ :: _) :: _, _ :: _, _, _, _, _, _, _, _, _, _, _, _, _, e => by simp only [argsOf] at e; cases e
  | [], _ :: _, _, _, _, _, _, _, _, _, _, h, _, _, _ => by simp only [RRs] at h
  | .val _ :: _, [], _, _, _, _, _, _, _, _, _, h, _, _, _ => by simp only [RRs] at h
  | .pl _ _ :: _, [], _, _, _, _, _, _, _, _, _, h, _, _, _ => by simp only [RRs] at h
theorem Lent.set {en : En} {i : Nat} {w : W} : ∀ {bs : List (Option Nat)} {vs : List V}, Lent σ en bs vs → (∀ j, some j ∈ bs → j ≠ i) → Lent σ (en.set i w) bs vs
  | [], [], _, _ => by simp only [Lent]
  | some k :: bs, v :: vs, h, hd => by
    simp only [Lent] at h ⊢
    obtain ⟨h1, h2, h3, h4⟩ := h
    have hk : k ≠ i := hd k (by simp)
    exact ⟨h1, by rw [List.getElem?_set_ne (Ne.symm hk)]; exact h2, h3, Lent.set h4 fun j hj => hd j (by simp [hj])⟩
  | none :: bs, v :: vs, h, hd => by
    simp only [Lent] at h ⊢
    exact Lent.set h fun j hj => hd j (by simp [hj])
  | [], _ :: _, h, _ => by simp only [Lent] at h
  | some _ :: _, [], h, _ => by simp only [Lent] at h
  | none :: _, [], h, _ => by simp only [Lent] at h
theorem put_ok {F H : Hp} : ∀ {bs : List (Option Nat)} {vs : List V} {ws : List W} {en : En} {L La : List Addr}, StOk K mg F H σ en L → Lent σ en bs vs → Owns K mg F H ws vs La → (L ++ La).Nodup → ∃ L3, StOk K mg F H σ (putB en bs ws) L3 ∧ ∀ a ∈ L3, a ∈ L ++ La
  | [], [], [], en, L, La, st, _, _, _ => ⟨L, by simp only [putB]; exact st, fun a h => by simp [h]⟩
  | some i :: bs, v :: vs, w :: ws, en, L, La, st, ln, ow, nd => by
    simp only [Lent] at ln
    obtain ⟨l1, l2, l3, l4⟩ := ln
    simp only [Owns] at ow
    obtain ⟨A, B, rfl, o1, o2⟩ := ow
    obtain ⟨w0, Lx, Lm, Ly, g, eL, o, kk⟩ := part_name st.own l1
    have hw0 : w0 = .sh .any := by
      simp only [En.get, l2, W.get, Option.some.injEq] at g
      exact g.symm
    subst hw0
    simp only [Own] at o
    obtain ⟨_, rfl⟩ := o
    subst eL
    have cl := st.cell
    have hs0 : Stay F H F H (Lx ++ Ly) := ⟨Same.refl F, fun b hb => (cl b (by simp only [List.mem_append] at hb ⊢; rcases hb with z | z <;> simp [z])).2, fun _ _ => rfl⟩
    have q := kk F H w A hs0 o1
    have ep : en.put i [] w = en.set i w := by simp only [En.put, l2, W.put]
    rw [ep] at q
    obtain ⟨m1, m2, m3⟩ := nd_app nd
    obtain ⟨p1, p2, p3⟩ := nd_app m2
    have ndq : (Lx ++ (A ++ Ly)).Nodup := by
      have m1' : (Lx ++ Ly).Nodup := by simpa using m1
      obtain ⟨q1, q2, q3⟩ := nd_app m1'
      refine nd_of q1 (nd_of p1 q2 fun b hb hb' => m3 b (by simp [hb']) (by simp [hb])) fun b hb hb' => ?_
      rcases List.mem_append.mp hb' with z | z
      · exact m3 b (by simp [hb]) (by simp [z])
      · exact q3 b hb z
    have st1 : StOk K mg F H σ (en.set i w) (Lx ++ (A ++ Ly)) := ⟨st.sub, ndq, q⟩
    obtain ⟨L3, st3, sub⟩ := put_ok st1 (l4.set l3) o2 (nd_of ndq p2 fun b hb hb' => by
      simp only [List.mem_append] at hb
      rcases hb with z | z | z
      · exact m3 b (by simp [z]) (by simp [hb'])
      · exact p3 b z hb'
      · exact m3 b (by simp [z]) (by simp [hb']))
    refine ⟨L3, by simp only [putB]; exact st3, fun a ha => ?_⟩
    have := sub a ha
    simp only [List.mem_append] at this ⊢
    rcases this with (z | z | z) | z <;> simp [z]
  | none :: bs, v :: vs, w :: ws, en, L, La, st, ln, ow, nd => by
    simp only [Lent] at ln
    simp only [Owns] at ow
    obtain ⟨A, B, rfl, o1, o2⟩ := ow
    obtain ⟨m1, m2, m3⟩ := nd_app nd
    obtain ⟨L3, st3, sub⟩ := put_ok st ln o2 (nd_of m1 (nd_app m2).2.1 fun b hb hb' => m3 b hb (by simp [hb']))
    refine ⟨L3, by simp only [putB]; exact st3, fun a ha => ?_⟩
    have := sub a ha
    simp only [List.mem_append] at this ⊢
    rcases this with z | z <;> simp [z]
  | [], _ :: _, _, _, _, _, _, h, _, _ => by simp only [Lent] at h
  | some _ :: _, [], _, _, _, _, _, h, _, _ => by simp only [Lent] at h
  | none :: _, [], _, _, _, _, _, h, _, _ => by simp only [Lent] at h
  | [], [], _ :: _, _, _, _, _, _, h, _ => by simp only [Owns] at h
  | some _ :: _, _ :: _, [], _, _, _, _, _, h, _ => by simp only [Owns] at h
  | none :: _, _ :: _, [], _, _, _, _, _, h, _ => by simp only [Owns] at h
/-- a call behind its arguments' results -/
theorem call_from {F H : Hp} {en en2 : En} {L Lr : List Addr} {rs : List R} {vs : List V} {ws ws' : List W} {bs : List (Option Nat)} {w : W} {g : PF} {Q : VK} {E : XK} (st : StOk K mg F H σ en L) (rr : RRs K mg F H σ en L rs vs Lr) (hs : ∀ r ∈ rs, r.stable = true) (nd : (L ++ Lr).Nodup)
    (ea : argsOf en rs = some (en2, ws, bs)) (eg : g ws = some (w, ws'))
    (q : ∀ v F' H' L' Lr', StOk K mg F' H' σ (putB en2 bs ws') L' → RR K mg F' H' σ (putB en2 bs ws') L' (.val w) v Lr' → (L' ++ Lr').Nodup → Ext F H (L ++ Lr) F' H' (L' ++ Lr') → Q v H') : spP K mg g vs H Q E := by
  obtain ⟨L2, La, st2, ow, nd2, sub, ln⟩ := args_ok st rr hs nd ea
  obtain ⟨n1, n2, n3⟩ := nd_app nd2
  refine ⟨F, ws, La, st.sub, n2, ow, w, ws', eg, fun v F' H' L' s' nd' ow' x => ?_⟩
  simp only [Owns] at ow'
  obtain ⟨Lw, La', rfl, o1, o2⟩ := ow'
  obtain ⟨m1, m2, m3⟩ := nd_app nd'
  have cl2 := st2.cell
  have st2' : StOk K mg F' H' σ en2 L2 := ⟨s', n1, st2.own.stay (x.stay fun b hb => ⟨n3 b hb, cl2 b hb⟩)⟩
  have ap := x.apart (M := L2) fun b hb => ⟨n3 b hb, (cl2 b hb).1.1⟩
  obtain ⟨L3, st3, sub3⟩ := put_ok st2' ln o2 (nd_of n1 m2 fun b hb hb' => ap b (by simp [hb']) b hb rfl)
  refine q v F' H' L3 Lw st3 (by simp only [RR]; exact o1) (nd_of st3.nd m1 fun b hb hb' => ?_) ?_
  · rcases List.mem_append.mp (sub3 b hb) with z | z
    · exact ap b (by simp [hb']) b z rfl
    · exact m3 b hb' z
  · refine (x.frame L2).mem (fun a ha => ?_) fun a ha => ?_
    · rcases List.mem_append.mp ha with z | z
      · exact sub a (by simp [z])
      · exact sub a (by simp [z])
    · rcases List.mem_append.mp ha with z | z
      · rcases List.mem_append.mp (sub3 a z) with y | y <;> simp [y]
      · simp [z]
end
section
variable {X : Cx}
theorem call_behind {g : PF} {fs : List FE} {σ : L2.St} {H : Hp} {Q : VK} {E : XK} (h : tS X.K X.mg (fCall g fs) σ H Q) : tEv X.K X.mg fs σ H fun vs H' => spP X.K X.mg g vs H' Q E := by
  obtain ⟨F, en, L, en', rr, st, ef, k⟩ := h
  unfold fCall at ef
  split at ef
  · cases ef
  rename_i en1 rs e1
  split at ef
  · cases ef
  rename_i en2 ws bs e2
  split at ef
  · cases ef
  rename_i w ws' e3
  split at ef
  · cases ef
    refine ⟨F, en, L, en1, rs, st, e1, fun vs F1 H1 L1 Lr1 st1 rr1 nd1 x1 => ?_⟩
    exact call_from st1 rr1 (evs_stable e1) nd1 e2 e3 fun v F' H' L' Lr' a b c d => k v F' H' L' Lr' a b c (x1.trans d)
  · cases ef
variable {k : Nat} {f : Addr} {fd : FuncData} {ps : List Str} {x : Str} {p pos : Pos} {e : Expr} {es : List Expr} {fs : List FE} {g : PF}
/-- f(e, ..) -/
theorem se_call (G : FnOk X.prog X.w X.K X.mg X.base CX0 k f fd ps (spP X.K X.mg g)) (hr : Room k X.A) (hg : Gl X x) (hm : X.mg x = some (.ref f)) (hk : PySem.W.keepIn X.K (.ref f) = true) (hb : Binds X.K fd ps []) (ha : SA X (e :: es) fs)
    (hdb : (x == ("__debug__" : Str)) = false := by decide) (he : starEach (e :: es) X.env = (false, eval e X.env) :: starEach es X.env := by rfl) (hpl : (backTo pos (starEach es X.env)).any (·.1) = false := by rfl) : SE X (.Call (.Name x p) (e :: es) [] pos) (fCall g fs) :=
  pe_imp (pe_call G hr hg hm hk hb .nil pass0 ha hdb he hpl) fun σ H Q q => by
    have z := call_behind (E := E0) q
    unfold tCall
    simpa only [List.append_nil] using z
theorem se_call0 (G : FnOk X.prog X.w X.K X.mg X.base CX0 k f fd ps (spP X.K X.mg g)) (hr : Room k X.A) (hg : Gl X x) (hm : X.mg x = some (.ref f)) (hk : PySem.W.keepIn X.K (.ref f) = true) (hb : Binds X.K fd ps [])
    (hdb : (x == ("__debug__" : Str)) = false := by decide) : SE X (.Call (.Name x p) [] [] pos) (fCall g []) :=
  pe_imp (pe_call0 G hr hg hm hk hb .nil pass0 hdb) fun σ H Q q => by
    have z := tEv_nil (call_behind (E := E0) q)
    unfold tCall
    simpa only [List.append_nil] using z
end
end Pu

/-! Pu9: statements, targets, a def's body. -/
namespace Pu
open PySem PySem.Spec PyProof.Rows L2

inductive Fl where
  | nx | bk | ct
  | ret (w : W)
abbrev FS := En → Option (En × Fl)
def Fixed (fix : List Nat) (σ σ' : L2.St) : Prop := ∀ i ∈ fix, σ'[i]? = σ[i]?
theorem Fixed.refl {fix : List Nat} {σ : L2.St} : Fixed fix σ σ := fun _ _ => rfl
theorem Fixed.trans {fix : List Nat} {σ σ1 σ2 : L2.St} (a : Fixed fix σ σ1) (b : Fixed fix σ1 σ2) : Fixed fix σ σ2 := fun i hi => (b i hi).trans (a i hi)
section
variable (K : PySem.W.Frag) (mg : Str → Option Value) (fix : List Nat)
/-- what is wanted behind a statement -/
def tEnd (D : Ends) (F H : Hp) (L : List Addr) (σ : L2.St) (en' : En) : Fl → Prop
  | .nx => ∀ σ' F' H' L', StOk K mg F' H' σ' en' L' → Fixed fix σ σ' → Ext F H L F' H' L' → D.nx σ' H'
  | .bk => ∀ σ' F' H' L', StOk K mg F' H' σ' en' L' → Fixed fix σ σ' → Ext F H L F' H' L' → D.bk σ' H'
  | .ct => ∀ σ' F' H' L', StOk K mg F' H' σ' en' L' → Fixed fix σ σ' → Ext F H L F' H' L' → D.ct σ' H'
  | .ret w => ∀ v σ' F' H' L' Lr, StOk K mg F' H' σ' en' L' → Fixed fix σ σ' → Own K mg F' H' w v Lr → (L' ++ Lr).Nodup → Ext F H L F' H' (L' ++ Lr) → D.rt v H'
def tX (f : FS) : TS := fun D σ H => ∃ F en L en' fl, StOk K mg F H σ en L ∧ f en = some (en', fl) ∧ tEnd K mg fix D F H L σ en' fl
end
abbrev SS (X : Cx) (fix : List Nat) (st : Stmt) (f : FS) : Prop := PS X st (tX X.K X.mg fix f)
abbrev SSs (X : Cx) (fix : List Nat) (sts : List Stmt) (f : FS) : Prop := PSs X sts (tX X.K X.mg fix f)
section
variable {K : PySem.W.Frag} {mg : Str → Option Value} {fix : List Nat}
theorem tEnd.step {D : Ends} {F H F1 H1 : Hp} {L L1 : List Addr} {σ σ1 : L2.St} {en' : En} {fl : Fl} (h : tEnd K mg fix D F H L σ en' fl) (hf : Fixed fix σ σ1) (x : Ext F H L F1 H1 L1) : tEnd K mg fix D F1 H1 L1 σ1 en' fl := by
  cases fl with
  | nx => exact fun σ' F' H' L' a b c => h σ' F' H' L' a (hf.trans b) (x.trans c)
  | bk => exact fun σ' F' H' L' a b c => h σ' F' H' L' a (hf.trans b) (x.trans c)
  | ct => exact fun σ' F' H' L' a b c => h σ' F' H' L' a (hf.trans b) (x.trans c)
  | ret w => exact fun v σ' F' H' L' Lr a b c d e => h v σ' F' H' L' Lr a (hf.trans b) c d (x.trans e)
theorem tEnd.nxt {D : Ends} {F H F1 H1 : Hp} {L L1 : List Addr} {σ σ1 : L2.St} {en' : En} (h : tEnd K mg fix D F H L σ en' .nx) (st : StOk K mg F1 H1 σ1 en' L1) (hf : Fixed fix σ σ1) (x : Ext F H L F1 H1 L1) : D.nx σ1 H1 := h σ1 F1 H1 L1 st hf x
end
def sNil : FS := fun en => some (en, .nx)
def sSeq (f g : FS) : FS := fun en => match f en with
  | none => none
  | some (en', .nx) => g en'
  | some (en', fl) => some (en', fl)
def sBk : FS := fun en => some (en, .bk)
def sCt : FS := fun en => some (en, .ct)
def sNever : FS := fun _ => none
def sExpr (f : FE) : FS := fun en => match f en with
  | none => none
  | some (en', _) => some (en', .nx)
/-- what is handed back -/
def R.out (fix : List Nat) (en : En) : R → Option (En × W)
  | .val w => some (en, w)
  | .pl i [] => if i ∈ fix then (R.pl i []).tk en else match en[i]? with
    | some w => some (en.set i (.sh .any), w)
    | none => none
  | .pl i p => (R.pl i p).tk en
def sRet (fix : List Nat) (f : FE) : FS := fun en => match f en with
  | none => none
  | some (en', r) => match r.out fix en' with
    | none => none
    | some (en2, w) => some (en2, .ret w)
def sRetN : FS := fun en => some (en, .ret (.sh .non))
def sIf (t : FT) (f g : FS) : FS := fun en => match t en with
  | none => none
  | some (en', b) => if b = true then f en' else g en'
section
variable {X : Cx} {fix : List Nat} {st : Stmt} {rest : List Stmt} {f g : FS} {pos : Pos}
theorem ss_nil : SSs X fix [] sNil := pss_imp pss_nil fun D σ H q => by
  obtain ⟨F, en, L, en', fl, st, e, q⟩ := q
  simp only [sNil, Option.some.injEq, Prod.mk.injEq] at e
  obtain ⟨rfl, rfl⟩ := e
  exact q σ F H L st Fixed.refl Ext.refl
theorem tX_seq {K : PySem.W.Frag} {mg : Str → Option Value} {D : Ends} {σ : L2.St} {H : Hp} (q : tX K mg fix (sSeq f g) D σ H) : tSeq (tX K mg fix f) (tX K mg fix g) D σ H := by
  obtain ⟨F, en, L, en', fl, st, e, q⟩ := q
  unfold sSeq at e
  split at e
  · cases e
  · rename_i en1 e1
    exact ⟨F, en, L, en1, .nx, st, e1, fun σ1 F1 H1 L1 st1 h1 x1 => ⟨F1, en1, L1, en', fl, st1, e, q.step h1 x1⟩⟩
  · rename_i en1 fl1 hne e1
    cases e
    refine ⟨F, en, L, _, fl, st, e1, ?_⟩
    cases fl with
    | nx => exact absurd rfl hne
    | bk => exact q
    | ct => exact q
    | ret w => exact q
theorem ss_cons (h1 : SS X fix st f) (h2 : SSs X fix rest g) : SSs X fix (st :: rest) (sSeq f g) := pss_imp (pss_cons h1 h2) fun D σ H q => tX_seq q
theorem ss_one (h1 : SS X fix st f) : SSs X fix [st] f := pss_one h1
theorem ss_break : SS X fix (.Break pos) sBk := ps_imp ps_break fun D σ H q => by
  obtain ⟨F, en, L, en', fl, st, e, q⟩ := q
  simp only [sBk, Option.some.injEq, Prod.mk.injEq] at e
  obtain ⟨rfl, rfl⟩ := e
  exact q σ F H L st Fixed.refl Ext.refl
theorem ss_continue : SS X fix (.Continue pos) sCt := ps_imp ps_continue fun D σ H q => by
  obtain ⟨F, en, L, en', fl, st, e, q⟩ := q
  simp only [sCt, Option.some.injEq, Prod.mk.injEq] at e
  obtain ⟨rfl, rfl⟩ := e
  exact q σ F H L st Fixed.refl Ext.refl
theorem ss_pass : SS X fix (.Pass pos) sNil := ps_imp ps_pass fun D σ H q => by
  obtain ⟨F, en, L, en', fl, st, e, q⟩ := q
  simp only [sNil, Option.some.injEq, Prod.mk.injEq] at e
  obtain ⟨rfl, rfl⟩ := e
  exact q σ F H L st Fixed.refl Ext.refl
theorem ss_never : SS X fix st sNever := ps_imp ps_never fun D σ H q => by
  obtain ⟨F, en, L, en', fl, st, e, q⟩ := q
  cases e
theorem sss_never : SSs X fix rest sNever := pss_imp pss_never fun D σ H q => by
  obtain ⟨F, en, L, en', fl, st, e, q⟩ := q
  cases e
theorem ss_expr {e : Expr} {fe : FE} (he : SE X e fe) (hs : swapsWith e none pos.line X.env = pure false := by rfl) : SS X fix (.Expr e pos) (sExpr fe) := ps_imp (ps_expr he hs) fun D σ H q => by
  obtain ⟨F, en, L, en', fl, st, e, q⟩ := q
  unfold sExpr at e
  split at e
  · cases e
  rename_i en1 r e1
  cases e
  exact ⟨F, en, L, _, r, st, e1, fun v F1 H1 L1 Lr st1 rr nd x => q σ F1 H1 L1 st1 Fixed.refl (drop_temp x)⟩
theorem out_ok {K : PySem.W.Frag} {mg : Str → Option Value} {F H : Hp} {σ : L2.St} {en en' : En} {L Lr : List Addr} {r : R} {v : V} {w : W} (st : StOk K mg F H σ en L) (h : RR K mg F H σ en L r v Lr) (nd : (L ++ Lr).Nodup) (e : r.out fix en = some (en', w)) :
    ∃ F' L' Lr', StOk K mg F' H σ en' L' ∧ Own K mg F' H w v Lr' ∧ (L' ++ Lr').Nodup ∧ Ext F H (L ++ Lr) F' H (L' ++ Lr') := by
  cases r with
  | val w0 =>
    simp only [R.out] at e
    exact RR.tk st h nd e
  | pl i p =>
    cases p with
    | cons k p =>
      simp only [R.out] at e
      exact RR.tk st h nd e
    | nil =>
      simp only [R.out] at e
      split at e
      · exact RR.tk st h nd e
      · obtain ⟨rfl, w1, La, Lm, Lb, P⟩ := RR.part st h
        obtain ⟨g, eL, o, kk⟩ := P
        split at e
        · rename_i w' hw
          cases e
          have hww : w1 = w := by
            simp only [En.get, hw, W.get, Option.some.injEq] at g
            exact g.symm
          subst hww
          subst eL
          have nd0 := st.nd
          have cl := st.cell
          obtain ⟨n1, n2⟩ := nodup3 nd0
          have hs : Stay F H F H (La ++ Lb) := ⟨Same.refl F, fun b hb => (cl b (by simp only [List.mem_append] at hb ⊢; rcases hb with z | z <;> simp [z])).2, fun _ _ => rfl⟩
          have q := kk F H (.sh .any) [] hs (own_sh (by simp only [Rep]))
          have ep : en.put i [] (.sh .any) = en.set i (.sh .any) := by simp only [En.put, hw, W.put]
          rw [ep] at q
          refine ⟨F, La ++ Lb, Lm, ⟨st.sub, n1, by simpa using q⟩, o, nd_of n1 (nd_app (nd_app nd0).2.1).1 fun b hb hb' => n2 b hb hb', (Ext.refl (L := La ++ (Lm ++ Lb))).mem (fun _ h => by simpa using h) fun a ha => ?_⟩
          simp only [List.mem_append] at ha ⊢
          rcases ha with (z | z) | z <;> simp [z]
        · cases e
theorem ss_ret {e : Expr} {fe : FE} (he : SE X e fe) : SS X fix (.Return (some e) pos) (sRet fix fe) := ps_imp (ps_ret he) fun D σ H q => by
  obtain ⟨F, en, L, en', fl, st, e, q⟩ := q
  unfold sRet at e
  split at e
  · cases e
  rename_i en1 r e1
  split at e
  · cases e
  rename_i en2 w e2
  cases e
  refine ⟨F, en, L, en1, r, st, e1, fun v F1 H1 L1 Lr st1 rr nd x => ?_⟩
  obtain ⟨F2, L2, Lr2, st2, o, nd2, x2⟩ := out_ok st1 rr nd e2
  exact q v σ F2 H1 L2 Lr2 st2 Fixed.refl o nd2 (x.trans x2)
theorem ss_retN : SS X fix (.Return none pos) sRetN := ps_imp ps_retN fun D σ H q => by
  obtain ⟨F, en, L, en', fl, st, e, q⟩ := q
  simp only [sRetN, Option.some.injEq, Prod.mk.injEq] at e
  obtain ⟨rfl, rfl⟩ := e
  exact q .non σ F H L [] st Fixed.refl (own_sh (rep_v rfl)) (by simpa using st.nd) (by simpa using Ext.refl)
theorem ss_if {c : Expr} {a b : List Stmt} {t : FT} (hc : ST X c t) (ha : SSs X fix a f) (hb : SSs X fix b g) : SS X fix (.If c a b pos) (sIf t f g) := ps_imp (ps_if hc ha hb) fun D σ H q => by
  obtain ⟨F, en, L, en', fl, st, e, q⟩ := q
  unfold sIf at e
  split at e
  · cases e
  rename_i en1 k e1
  refine ⟨F, en, L, en1, k, st, e1, fun F1 H1 L1 st1 x1 => ?_⟩
  cases k with
  | true =>
    rw [if_pos rfl] at e ⊢
    exact ⟨F1, en1, L1, en', fl, st1, e, q.step Fixed.refl x1⟩
  | false =>
    rw [if_neg Bool.false_ne_true] at e ⊢
    exact ⟨F1, en1, L1, en', fl, st1, e, q.step Fixed.refl x1⟩
end

/-! ### targets -/
abbrev FG := En → W → Option En
def tG (K : PySem.W.Frag) (mg : Str → Option Value) (fix : List Nat) (g : FG) : TG := fun v σ H Q => ∃ F en L w Lw en', StOk K mg F H σ en L ∧ Own K mg F H w v Lw ∧ (L ++ Lw).Nodup ∧ g en w = some en' ∧
  ∀ σ' F' H' L', StOk K mg F' H' σ' en' L' → Fixed fix σ σ' → Ext F H (L ++ Lw) F' H' L' → Q σ' H'
def tGs (K : PySem.W.Frag) (mg : Str → Option Value) (fix : List Nat) (g : En → List W → Option En) : TGs := fun vs σ H Q => ∃ F en L ws Lw en', StOk K mg F H σ en L ∧ Owns K mg F H ws vs Lw ∧ (L ++ Lw).Nodup ∧ g en ws = some en' ∧
  ∀ σ' F' H' L', StOk K mg F' H' σ' en' L' → Fixed fix σ σ' → Ext F H (L ++ Lw) F' H' L' → Q σ' H'
abbrev SG (X : Cx) (fix : List Nat) (tg : Expr) (g : FG) : Prop := PG X tg (tG X.K X.mg fix g)
abbrev SGs (X : Cx) (fix : List Nat) (tgs : List Expr) (g : En → List W → Option En) : Prop := PGs X tgs (tGs X.K X.mg fix g)
theorem pg_imp {X : Cx} {tg : Expr} {t t' : TG} (h : PG X tg t) (i : ∀ v σ H Q, t' v σ H Q → t v σ H Q) : PG X tg t' := ⟨fun pins s σ H v u Q I r q => h.run pins s σ H v u Q I r (i v σ H Q q)⟩
theorem pgs_imp {X : Cx} {tg : List Expr} {t t' : TGs} (h : PGs X tg t) (i : ∀ v σ H Q, t' v σ H Q → t v σ H Q) : PGs X tg t' := ⟨fun pins s σ H vs us Q I r q => h.run pins s σ H vs us Q I r (i vs σ H Q q)⟩
def gN (i : Nat) : FG := fun en w => if i < en.length then some (en.set i w) else none
section
variable {K : PySem.W.Frag} {mg : Str → Option Value} {fix : List Nat}
/-- a name takes a thing of its own -/
theorem name_takes {F H : Hp} {σ : L2.St} {en : En} {L Lw : List Addr} {i : Nat} {w : W} {v : V} (st : StOk K mg F H σ en L) (o : Own K mg F H w v Lw) (nd : (L ++ Lw).Nodup) (hi : i < en.length) :
    ∃ L', StOk K mg F H (σ.set i (some v)) (en.set i w) L' ∧ ∀ a ∈ L', a ∈ L ++ Lw := by
  obtain ⟨o0, La, Lm, Lb, e1, e2, e3, e4⟩ := st.own.get (List.getElem?_eq_getElem hi)
  subst e2
  have nd0 := st.nd
  have cl := st.cell
  obtain ⟨n1, n2⟩ := nodup3 nd0
  obtain ⟨m1, m2, m3⟩ := nd_app nd
  have hs : Stay F H F H (La ++ Lb) := ⟨Same.refl F, fun b hb => (cl b (by simp only [List.mem_append] at hb ⊢; rcases hb with z | z <;> simp [z])).2, fun _ _ => rfl⟩
  refine ⟨La ++ (Lw ++ Lb), ⟨st.sub, ?_, e4 F H w v Lw hs o⟩, fun a ha => ?_⟩
  · obtain ⟨q1, q2, q3⟩ := nd_app n1
    refine nd_of q1 (nd_of m2 q2 fun b hb hb' => m3 b (by simp [hb']) hb) fun b hb hb' => ?_
    rcases List.mem_append.mp hb' with z | z
    · exact m3 b (by simp [hb]) z
    · exact q3 b hb z
  · simp only [List.mem_append] at ha ⊢
    rcases ha with z | z | z <;> simp [z]
theorem fixed_set {σ : L2.St} {i : Nat} {v : V} (h : i ∉ fix) : Fixed fix σ (σ.set i (some v)) := fun j hj => by
  have : i ≠ j := fun z => h (z ▸ hj)
  rw [List.getElem?_set_ne this]
end
section
variable {X : Cx} {fix : List Nat} {tg e : Expr} {tgs : List Expr} {fe : FE} {g : FG} {gs : En → List W → Option En} {pos : Pos}
theorem tG_name {K : PySem.W.Frag} {mg : Str → Option Value} {i : Nat} (hfix : i ∉ fix) {v : V} {σ : L2.St} {H : Hp} {Q : L2.St → Hp → Prop} (q : tG K mg fix (gN i) v σ H Q) : gName i v σ H Q := by
  obtain ⟨F, en, L, w, Lw, en', st, o, nd, e, q⟩ := q
  unfold gN at e
  split at e
  · rename_i hi
    cases e
    obtain ⟨L', st', sub⟩ := name_takes st o nd hi
    exact q _ F H L' st' (fixed_set hfix) (Ext.refl.mem (fun _ h => h) sub)
  · cases e
theorem sg_name {i : Nat} {x : Str} (hN : X.N.Nodup) (hi : X.N[i]? = some x) (hx : Loc X.env.scope x) (hfix : i ∉ fix) (hf : X.fn x = true ∨ X.env.scope.names.lookup x = some .local := by first | exact .inl rfl | exact .inr rfl | assumption) : SG X fix (.Name x pos) (gN i) :=
  pg_imp (pg_name hN hi hx hf) fun v σ H Q q => tG_name hfix q
def gsNil : En → List W → Option En
  | en, [] => some en
  | _, _ :: _ => none
def gsCons (g : FG) (gs : En → List W → Option En) : En → List W → Option En
  | _, [] => none
  | en, w :: ws => match g en w with
    | none => none
    | some en' => gs en' ws
theorem tGs_nil {K : PySem.W.Frag} {mg : Str → Option Value} {vs : List V} {σ : L2.St} {H : Hp} {Q : L2.St → Hp → Prop} (q : tGs K mg fix gsNil vs σ H Q) : gNil vs σ H Q := by
  obtain ⟨F, en, L, ws, Lw, en', st, o, nd, e, q⟩ := q
  cases ws with
  | nil =>
    simp only [gsNil, Option.some.injEq] at e
    subst e
    cases vs with
    | nil =>
      simp only [Owns] at o
      subst o
      exact ⟨rfl, q σ F H L st Fixed.refl (by simpa using Ext.refl)⟩
    | cons v vs => simp only [Owns] at o
  | cons w ws => cases e
theorem sgs_nil : SGs X fix [] gsNil := pgs_imp pgs_nil fun vs σ H Q q => tGs_nil q
theorem tGs_cons {K : PySem.W.Frag} {mg : Str → Option Value} {vs : List V} {σ : L2.St} {H : Hp} {Q : L2.St → Hp → Prop} (q : tGs K mg fix (gsCons g gs) vs σ H Q) : gCons (tG K mg fix g) (tGs K mg fix gs) vs σ H Q := by
  obtain ⟨F, en, L, ws, Lw, en', st, o, nd, e, q⟩ := q
  cases ws with
  | nil => cases e
  | cons w ws =>
    simp only [gsCons] at e
    split at e
    · cases e
    rename_i en1 e1
    cases vs with
    | nil => simp only [Owns] at o
    | cons v vs =>
      simp only [Owns] at o
      obtain ⟨A, B, rfl, o1, o2⟩ := o
      have nd' : (L ++ A ++ B).Nodup := by simpa using nd
      obtain ⟨n1, n2, n3⟩ := nd_app nd'
      refine ⟨v, vs, rfl, F, en, L, w, A, en1, st, o1, n1, e1, fun σ1 F1 H1 L1 st1 f1 x1 => ?_⟩
      have dj : ∀ b ∈ B, b ∉ L ++ A := fun b hb hb' => n3 b hb' hb
      have ap := x1.apart (M := B) fun b hb => ⟨dj b hb, (o2.cell b hb).1.1⟩
      refine ⟨F1, en1, L1, ws, B, en', st1, o2.stay (x1.stay fun b hb => ⟨dj b hb, o2.cell b hb⟩), nd_of st1.nd n2 fun b hb hb' => ap b hb b hb' rfl, e, fun σ2 F2 H2 L2 st2 f2 x2 => ?_⟩
      exact q σ2 F2 H2 L2 st2 (f1.trans f2) (((x1.frame B).trans x2).mem (fun a h => by simpa using h) fun a h => h)
theorem sgs_cons (h1 : SG X fix tg g) (h2 : SGs X fix tgs gs) (hs : (assignEach (tg :: tgs) X.env).map (·.2) = assign tg X.env :: (assignEach tgs X.env).map (·.2) := by rfl) : SGs X fix (tg :: tgs) (gsCons g gs) := pgs_imp (pgs_cons h1 h2 hs) fun vs σ H Q q => tGs_cons q
/-- a, b, .. = a tuple or a list that stays -/
theorem assign_Tuple_list {prog : Program} {w : World} {A : Around} {E : Value → Shared → Prop} {s : Shared} {env : Env} {elts : List Expr} {k : Nat} {pos : Pos} {t : Addr} {items : Array Value} {Q : Unit → Shared → Prop} (hh : A.handled = none) (ht : s.heap.IsList t items)
    (hn : (assignEach elts env).length = items.size) (hstar : (assignEach elts env).findIdx? (·.1) = none)
    (h : ∀ h', Heap.ExtBut s.heap.objs.size s.heap h' → wpAny (model prog w) A (assignInOrder ((assignEach elts env).map (·.2)) items.toList) Q E { s with heap := h' }) :
    wpAny (model prog w) A (assign (.Tuple elts k pos) env (.ref t)) Q E s := by
  rw [assign_Tuple]
  refine wpAny_bind (wpAny_standAt ?_)
  unfold unpack
  rw [hn, hstar]
  exact wpAny_bind (wpAny_holding (PySem.W.kun_itemsOf hh ht h))
def gTupL (K : PySem.W.Frag) (n : Nat) (t : TGs) : TG := fun v σ H Q => ∃ a xs, v = .ref a ∧ (SqT K H a xs ∨ SqL K H a xs) ∧ xs.length = n ∧ t xs σ H Q
theorem pg_tupL {es : List Expr} {k : Nat} {t : TGs} {n : Nat} (hc : X.calm = true) (h : PGs X es t)
    (hn : (assignEach es X.env).length = n := by rfl) (hst : (assignEach es X.env).findIdx? (·.1) = none := by rfl) : PG X (.Tuple es k pos) (gTupL X.K n t) := by
  refine ⟨fun pins s σ H v u Q I r hw => ?_⟩
  obtain ⟨a, xs, e1, hq, hl, hw⟩ := hw
  subst e1
  cases r
  rcases hq with hq | hq
  · obtain ⟨its, rv, ht, hz⟩ := I.tuple hq
    refine assign_Tuple_tuple (I.ok.hd hc) ht (by simp [hn, ← hl, rv.length]) hst fun h' hx => ?_
    have I1 : Inv X pins σ H { s with heap := h' } := I.kept (t' := s.toks) fun b o e => hx b o (Nat.ne_of_lt (Heap.lt_size e)) e
    exact h.run pins _ σ H xs _ Q I1 (by simpa using rv) hw
  · obtain ⟨its, rv, ht, hz⟩ := I.list hq
    refine assign_Tuple_list (I.ok.hd hc) ht.isList (by simp [hn, ← hl, rv.length]) hst fun h' hx => ?_
    have I1 : Inv X pins σ H { s with heap := h' } := I.kept (t' := s.toks) fun b o e => hx b o (Nat.ne_of_lt (Heap.lt_size e)) e
    exact h.run pins _ σ H xs _ Q I1 (by simpa using rv) hw
def gTupT (n : Nat) (gs : En → List W → Option En) : FG := fun en w => match w with
  | .sh (.tup ds) => if ds.length = n then gs en (ds.map W.sh) else none
  | .sh (.lst ds) => if ds.length = n then gs en (ds.map W.sh) else none
  | _ => none
theorem sg_tup {n : Nat} {kt pt} (hc : X.calm = true) (h : SGs X fix tgs gs) (hn : (assignEach tgs X.env).length = n := by rfl) (hst : (assignEach tgs X.env).findIdx? (·.1) = none := by rfl) : SG X fix (.Tuple tgs kt pt) (gTupT n gs) :=
  pg_imp (pg_tupL hc h hn hst) fun v σ H Q q => by
    obtain ⟨F, en, L, w, Lw, en', st, o, nd, e, q⟩ := q
    unfold gTupT at e
    split at e
    · rename_i ds
      split at e
      · rename_i hl
        simp only [Own, Rep] at o
        obtain ⟨⟨a, vs, rfl, h1, h2⟩, rfl⟩ := o
        exact ⟨a, vs, rfl, .inl (seqT st.sub h1.1), h2.len.symm.trans hl, F, en, L, ds.map W.sh, [], en', st, owns_sh h2, nd, e, q⟩
      · cases e
    · rename_i ds
      split at e
      · rename_i hl
        simp only [Own, Rep] at o
        obtain ⟨⟨a, vs, rfl, h1, h2⟩, rfl⟩ := o
        exact ⟨a, vs, rfl, .inr (SqL.of (st.sub _ _ h1)), h2.len.symm.trans hl, F, en, L, ds.map W.sh, [], en', st, owns_sh h2, nd, e, q⟩
      · cases e
    · cases e
/-- target = e -/
def sAsg (fe : FE) (g : FG) : FS := fun en => match fe en with
  | none => none
  | some (en1, r) => match r.tk en1 with
    | none => none
    | some (en2, w) => match g en2 w with
      | none => none
      | some en' => some (en', .nx)
theorem tX_asg {D : Ends} {σ : L2.St} {H : Hp} (q : tX X.K X.mg fix (sAsg fe g) D σ H) : tAsg (tS X.K X.mg fe) (tG X.K X.mg fix g) D σ H := by
  obtain ⟨F, en, L, en', fl, st, e, q⟩ := q
  unfold sAsg at e
  split at e
  · cases e
  rename_i en1 r e1
  split at e
  · cases e
  rename_i en2 w e2
  split at e
  · cases e
  rename_i en3 e3
  cases e
  refine ⟨F, en, L, en1, r, st, e1, fun v F1 H1 L1 Lr st1 rr nd x => ?_⟩
  obtain ⟨F2, L2, Lr2, st2, o, nd2, x2⟩ := rr.tk st1 nd e2
  exact ⟨F2, en2, L2, w, Lr2, _, st2, o, nd2, e3, fun σ' F' H' L' st' f' x' => q σ' F' H' L' st' f' (x.trans (x2.trans x'))⟩
theorem ss_asg (he : SE X e fe) (hg : SG X fix tg g) (hs : swapsWithSole [tg] e pos.line X.env = pure false := by rfl) (hw : swappedStores [tg] e X.env = pure none := by rfl) (h1 : (assignEach [tg] X.env).map (·.2) = [assign tg X.env] := by rfl) : SS X fix (.Assign [tg] e pos) (sAsg fe g) :=
  ps_imp (ps_asg he hg hs hw h1) fun D σ H q => tX_asg q
/-- a, b = e1, e2 -/
def sPar (gs : En → List W → Option En) (fs : List FE) : FS := fun en => match evs fs en with
  | none => none
  | some (en1, rs) => match rtk en1 rs with
    | none => none
    | some (en2, ws) => match gs en2 ws with
      | none => none
      | some en' => some (en', .nx)
theorem par_behind {fs : List FE} {D : Ends} {σ : L2.St} {H : Hp} (q : tX X.K X.mg fix (sPar gs fs) D σ H) : tEv X.K X.mg fs σ H fun vs H1 => tGs X.K X.mg fix gs vs σ H1 D.nx := by
  obtain ⟨F, en, L, en', fl, st, e, q⟩ := q
  unfold sPar at e
  split at e
  · cases e
  rename_i en1 rs e1
  split at e
  · cases e
  rename_i en2 ws e2
  split at e
  · cases e
  rename_i en3 e3
  cases e
  refine ⟨F, en, L, en1, rs, st, e1, fun vs F1 H1 L1 Lr st1 rr nd x => ?_⟩
  obtain ⟨F2, L2, Lr2, st2, o, nd2, x2⟩ := rr.tk st1 (evs_stable e1) nd e2
  exact ⟨F2, en2, L2, ws, Lr2, _, st2, o, nd2, e3, fun σ' F' H' L' st' f' x' => q σ' F' H' L' st' f' (x.trans (x2.trans x'))⟩
/-- the pair is laid, then parted -/
theorem ss_parT {es : List Expr} {fs : List FE} {n : Nat} {kt pt k2 pt2} (hc : X.calm = true) (he : SA X es fs) (h : SGs X fix tgs gs) (hl : n ≤ sizeLine) (hn : fs.length = n) (hn' : (assignEach tgs X.env).length = n := by rfl) (hst : (assignEach tgs X.env).findIdx? (·.1) = none := by rfl)
    (hs : swapsWithSole [.Tuple tgs kt pt] (.Tuple es k2 pt2) pos.line X.env = pure false := by rfl) (hw : swappedStores [.Tuple tgs kt pt] (.Tuple es k2 pt2) X.env = pure none := by rfl) (h1 : (assignEach [.Tuple tgs kt pt] X.env).map (·.2) = [assign (.Tuple tgs kt pt) X.env] := by rfl) :
    SS X fix (.Assign [.Tuple tgs kt pt] (.Tuple es k2 pt2) pos) (sPar gs fs) :=
  ps_imp (ps_asg (pe_tup he) (pg_tup hc h hn' hst) hs hw h1) fun D σ H q => by
    obtain ⟨F, en, L, en1, rs, st, e1, k⟩ := par_behind q
    refine ⟨F, en, L, en1, rs, st, e1, fun vs F1 H1 L1 Lr st1 rr nd x => ?_⟩
    obtain ⟨F2, en2, L2, ws, Lw, en', st2, o, nd2, e2, q2⟩ := k vs F1 H1 L1 Lr st1 rr nd x
    have hlen : vs.length = n := by
      have l1 : ∀ {fs : List FE} {en en' : En} {rs : List R}, evs fs en = some (en', rs) → rs.length = fs.length := by
        intro fs
        induction fs with
        | nil => intro en en' rs e; simp only [evs, Option.some.injEq, Prod.mk.injEq] at e; rw [← e.2]; rfl
        | cons f fs ih =>
          intro en en' rs e
          simp only [evs] at e
          split at e
          · cases e
          split at e
          · cases e
          split at e
          · cases e
          rename_i e3
          cases e
          simp [ih e3]
      have l2 : ∀ {rs : List R} {vs : List V} {Lr : List Addr}, RRs X.K X.mg F1 H1 σ en1 L1 rs vs Lr → rs.length = vs.length := by
        intro rs
        induction rs with
        | nil => intro vs Lr h; cases vs <;> first | rfl | simp only [RRs] at h
        | cons r rs ih =>
          intro vs Lr h
          cases vs with
          | nil => simp only [RRs] at h
          | cons v vs =>
            simp only [RRs] at h
            obtain ⟨_, _, _, _, h⟩ := h
            simp [ih h]
      rw [← l2 rr, l1 e1, hn]
    refine ⟨by rw [hlen]; exact hl, fun p hp => ?_⟩
    obtain ⟨z1, z2⟩ := lay_owned (o := .tup vs) st2 hp
    have hpn : ∀ b ∈ Lw, b ≠ p := fun b hb z => by subst z; exact (o.cell b hb).1.1 hp
    have o' := o.stay (F' := F2) (H' := upd H1 p (.tup vs)) ⟨Same.refl F2, fun b hb => (o.cell b hb).2, fun b hb => upd_ne (hpn b hb)⟩
    refine ⟨p, vs, rfl, SqT.of upd_same, hlen, F2, en2, L2, ws, Lw, en', z1, o', nd2, e2, fun σ' F' H' L' st' f' x' => q2 σ' F' H' L' st' f' ?_⟩
    refine ((z2.frame Lw).trans (x'.mem (fun a h => ?_) fun a h => h))
    simp only [List.mem_append] at h ⊢
    rcases h with z | z <;> simp [z]
theorem ss_par2 {i j : Nat} {x y : Str} {a b : Expr} {fa fb : FE} {px py pt : Pos} {kt k2 pt2} (hc : X.calm = true) (hN : X.N.Nodup) (hi : X.N[i]? = some x) (hj : X.N[j]? = some y) (hij : i ≠ j)
    (hx : X.env.scope.names.lookup x = some .local) (hy : X.env.scope.names.lookup y = some .local) (fi : i ∉ fix) (fj : j ∉ fix) (ha : SA X [a, b] [fa, fb])
    (hw : swappedStores [.Tuple [.Name x px, .Name y py] kt pt] (.Tuple [a, b] k2 pt2) X.env = pure (some [x, y]))
    (hs : swapsWithSole [.Tuple [.Name x px, .Name y py] kt pt] (.Tuple [a, b] k2 pt2) pos.line X.env = pure false := by rfl) :
    SS X fix (.Assign [.Tuple [.Name x px, .Name y py] kt pt] (.Tuple [a, b] k2 pt2) pos) (sPar (gsCons (gN i) (gsCons (gN j) gsNil)) [fa, fb]) :=
  ps_imp (ps_par hc hN hi hj hij hx hy ha hw hs) fun D σ H q => by
    obtain ⟨F, en, L, en1, rs, st, e1, k⟩ := par_behind q
    refine ⟨F, en, L, en1, rs, st, e1, fun vs F1 H1 L1 Lr st1 rr nd x => ?_⟩
    obtain ⟨v, vs', rfl, z1⟩ := tGs_cons (k vs F1 H1 L1 Lr st1 rr nd x)
    obtain ⟨w, vs2, rfl, z2⟩ := tGs_cons (tG_name fi z1)
    obtain ⟨rfl, z3⟩ := tGs_nil (tG_name fj z2)
    exact ⟨v, w, rfl, z3⟩
theorem ss_par3 {i j l : Nat} {x y z : Str} {a b c : Expr} {fa fb fc : FE} {px py pz pt : Pos} {kt k2 pt2} (hc : X.calm = true) (hN : X.N.Nodup) (hi : X.N[i]? = some x) (hj : X.N[j]? = some y) (hl : X.N[l]? = some z) (hij : i ≠ j) (hil : i ≠ l) (hjl : j ≠ l)
    (hx : X.env.scope.names.lookup x = some .local) (hy : X.env.scope.names.lookup y = some .local) (hz : X.env.scope.names.lookup z = some .local) (fi : i ∉ fix) (fj : j ∉ fix) (fl : l ∉ fix) (ha : SA X [a, b, c] [fa, fb, fc])
    (hw : swappedStores [.Tuple [.Name x px, .Name y py, .Name z pz] kt pt] (.Tuple [a, b, c] k2 pt2) X.env = pure (some [x, y, z]))
    (hs : swapsWithSole [.Tuple [.Name x px, .Name y py, .Name z pz] kt pt] (.Tuple [a, b, c] k2 pt2) pos.line X.env = pure false := by rfl) :
    SS X fix (.Assign [.Tuple [.Name x px, .Name y py, .Name z pz] kt pt] (.Tuple [a, b, c] k2 pt2) pos) (sPar (gsCons (gN i) (gsCons (gN j) (gsCons (gN l) gsNil))) [fa, fb, fc]) :=
  ps_imp (ps_par3 hc hN hi hj hl hij hil hjl hx hy hz ha hw hs) fun D σ H q => by
    obtain ⟨F, en, L, en1, rs, st, e1, k⟩ := par_behind q
    refine ⟨F, en, L, en1, rs, st, e1, fun vs F1 H1 L1 Lr st1 rr nd x => ?_⟩
    obtain ⟨v, vs', rfl, z1⟩ := tGs_cons (k vs F1 H1 L1 Lr st1 rr nd x)
    obtain ⟨w, vs2, rfl, z2⟩ := tGs_cons (tG_name fi z1)
    obtain ⟨u, vs3, rfl, z3⟩ := tGs_cons (tG_name fj z2)
    obtain ⟨rfl, z4⟩ := tGs_nil (tG_name fl z3)
    exact ⟨v, w, u, rfl, z4⟩
/-- name op= e -/
def sAug (i : Nat) (g : En → List R → Option (En × R)) (f : FE) : FS := fun en => match evs [fVar i, f] en with
  | none => none
  | some (en1, rs) => match g en1 rs with
    | none => none
    | some (en2, r) => match r.tk en2 with
      | none => none
      | some (en3, w) => if i < en3.length then some (en3.set i w, .nx) else none
theorem ss_aug {i : Nat} {x : Str} {e : Expr} {f : FE} {op : Operator} {r : R2} {g : En → List R → Option (En × R)} {pos' : Pos} (hN : X.N.Nodup) (hi : X.N[i]? = some x) (hx : Loc X.env.scope x) (he : SE X e f) (ho : PIp X op (fun x y H Q => r x y H Q)) (o : OpN X.K X.mg (r2N r) g) (hfix : i ∉ fix)
    (hf : X.fn x = true ∨ X.env.scope.names.lookup x = some .local := by first | exact .inl rfl | exact .inr rfl | assumption) : SS X fix (.AugAssign (.Name x pos') op e pos) (sAug i g f) :=
  ps_imp (ps_aug hN hi hx he ho hf) fun D σ H q => by
    obtain ⟨F, en, L, en', fl, st, e, q⟩ := q
    unfold sAug at e
    split at e
    · cases e
    rename_i en1 rs e1
    split at e
    · cases e
    rename_i en2 r0 e2
    split at e
    · cases e
    rename_i en3 w e3
    split at e
    · rename_i hlt
      cases e
      simp only [evs] at e1
      split at e1
      · cases e1
      rename_i ena ra ea
      split at e1
      · cases e1
      rename_i enb rb eb
      split at e1
      · cases e1
      rename_i enc rc ec
      cases e1
      split at ec
      · cases ec
      rename_i end_ re ee
      split at ec
      · cases ec
      rename_i enf rf ef
      cases ec
      -- the name's own value
      have nm : ena = en ∧ ra.stable = true ∧ ∃ v, σ[i]? = some (some v) ∧ RR X.K X.mg F H σ en L ra v [] := by
        unfold fVar at ea
        cases hw : en[i]? with
        | none => rw [hw] at ea; cases ea
        | some w0 =>
          rw [hw] at ea
          obtain ⟨o0, La, Lm, Lb, g1, g2, g3, g4⟩ := st.own.get hw
          rcases g3 with ⟨v, rfl, ho⟩ | ⟨_, rfl, _⟩
          · cases w0 with
            | sh d =>
              have hd : Rep X.K X.mg F d v := by simp only [Own] at ho; exact ho.1
              cases d <;> simp only [Option.some.injEq, Prod.mk.injEq] at ea <;> first
                | (cases ea; done)
                | (obtain ⟨rfl, rfl⟩ := ea
                   exact ⟨rfl, rfl, v, g1, by simp only [RR]; exact own_sh hd⟩)
            | _ =>
              simp only [Option.some.injEq, Prod.mk.injEq] at ea
              obtain ⟨rfl, rfl⟩ := ea
              exact ⟨rfl, rfl, v, g1, by simp only [RR]; exact ⟨trivial, g1⟩⟩
          · simp at ea
      obtain ⟨rfl, hst, v, hv, rv⟩ := nm
      have hb : enb = ena ∧ rb = ra := by
        cases ra with
        | val w => simp only [R.st, Option.some.injEq, Prod.mk.injEq] at eb; exact ⟨eb.1.symm, eb.2.symm⟩
        | pl k p =>
          cases p with
          | nil => simp only [R.st, Option.some.injEq, Prod.mk.injEq] at eb; exact ⟨eb.1.symm, eb.2.symm⟩
          | cons _ _ => cases hst
      obtain ⟨rfl, rfl⟩ := hb
      refine ⟨v, hv, ?_⟩
      refine ev_then (rs := [rb]) (vs := [v]) (Lr := []) st (by simp only [RRs]; exact ⟨[], [], rfl, rv, rfl⟩) (by simpa using hst) (by simpa using st.nd) ee fun y F1 H1 L1 Lr1 st1 rr1 r2 nd1 x1 => ?_
      obtain ⟨F2, L2, Lr2, st2, r3, nd2, x2, hs2⟩ := RR.st st1 r2 (by simpa using nd1) ef
      have rr2 : RR X.K X.mg F2 H1 σ en1 L2 rb v [] := by
        simp only [RRs] at rr1
        obtain ⟨A, B, e0, h1, _⟩ := rr1
        have hA : A = [] := by
          have := e0
          simp at this
          exact this.1
        subst hA
        exact h1.keep (M := L1 ++ Lr1) hst (x2.mem (fun _ h => h) fun a h => by simp [h]) (fun b hb => by simp at hb)
      have opq := o F2 H1 σ en1 L2 [rb, rf] [v, y] Lr2 en2 r0 st2 (by simp only [RRs]; exact ⟨[], Lr2, rfl, rr2, Lr2, [], by simp, r3, rfl⟩) (by simp [hst, hs2]) (by simpa using nd2) e2 (fun z H2 => D.nx (σ.set i (some z)) H2) fun z F3 H3 L3 Lr3 st3 rr3 nd3 x3 => by
        obtain ⟨F4, L4, Lr4, st4, ow, nd4, x4⟩ := rr3.tk st3 nd3 e3
        obtain ⟨L5, st5, sub⟩ := name_takes st4 ow nd4 hlt
        exact q _ F4 H3 L5 st5 (fixed_set hfix) ((x1.mem (fun a h => by simpa using h) fun a h => by simpa using h).trans (x2.trans (x3.trans (x4.mem (fun _ h => h) sub))))
      obtain ⟨a, b, e0, hh⟩ := opq
      cases e0
      exact hh
    · cases e
end
end Pu

/-! Pu10: lists that are written: stores at a place, append, extend, pop. -/
namespace Pu
open PySem PySem.Spec PyProof.Rows L2

section
variable {K : PySem.W.Frag} {mg : Str → Option Value} {σ : L2.St}
/-- expressions while a thing of one's own is held -/
theorem evs_with {F H : Hp} {en en1 : En} {L Lw : List Addr} {fs : List FE} {rs : List R} {w : W} {v : V} {Q : List V → Hp → Prop} (st : StOk K mg F H σ en L) (o : Own K mg F H w v Lw) (nd : (L ++ Lw).Nodup) (e : evs fs en = some (en1, rs))
    (q : ∀ vs F1 H1 L1 Lr1, StOk K mg F1 H1 σ en1 L1 → RRs K mg F1 H1 σ en1 L1 rs vs Lr1 → Own K mg F1 H1 w v Lw → (L1 ++ (Lr1 ++ Lw)).Nodup → Ext F H (L ++ Lw) F1 H1 (L1 ++ (Lr1 ++ Lw)) → Q vs H1) : tEv K mg fs σ H Q := by
  refine ⟨F, en, L, en1, rs, st, e, fun vs F1 H1 L1 Lr1 st1 rr1 nd1 x1 => ?_⟩
  obtain ⟨n1, n2, n3⟩ := nd_app nd
  obtain ⟨m1, m2, m3⟩ := nd_app nd1
  have dj : ∀ b ∈ Lw, b ∉ L := fun b hb hb' => n3 b hb' hb
  have ap := x1.apart (M := Lw) fun b hb => ⟨dj b hb, (o.cell b hb).1.1⟩
  refine q vs F1 H1 L1 Lr1 st1 rr1 (o.stay (x1.stay fun b hb => ⟨dj b hb, o.cell b hb⟩)) ?_ ?_
  · refine nd_of m1 (nd_of m2 n2 fun b hb hb' => ap b (by simp [hb]) b hb' rfl) fun b hb hb' => ?_
    rcases List.mem_append.mp hb' with z | z
    · exact m3 b hb z
    · exact ap b (by simp [hb]) b z rfl
  · exact (x1.frame Lw).mem (fun a h => h) fun a h => by simpa using h
/-- a list at a place is written -/
theorem write_at {F H : Hp} {en : En} {L : List Addr} {i : Nat} {p : List Nat} {ws : List W} {v : V} {La Lm Lb : List Addr} (st : StOk K mg F H σ en L) (P : PartO K mg F H σ en L i p (.lst ws) v La Lm Lb) :
    ∃ a xs L', v = .ref a ∧ H a = some (.lst xs) ∧ Lm = a :: L' ∧ Owns K mg F H ws xs L' ∧ (a :: L').Nodup ∧
      ∀ (ws' : List W) (xs' : List V) (Ln : List Addr), Owns K mg F H ws' xs' Ln → Ln.Nodup → (∀ b ∈ Ln, b ≠ a ∧ b ∉ La ++ Lb) →
        StOk K mg F (upd H a (.lst xs')) σ (en.put i p (.lst ws')) (La ++ (a :: (Ln ++ Lb))) ∧ ∀ M : List Addr, (∀ b ∈ La ++ (a :: (Ln ++ Lb)), b ∈ M) → Ext F H M F (upd H a (.lst xs')) (La ++ (a :: (Ln ++ Lb))) := by
  obtain ⟨g, eL, o, kk⟩ := P
  simp only [Own] at o
  obtain ⟨a, xs, L', rfl, h2, h3, rfl, h5⟩ := o
  subst eL
  have nd0 := st.nd
  have cl := st.cell
  obtain ⟨n1, n2⟩ := nodup3 nd0
  have nm : (a :: L').Nodup := (nd_app (nd_app nd0).2.1).1
  refine ⟨a, xs, L', rfl, h2, rfl, h5, nm, fun ws' xs' Ln ow nn dj => ?_⟩
  have hne : ∀ b ∈ La ++ Lb, b ≠ a := fun b hb z => n2 b hb (by simp [z])
  have cl2 : ∀ b ∈ La ++ Lb, F b = none := fun b hb => (cl b (by simp only [List.mem_append] at hb ⊢; rcases hb with z | z <;> simp [z])).2
  have sub : Same F (upd H a (.lst xs')) := fun b u e => by
    have hb : b ≠ a := fun z => by subst z; rw [h3] at e; cases e
    rw [upd_ne hb]
    exact st.sub b u e
  have hs : Stay F H F (upd H a (.lst xs')) (La ++ Lb) := ⟨Same.refl F, cl2, fun b hb => upd_ne (hne b hb)⟩
  have own' : Own K mg F (upd H a (.lst xs')) (.lst ws') (.ref a) (a :: Ln) := by
    simp only [Own]
    exact ⟨a, xs', Ln, rfl, upd_same, h3, rfl, ow.stay ⟨Same.refl F, fun b hb => (ow.cell b hb).2, fun b hb => upd_ne (dj b hb).1⟩⟩
  have q := kk F (upd H a (.lst xs')) (.lst ws') (a :: Ln) hs own'
  refine ⟨⟨sub, ?_, q⟩, fun M hM => ⟨fun b u e nb => ?_, fun b e => ?_, Same.refl F, fun b e => .inl e, fun b hb => .inl (hM b hb)⟩⟩
  · obtain ⟨q1, q2, q3⟩ := nd_app n1
    refine nd_of q1 (List.nodup_cons.mpr ⟨fun z => ?_, nd_of nn q2 fun b hb hb' => (dj b hb).2 (by simp [hb'])⟩) fun b hb hb' => ?_
    · rcases List.mem_append.mp z with z | z
      · exact (dj a z).1 rfl
      · exact hne a (by simp [z]) rfl
    · rcases List.mem_cons.mp hb' with z | z
      · exact hne b (by simp [hb]) z
      · rcases List.mem_append.mp z with y | y
        · exact (dj b y).2 (by simp [hb])
        · exact q3 b hb y
  · have hb : b ≠ a := fun z => nb (hM b (by simp [z]))
    rw [upd_ne hb]
    exact e
  · by_cases z : b = a
    · subst z; rw [upd_same]; simp
    · rw [upd_ne z]; exact e
theorem Owns.append {F H : Hp} : ∀ {ws us : List W} {vs xs : List V} {L M : List Addr}, Owns K mg F H ws vs L → Owns K mg F H us xs M → Owns K mg F H (ws ++ us) (vs ++ xs) (L ++ M)
  | [], us, [], xs, L, M, h, h' => by
    simp only [Owns] at h
    subst h
    simpa using h'
  | w :: ws, us, v :: vs, xs, L, M, h, h' => by
    simp only [Owns] at h
    obtain ⟨A, B, rfl, h1, h2⟩ := h
    simp only [List.cons_append, Owns]
    exact ⟨A, B ++ M, by simp, h1, h2.append h'⟩
  | [], _, _ :: _, _, _, _, h, _ => by simp only [Owns] at h
  | _ :: _, _, [], _, _, _, h, _ => by simp only [Owns] at h
theorem Owns.one {F H : Hp} {w : W} {v : V} {L : List Addr} (h : Own K mg F H w v L) : Owns K mg F H [w] [v] L := by
  simp only [Owns]
  exact ⟨L, [], by simp, h, rfl⟩
end

/-! ### x[i] = e -/
def gSetI (fo fi : FE) : FG := fun en w => match evs [fo, fi] en with
  | some (en1, [.pl k [], r2]) => match r2.d en1 with
    | some (.int n) => match en1[k]? with
      | some (.lst ws) => match ixN ws.length n with
        | some j => some (en1.put k [] (.lst (ws.set j w)))
        | none => none
      | _ => none
    | _ => none
  | _ => none
section
variable {X : Cx} {fix : List Nat} {o i : Expr} {fo fi : FE} {pos p2 : Pos}
theorem sg_sub (ho : SE X o fo) (hi : SE X i fi) (hp : PG X (.Subscript o i pos) (gSub (tS X.K X.mg fo) (tS X.K X.mg fi) rSetL)) : SG X fix (.Subscript o i pos) (gSetI fo fi) :=
  pg_imp hp fun v σ H Q q => by
    obtain ⟨F, en, L, w, Lw, en', st, ow, nd, e, q⟩ := q
    unfold gSetI at e
    split at e
    · rename_i en1 k r2 e1
      split at e
      · rename_i n en2
        split at e
        · rename_i ws ew
          split at e
          · rename_i j ej
            cases e
            refine tEv_two (K := X.K) (mg := X.mg) (R := fun a b H2 => rSetL a b v H2 fun H3 => Q σ H3) (evs_with st ow nd e1 fun vs F1 H1 L1 Lr1 st1 rr1 ow1 nd1 x1 => ?_)
            obtain ⟨v1, v2, A, B, rfl, rfl, h1, h2⟩ := rrs2 rr1
            refine ⟨v1, v2, rfl, ?_⟩
            have := rep_int (h2.peek st1 en2)
            subst this
            simp only [RR] at h1
            obtain ⟨rfl, hσ⟩ := h1
            obtain ⟨w0, La, Lm, Lb, P⟩ := part_name st1.own hσ
            have hw0 : w0 = .lst ws := by
              have g := P.1
              simp only [En.get, ew, W.get, Option.some.injEq] at g
              exact g.symm
            subst hw0
            have eL := P.2.1
            obtain ⟨a, xs, L', rfl, ha, rfl, ho, na, wr⟩ := write_at st1 P
            subst eL
            have hj : ixN xs.length n = some j := by rw [← ho.len]; exact ej
            have hjlt : j < ws.length := (ixN_seq ej).2.1
            obtain ⟨y, Ma, Mm, Mb, z1, z2, z3, z4⟩ := ho.get (List.getElem?_eq_getElem hjlt)
            subst z2
            have cl1 := st1.cell
            have so : Stay F1 H1 F1 H1 (Ma ++ Mb) := ⟨Same.refl F1, fun b hb => (ho.cell b (by simp only [List.mem_append] at hb ⊢; rcases hb with z | z <;> simp [z])).2, fun _ _ => rfl⟩
            have o2 := z4 F1 H1 w v Lw so ow1
            have nd1' : ((La ++ (a :: (Ma ++ (Mm ++ Mb)) ++ Lb)) ++ ((([] : List Addr) ++ B) ++ Lw)).Nodup := nd1
            obtain ⟨k1, k2, k3⟩ := nd_app nd1'
            have lw : ∀ b ∈ Lw, b ∉ La ++ (a :: (Ma ++ (Mm ++ Mb)) ++ Lb) := fun b hb hb' => k3 b hb' (by simp [hb])
            have ndL : Lw.Nodup := (nd_app k2).2.1
            have nMM := (List.nodup_cons.mp na).2
            obtain ⟨j1, j2, j3⟩ := nd_app nMM
            obtain ⟨j4, j5, j6⟩ := nd_app j2
            have nLL := nodup3 k1
            obtain ⟨st2, ex⟩ := wr _ _ _ o2 (nd_of j1 (nd_of ndL j5 fun b hb hb' => lw b hb (by simp [hb'])) fun b hb hb' => by
              rcases List.mem_append.mp hb' with z | z
              · exact lw b z (by simp [hb])
              · exact j3 b hb (by simp [z])) fun b hb => by
                have na' := (List.nodup_cons.mp na).1
                simp only [List.mem_append] at hb
                refine ⟨fun z => ?_, fun z => ?_⟩
                · subst z
                  rcases hb with y | y | y
                  · exact na' (by simp [y])
                  · exact lw b y (by simp)
                  · exact na' (by simp [y])
                · rcases hb with y | y | y
                  · exact nLL.2 b z (by simp [y])
                  · simp only [List.mem_append] at z
                    rcases z with z | z
                    · exact lw b y (by simp [z])
                    · exact lw b y (by simp [z])
                  · exact nLL.2 b z (by simp [y])
            refine ⟨a, xs, n, j, rfl, rfl, ha, hj, q σ F1 _ _ st2 Fixed.refl (x1.trans (ex _ fun b hb => ?_))⟩
            simp only [List.mem_append, List.mem_cons] at hb ⊢
            rcases hb with z | z | (z | z | z) | z <;> simp [z]
          · cases e
        · cases e
      · cases e
    · cases e
end

/-! ### methods that write a list -/
section
variable {K : PySem.W.Frag} {mg : Str → Option Value} {σ : L2.St}
theorem tyV_list {T : String} {a : Addr} {xs : List V} {H : Hp} (h : H a = some (.lst xs)) (hT : T = "list") : tyV K T (.ref a) H := .inl ⟨hT, xs, SqL.of h⟩
/-- a name's list at the time of its first reading -/
theorem name_list {F H : Hp} {en : En} {L : List Addr} {k : Nat} {v : V} (st : StOk K mg F H σ en L) (hσ : σ[k]? = some (some v)) {ws : List W} (hw : en[k]? = some (.lst ws)) : ∃ a xs, v = .ref a ∧ H a = some (.lst xs) := by
  obtain ⟨w0, La, Lm, Lb, P⟩ := part_name st.own hσ
  have g := P.1
  simp only [En.get, hw, W.get, Option.some.injEq] at g
  subst g
  have o := P.2.2.1
  simp only [Own] at o
  obtain ⟨a, xs, _, e, h, _⟩ := o
  exact ⟨a, xs, e, h⟩
end
theorem nd_mid {α : Type} {La Lb : List α} {a : α} {L' Lw : List α} (h : ((La ++ (a :: L' ++ Lb)) ++ Lw).Nodup) : (L' ++ Lw).Nodup ∧ (∀ b ∈ L' ++ Lw, b ≠ a ∧ b ∉ La ++ Lb) := by
  obtain ⟨k1, k2, k3⟩ := nd_app h
  obtain ⟨q1, q2, q3⟩ := nd_app k1
  have q2' : (a :: (L' ++ Lb)).Nodup := by simpa using q2
  obtain ⟨na, q4⟩ := List.nodup_cons.mp q2'
  obtain ⟨q5, q6, q7⟩ := nd_app q4
  refine ⟨nd_of q5 k2 fun b hb hb' => k3 b (by simp [hb]) hb', fun b hb => ?_⟩
  rcases List.mem_append.mp hb with z | z
  · refine ⟨fun e => na (by simp [← e, z]), fun y => ?_⟩
    rcases List.mem_append.mp y with y | y
    · exact q3 b y (by simp [z])
    · exact q7 b z y
  · refine ⟨fun e => k3 a (by simp) (e ▸ z), fun y => ?_⟩
    rcases List.mem_append.mp y with y | y
    · exact k3 b (by simp [y]) z
    · exact k3 b (by simp [y]) z
/-- what a method of one argument makes of a list -/
abbrev FM := List W → W → Option (List W × W)
def MutOk (K : PySem.W.Frag) (mg : Str → Option Value) (r : V → List V → Hp → VK → Prop) (m : FM) : Prop :=
  ∀ (F H : Hp) (a : Addr) (ws : List W) (w : W) (ws' : List W) (z : W) (xs : List V) (v : V) (L' Lw : List Addr) (Q : VK), m ws w = some (ws', z) → Owns K mg F H ws xs L' → Own K mg F H w v Lw → Same F H → H a = some (.lst xs) → (L' ++ Lw).Nodup → a ∉ L' ++ Lw →
    ∃ xs' y Ln Lz, Owns K mg F H ws' xs' Ln ∧ Own K mg F H z y Lz ∧ (Ln ++ Lz).Nodup ∧ (∀ b ∈ Ln ++ Lz, b ∈ L' ++ Lw) ∧ (Q y (upd H a (.lst xs')) → r (.ref a) [v] H Q)
def mApp : FM := fun ws w => if ws.length < sizeLine then some (ws ++ [w], .sh .non) else none
def mPopAt : FM := fun ws w => match w with
  | .sh (.int i) => if -(2 ^ 63) ≤ i ∧ i < 2 ^ 63 then match seqIndex? i ws.length with
    | some k => match ws[k]? with
      | some z => some (ws.eraseIdx k, z)
      | none => none
    | none => none else none
  | _ => none
def mExt : FM := fun ws w => match w with
  | .sh (.lst ds) => if ws.length + ds.length ≤ sizeLine then some (ws ++ ds.map W.sh, .sh .non) else none
  | .lst us => if ws.length + us.length ≤ sizeLine then some (ws ++ us, .sh .non) else none
  | _ => none
section
variable {K : PySem.W.Frag} {mg : Str → Option Value}
theorem mut_app : MutOk K mg rAppend mApp := by
  intro F H a ws w ws' z xs v L' Lw Q e o ow s ha nd na
  unfold mApp at e
  split at e
  · rename_i hl
    cases e
    exact ⟨xs ++ [v], .non, L' ++ Lw, [], o.append (Owns.one ow), own_sh (rep_v rfl), by simpa using nd, fun b hb => by simpa using hb, fun q => ⟨a, xs, v, rfl, rfl, ha, by rw [← o.len]; exact hl, q⟩⟩
  · cases e
theorem Owns.erase {F H : Hp} : ∀ {ws : List W} {vs : List V} {L : List Addr} {k : Nat} {w : W}, Owns K mg F H ws vs L → ws[k]? = some w → ∃ v La Lm Lb, vs[k]? = some v ∧ L = La ++ (Lm ++ Lb) ∧ Own K mg F H w v Lm ∧ Owns K mg F H (ws.eraseIdx k) (vs.eraseIdx k) (La ++ Lb)
  | [], _, _, _, _, _, e => by simp at e
  | _ :: _, [], _, _, _, h, _ => by simp only [Owns] at h
  | w0 :: ws, v0 :: vs, L, 0, w, h, e => by
    simp only [Owns] at h
    obtain ⟨A, B, rfl, h1, h2⟩ := h
    simp only [List.getElem?_cons_zero, Option.some.injEq] at e
    subst e
    exact ⟨v0, [], A, B, rfl, rfl, h1, by simpa using h2⟩
  | w0 :: ws, v0 :: vs, L, k + 1, w, h, e => by
    simp only [Owns] at h
    obtain ⟨A, B, rfl, h1, h2⟩ := h
    simp only [List.getElem?_cons_succ] at e
    obtain ⟨v, La, Lm, Lb, e1, rfl, e3, e4⟩ := h2.erase e
    refine ⟨v, A ++ La, Lm, Lb, by simpa using e1, by simp, e3, ?_⟩
    simp only [List.eraseIdx_cons_succ, Owns]
    exact ⟨A, La ++ Lb, by simp, h1, e4⟩
theorem mut_popAt : MutOk K mg rPopAt mPopAt := by
  intro F H a ws w ws' z xs v L' Lw Q e o ow s ha nd na
  unfold mPopAt at e
  split at e
  · rename_i i
    split at e
    · rename_i hi
      split at e
      · rename_i k hk
        split at e
        · rename_i z' hz
          cases e
          simp only [Own] at ow
          have := rep_int ow.1
          subst this
          obtain ⟨y, La, Lm, Lb, e1, rfl, e3, e4⟩ := o.erase hz
          refine ⟨xs.eraseIdx k, y, La ++ Lb, Lm, e4, e3, ?_, fun b hb => ?_, fun q => ⟨a, xs, i, k, y, rfl, rfl, ha, hi.1, hi.2, by rw [← o.len]; exact hk, e1, q⟩⟩
          · obtain ⟨n1, n2⟩ := nodup3 (nd_app nd).1
            exact nd_of n1 (nd_app (nd_app (nd_app nd).1).2.1).1 n2
          · simp only [List.mem_append] at hb ⊢
            rcases hb with (y | y) | y <;> simp [y]
        · cases e
      · cases e
    · cases e
  · cases e
theorem mut_ext : MutOk K mg rExtend mExt := by
  intro F H a ws w ws' z xs v L' Lw Q e o ow s ha nd na
  unfold mExt at e
  split at e
  · rename_i ds
    split at e
    · rename_i hl
      cases e
      simp only [Own, Rep] at ow
      obtain ⟨⟨b, ys, rfl, hb, rp⟩, rfl⟩ := ow
      refine ⟨xs ++ ys, .non, L' ++ [], [], o.append (owns_sh rp), own_sh (rep_v rfl), by simpa using nd, fun b hb => by simpa using hb, fun q => ⟨a, b, xs, ys, rfl, rfl, ha, s _ _ hb, by rw [← o.len, ← rp.len]; exact hl, q⟩⟩
    · cases e
  · rename_i us
    split at e
    · rename_i hl
      cases e
      simp only [Own] at ow
      obtain ⟨b, ys, Lu, rfl, hb, hfb, rfl, ou⟩ := ow
      obtain ⟨n1, n2, n3⟩ := nd_app nd
      refine ⟨xs ++ ys, .non, L' ++ Lu, [], o.append ou, own_sh (rep_v rfl), ?_, fun c hc => ?_, fun q => ⟨a, b, xs, ys, rfl, rfl, ha, hb, by rw [← o.len, ← ou.len]; exact hl, q⟩⟩
      · simpa using nd_of n1 (List.nodup_cons.mp n2).2 fun c hc hc' => n3 c hc (by simp [hc'])
      · simp only [List.mem_append, List.not_mem_nil, or_false] at hc
        rcases hc with y | y <;> simp [y]
    · cases e
  · cases e
/-- the method's call at a place -/
theorem mut_place {F H : Hp} {σ : L2.St} {en : En} {L Lw : List Addr} {i : Nat} {p : List Nat} {ws ws' : List W} {w z : W} {v x : V} {La Lm Lb : List Addr} {r : V → List V → Hp → VK → Prop} {m : FM} {Q : VK} (hm : MutOk K mg r m) (st : StOk K mg F H σ en L) (P : PartO K mg F H σ en L i p (.lst ws) x La Lm Lb) (ow : Own K mg F H w v Lw) (nd : (L ++ Lw).Nodup) (e : m ws w = some (ws', z))
    (q : ∀ y F' H' L' Lr', StOk K mg F' H' σ (en.put i p (.lst ws')) L' → RR K mg F' H' σ (en.put i p (.lst ws')) L' (.val z) y Lr' → (L' ++ Lr').Nodup → Ext F H (L ++ Lw) F' H' (L' ++ Lr') → Q y H') : r x [v] H Q := by
  have eL := P.2.1
  obtain ⟨a, xs, L', rfl, ha, rfl, ho, na, wr⟩ := write_at st P
  subst eL
  obtain ⟨nn, sep⟩ := nd_mid (by simpa using nd : ((La ++ (a :: L' ++ Lb)) ++ Lw).Nodup)
  obtain ⟨xs', y, Ln, Lz, o1, o2, nz, sub, k⟩ := hm F H a ws w ws' z xs v L' Lw Q e ho ow st.sub ha nn fun h => (sep a h).1 rfl
  refine k ?_
  obtain ⟨st2, ex⟩ := wr ws' xs' Ln o1 (nd_app nz).1 fun b hb => sep b (sub b (by simp [hb]))
  have dz : ∀ b ∈ Lz, b ≠ a ∧ b ∉ La ++ Lb := fun b hb => sep b (sub b (by simp [hb]))
  refine q y F _ _ Lz st2 (by simp only [RR]; exact o2.stay ⟨Same.refl F, fun b hb => (o2.cell b hb).2, fun b hb => upd_ne (dz b hb).1⟩) ?_ ?_
  · refine nd_of st2.nd (nd_app nz).2.1 fun b hb hb' => ?_
    rcases List.mem_append.mp hb with y | y
    · exact (dz b hb').2 (by simp [y])
    · rcases List.mem_cons.mp y with y | y
      · exact (dz b hb').1 y
      · rcases List.mem_append.mp y with y | y
        · exact (nd_app nz).2.2 b y hb'
        · exact (dz b hb').2 (by simp [y])
  · have ex2 := ex ((La ++ (a :: L' ++ Lb)) ++ Lw) fun b hb => by
      simp only [List.mem_append, List.mem_cons] at hb ⊢
      rcases hb with y | y | y | y
      · simp [y]
      · simp [y]
      · have := sub b (by simp [y])
        simp only [List.mem_append] at this
        rcases this with y | y <;> simp [y]
      · simp [y]
    refine ⟨ex2.kept, ex2.there, ex2.sub, ex2.newF, fun b hb => ?_⟩
    rcases List.mem_append.mp hb with y | y
    · exact ex2.newL b y
    · left
      have := sub b (by simp [y])
      simp only [List.mem_append, List.mem_cons] at this ⊢
      rcases this with y | y <;> simp [y]
end
/-- the base is the name at i, the argument any expression -/
def fMutN (i : Nat) (m : FM) (fe : FE) : FE := fun en => match en[i]? with
  | some (.lst _) => match fe en with
    | none => none
    | some (en1, r) => match r.tk en1 with
      | none => none
      | some (en2, w) => match en2[i]? with
        | some (.lst ws) => match m ws w with
          | some (ws', z) => some (en2.put i [] (.lst ws'), .val z)
          | none => none
        | _ => none
  | _ => none
/-- a quiet expression: a frozen thing, read without a step -/
def tQ (K : PySem.W.Frag) (mg : Str → Option Value) (f : En → Option D) : TE := fun σ H Q => ∃ F en L d, StOk K mg F H σ en L ∧ f en = some d ∧ ∀ v, Rep K mg F d v → Q v H
abbrev SQ (X : Cx) (e : Expr) (f : En → Option D) : Prop := PE X e (tQ X.K X.mg f)
def qC (d : D) : En → Option D := fun _ => some d
def qV (i : Nat) : En → Option D := fun en => match en[i]? with
  | some (.sh .any) => none
  | some (.sh d) => some d
  | _ => none
def fMutP (m : FM) (fo : FE) (fa : En → Option D) : FE := fun en => match fo en with
  | some (en1, .pl i p) => match fa en1 with
    | some d => match en1.get i p with
      | some (.lst ws) => match m ws (.sh d) with
        | some (ws', z) => some (en1.put i p (.lst ws'), .val z)
        | none => none
      | _ => none
    | none => none
  | _ => none
section
variable {X : Cx} {o e : Expr} {i : Nat} {fo fe : FE} {fa : En → Option D} {apos cpos : Pos} {r : V → List V → Hp → VK → Prop} {m : FM}
theorem sq_of_tC {d : D} {v : V} (h : PE X e (tC v)) (hv : d.v = some v) : SQ X e (qC d) := pe_imp h fun σ H Q q => by
  obtain ⟨F, en, L, d', st, e, k⟩ := q
  simp only [qC, Option.some.injEq] at e
  subst e
  exact k v (rep_v hv)
theorem sq_var (h : PE X e (tVar i)) : SQ X e (qV i) := pe_imp h fun σ H Q q => by
  obtain ⟨F, en, L, d', st, e, k⟩ := q
  unfold qV at e
  split at e
  · cases e
  · rename_i d hne hw
    cases e
    obtain ⟨o, La, Lm, Lb, e1, e2, e3, e4⟩ := st.own.get hw
    rcases e3 with ⟨v, rfl, ho⟩ | ⟨_, z, _⟩
    · simp only [Own] at ho
      exact ⟨v, e1, k v ho.1⟩
    · cases z
      exact absurd rfl hne
  · cases e
theorem mutN_ok (hm : MutOk X.K X.mg r m) {σ : L2.St} {H : Hp} {Q : VK} (q : tS X.K X.mg (fMutN i m fe) σ H Q) : tBM X.K "list" r (tVar i) (tCons (tS X.K X.mg fe) tNil) σ H Q := by
  obtain ⟨F, en, L, en', r', st, e, k⟩ := q
  unfold fMutN at e
  split at e
  · rename_i ws0 hw0
    split at e
    · cases e
    rename_i en1 r1 e1
    split at e
    · cases e
    rename_i en2 w e2
    split at e
    · rename_i ws hw
      split at e
      · rename_i ws' z em
        cases e
        obtain ⟨o, La, Lm, Lb, g1, g2, g3, _⟩ := st.own.get hw0
        rcases g3 with ⟨v, rfl, ho⟩ | ⟨_, z, _⟩
        · obtain ⟨a, xs, rfl, ha⟩ := name_list st g1 hw0
          refine ⟨_, g1, tyV_list ha rfl, ?_⟩
          refine ⟨F, en, L, en1, r1, st, e1, fun v1 F1 H1 L1 Lr st1 rr nd x => ?_⟩
          obtain ⟨F2, L2, Lr2, st2, o2, nd2, x2⟩ := rr.tk st1 nd e2
          obtain ⟨w1, Ma, Mm, Mb, P⟩ := part_name st2.own g1
          have hw1 : w1 = .lst ws := by
            have g := P.1
            simp only [En.get, hw, W.get, Option.some.injEq] at g
            exact g.symm
          subst hw1
          exact mut_place hm st2 P o2 nd2 em fun y F' H' L' Lr' a b c d => k y F' H' L' Lr' a b c (x.trans (x2.trans d))
        · cases z
      · cases e
    · cases e
  · cases e
theorem mutP_ok (hm : MutOk X.K X.mg r m) {σ : L2.St} {H : Hp} {Q : VK} (q : tS X.K X.mg (fMutP m fo fa) σ H Q) : tBM X.K "list" r (tS X.K X.mg fo) (tCons (tQ X.K X.mg fa) tNil) σ H Q := by
  obtain ⟨F, en, L, en', r', st, e, k⟩ := q
  unfold fMutP at e
  split at e
  · rename_i en1 j p e1
    split at e
    · rename_i d ed
      split at e
      · rename_i ws hw
        split at e
        · rename_i ws' z em
          cases e
          refine ⟨F, en, L, en1, .pl j p, st, e1, fun v F1 H1 L1 Lr st1 rr nd x => ?_⟩
          obtain ⟨rfl, w1, Ma, Mm, Mb, P⟩ := RR.part st1 rr
          have hw1 : w1 = .lst ws := by
            have g := P.1
            rw [hw] at g
            cases g
            rfl
          subst hw1
          have o := P.2.2.1
          have o2 := o
          simp only [Own] at o2
          obtain ⟨a, xs, _, rfl, ha, _⟩ := o2
          refine ⟨tyV_list ha rfl, F1, en1, L1, d, st1, ed, fun v1 hv1 => ?_⟩
          exact mut_place hm st1 P (own_sh hv1) nd em fun y F' H' L' Lr' a b c d => k y F' H' L' Lr' a b c (x.trans d)
        · cases e
      · cases e
    · cases e
  · cases e

/-! ### the calls -/
abbrev HBase (X : Cx) (o : Expr) (name : Str) : Prop := attributeBase o name X.env (eval o X.env) = eval o X.env
abbrev HFew (X : Cx) (es : List Expr) (cpos : Pos) : Prop := ((backTo cpos (starEach es X.env)).all (fun x => !x.1) && (backToKw cpos (keywordEach [] X.env)).all (fun x => x.1.isSome) && decide (es.length + ([] : List Keyword).length + (if ([] : List Keyword).isEmpty then 0 else 1) < 30)) = true
abbrev HStar (X : Cx) (e : Expr) : Prop := starEach [e] X.env = [(false, eval e X.env)]
section
variable (hb : HBase X o "append") (hf : HFew X [e] cpos) (hl : (apos.endLine == cpos.line) = true) (hs : HStar X e)
include hb hf hl hs
theorem se_appN (ho : PE X o (tVar i)) (he : SE X e fe) : SE X (.Call (.Attribute o "append" apos) [e] [] cpos) (fMutN i mApp fe) :=
  pe_imp (pe_bm PySem.F.plainAttrs_list PySem.F.slot_list_append PySem.F.type_list_append mt_append ho (pa_cons he pa_nil hs) hb hf hl hs rfl) fun _ _ _ q => mutN_ok mut_app q
theorem se_appP (ho : SE X o fo) (he : SQ X e fa) : SE X (.Call (.Attribute o "append" apos) [e] [] cpos) (fMutP mApp fo fa) :=
  pe_imp (pe_bm PySem.F.plainAttrs_list PySem.F.slot_list_append PySem.F.type_list_append mt_append ho (pa_cons he pa_nil hs) hb hf hl hs rfl) fun _ _ _ q => mutP_ok mut_app q
end
section
variable (hb : HBase X o "extend") (hf : HFew X [e] cpos) (hl : (apos.endLine == cpos.line) = true) (hs : HStar X e)
include hb hf hl hs
theorem se_extN (ho : PE X o (tVar i)) (he : SE X e fe) : SE X (.Call (.Attribute o "extend" apos) [e] [] cpos) (fMutN i mExt fe) :=
  pe_imp (pe_bm PySem.F.plainAttrs_list PySem.F.slot_list_extend PySem.F.type_list_extend mt_extend ho (pa_cons he pa_nil hs) hb hf hl hs rfl) fun _ _ _ q => mutN_ok mut_ext q
end
section
variable (hb : HBase X o "pop") (hf : HFew X [e] cpos) (hl : (apos.endLine == cpos.line) = true) (hs : HStar X e)
include hb hf hl hs
theorem se_popAtN (ho : PE X o (tVar i)) (he : SE X e fe) : SE X (.Call (.Attribute o "pop" apos) [e] [] cpos) (fMutN i mPopAt fe) :=
  pe_imp (pe_bm PySem.F.plainAttrs_list PySem.F.slot_list_pop PySem.F.type_list_pop mt_popAt ho (pa_cons he pa_nil hs) hb hf hl hs rfl) fun _ _ _ q => mutN_ok mut_popAt q
theorem se_popAtP (ho : SE X o fo) (he : SQ X e fa) : SE X (.Call (.Attribute o "pop" apos) [e] [] cpos) (fMutP mPopAt fo fa) :=
  pe_imp (pe_bm PySem.F.plainAttrs_list PySem.F.slot_list_pop PySem.F.type_list_pop mt_popAt ho (pa_cons he pa_nil hs) hb hf hl hs rfl) fun _ _ _ q => mutP_ok mut_popAt q
end
/-! pop() -/
def fPop (fo : FE) : FE := fun en => match fo en with
  | some (en1, .pl i p) => match en1.get i p with
    | some (.lst ws) => match ws[ws.length - 1]? with
      | some w => some (en1.put i p (.lst ws.dropLast), .val w)
      | none => none
    | _ => none
  | _ => none
theorem Owns.dropLast {K : PySem.W.Frag} {mg : Str → Option Value} {F H : Hp} {ws : List W} {vs : List V} {L : List Addr} {w : W} (h : Owns K mg F H ws vs L) (e : ws[ws.length - 1]? = some w) : ∃ v La Lm Lb, vs[vs.length - 1]? = some v ∧ L = La ++ (Lm ++ Lb) ∧ Own K mg F H w v Lm ∧ Owns K mg F H ws.dropLast vs.dropLast (La ++ Lb) := by
  obtain ⟨v, La, Lm, Lb, e1, e2, e3, e4⟩ := h.erase e
  refine ⟨v, La, Lm, Lb, by rw [← h.len]; exact e1, e2, e3, ?_⟩
  have l1 : ws.eraseIdx (ws.length - 1) = ws.dropLast := List.eraseIdx_length_sub_one
  have l2 : vs.eraseIdx (ws.length - 1) = vs.dropLast := by rw [h.len]; exact List.eraseIdx_length_sub_one
  rw [l1, l2] at e4
  exact e4
theorem se_pop (hb : HBase X o "pop") (hl : (apos.endLine == cpos.line) = true) (ho : SE X o fo) : SE X (.Call (.Attribute o "pop" apos) [] [] cpos) (fPop fo) :=
  pe_imp (pe_bm0 PySem.F.plainAttrs_list PySem.F.slot_list_pop PySem.F.type_list_pop mt_pop ho hb hl) fun σ H Q q => by
    obtain ⟨F, en, L, en', r', st, e, k⟩ := q
    unfold fPop at e
    split at e
    · rename_i en1 j p e1
      split at e
      · rename_i ws hw
        split at e
        · rename_i w ew
          cases e
          refine ⟨F, en, L, en1, .pl j p, st, e1, fun v F1 H1 L1 Lr st1 rr nd x => ?_⟩
          obtain ⟨rfl, w1, Ma, Mm, Mb, P⟩ := RR.part st1 rr
          have hw1 : w1 = .lst ws := by
            have g := P.1
            rw [hw] at g
            cases g
            rfl
          subst hw1
          have eL := P.2.1
          obtain ⟨a, xs, L', rfl, ha, rfl, ho, na, wr⟩ := write_at st1 P
          subst eL
          obtain ⟨y, La, Lm, Lb, z1, rfl, z3, z4⟩ := ho.dropLast ew
          have nd0 : ((Ma ++ (a :: (La ++ (Lm ++ Lb)) ++ Mb)) ++ ([] : List Addr)).Nodup := by simpa using st1.nd
          obtain ⟨nn, sep⟩ := nd_mid nd0
          have nn' : (La ++ (Lm ++ Lb)).Nodup := by simpa using nn
          obtain ⟨m1, m2⟩ := nodup3 nn'
          obtain ⟨st2, ex⟩ := wr ws.dropLast xs.dropLast (La ++ Lb) z4 m1 fun b hb => sep b (by simp only [List.mem_append] at hb ⊢; rcases hb with z | z <;> simp [z])
          refine ⟨tyV_list ha rfl, a, xs, y, rfl, rfl, ha, z1, ?_⟩
          have dz : ∀ b ∈ Lm, b ≠ a ∧ b ∉ Ma ++ Mb := fun b hb => sep b (by simp [hb])
          refine k y F1 _ _ Lm st2 (by simp only [RR]; exact z3.stay ⟨Same.refl F1, fun b hb => (z3.cell b hb).2, fun b hb => upd_ne (dz b hb).1⟩) ?_ (x.trans ?_)
          · refine nd_of st2.nd (nd_app (nd_app nn').2.1).1 fun b hb hb' => ?_
            simp only [List.mem_append, List.mem_cons] at hb
            rcases hb with y | y | (y | y) | y
            · exact (dz b hb').2 (by simp [y])
            · exact (dz b hb').1 y
            · exact m2 b (by simp [y]) hb'
            · exact m2 b (by simp [y]) hb'
            · exact (dz b hb').2 (by simp [y])
          · have ex2 := ex (Ma ++ (a :: (La ++ (Lm ++ Lb)) ++ Mb)) fun b hb => by
              simp only [List.mem_append, List.mem_cons] at hb ⊢
              rcases hb with y | y | (y | y) | y <;> simp [y]
            refine Ext.mem (L := Ma ++ (a :: (La ++ (Lm ++ Lb)) ++ Mb)) ⟨ex2.kept, ex2.there, ex2.sub, ex2.newF, fun b hb => ?_⟩ (fun a h => by simpa using h) fun a h => h
            rcases List.mem_append.mp hb with y | y
            · exact ex2.newL b y
            · left
              simp only [List.mem_append, List.mem_cons]
              simp [y]
        · cases e
      · cases e
    · cases e
end
end Pu

/-! Pu11: instances of classes with slots, dicts whose keys are tuples. -/
namespace Pu
open PySem PySem.Spec PyProof.Rows L2

/-- the class c has the slot f at its place k -/
structure ClsF (K : PySem.W.Frag) (mg : Str → Option Value) (c f : Str) (k : Nat) : Prop where
  ok : ∀ C, mg c = some (.ref C) → SlX.SCls K C ∧ ∃ p, SlX.Slot1 K C f p k

/-! ### o.f -/
def fFld (c : Str) (k : Nat) (fo : FE) : FE := fun en => match fo en with
  | some (en1, .val (.sh (.ins c' ds))) => if c' = c then (match ds[k]? with
    | some .any => none
    | some d => some (en1, .val (.sh d))
    | none => none) else none
  | some (en1, .pl i []) => match en1[i]? with
    | some (.sh (.ins c' ds)) => if c' = c then (match ds[k]? with
      | some .any => none
      | some d => some (en1, .val (.sh d))
      | none => none) else none
    | some (.ins c' ws) => if c' = c then (match ws[k]? with
      | some (.sh .any) => none
      | some (.sh d) => some (en1, .val (.sh d))
      | some _ => some (en1, .pl i [k])
      | none => none) else none
    | _ => none
  | _ => none
section
variable {K : PySem.W.Frag} {mg : Str → Option Value}
theorem repsO_at {F : Hp} : ∀ {ds : List D} {os : List (Option V)} {k : Nat} {d : D}, RepsO K mg F ds os → ds[k]? = some d → d ≠ .any → ∃ v, os[k]? = some (some v) ∧ Rep K mg F d v
  | d :: ds, some v :: os, 0, x, h, e, _ => by
    simp only [RepsO] at h
    simp only [List.getElem?_cons_zero, Option.some.injEq] at e
    subst e
    exact ⟨v, rfl, h.1⟩
  | d :: ds, none :: os, 0, x, h, e, n => by
    simp only [RepsO] at h
    simp only [List.getElem?_cons_zero, Option.some.injEq] at e
    subst e
    exact absurd h.1 n
  | d :: ds, some v :: os, k + 1, x, h, e, n => by
    simp only [RepsO] at h
    simp only [List.getElem?_cons_succ] at e ⊢
    exact repsO_at h.2 e n
  | d :: ds, none :: os, k + 1, x, h, e, n => by
    simp only [RepsO] at h
    simp only [List.getElem?_cons_succ] at e ⊢
    exact repsO_at h.2 e n
  | [], _, _, _, _, e, _ => by simp at e
  | _ :: _, [], _, _, h, _, _ => by simp only [RepsO] at h
theorem own_ins {F H : Hp} {c : Str} {ws : List W} {v : V} {L : List Addr} (h : Own K mg F H (.ins c ws) v L) : ∃ a C dx os L', v = .ref a ∧ mg c = some (.ref C) ∧ SlX.Slt H a C dx os ∧ NoTup (H dx) ∧ dx ≠ a ∧ F a = none ∧ F dx = none ∧ L = a :: dx :: L' ∧ OwnsO K mg F H ws os L' := by
  simpa only [Own] using h
end
section
variable {X : Cx} {e : Expr} {f c : Str} {k : Nat} {fo : FE} {pos : Pos}
theorem se_fld (cf : ClsF X.K X.mg c f k) (he : SE X e fo) (hb : HBase X e f) : SE X (.Attribute e f pos) (fFld c k fo) :=
  pe_imp (SlX.pe_sl he hb) fun σ H Q q => by
    obtain ⟨F, en, L, en', r', st, e, kk⟩ := q
    unfold fFld at e
    split at e
    · rename_i en1 c' ds e1
      split at e
      · rename_i hc
        subst hc
        split at e
        · cases e
        · rename_i d hne hd
          cases e
          refine ⟨F, en, L, en', _, st, e1, fun v F1 H1 L1 Lr st1 rr nd x => ?_⟩
          simp only [RR, Own, Rep] at rr
          obtain ⟨⟨a, C, dx, os, rfl, hm, hs, hr⟩, rfl⟩ := rr
          obtain ⟨y, e2, e3⟩ := repsO_at hr hd hne
          obtain ⟨sc, p, sl⟩ := cf.ok C hm
          exact ⟨a, C, dx, p, os, k, y, rfl, sltS st1.sub hs, sc, sl, e2, kk y F1 H1 L1 [] st1 (by simp only [RR]; exact own_sh e3) nd x⟩
        · cases e
      · cases e
    · rename_i en1 i e1
      split at e
      · rename_i c' ds hi
        split at e
        · rename_i hc
          subst hc
          split at e
          · cases e
          · rename_i d hne hd
            cases e
            refine ⟨F, en, L, en', _, st, e1, fun v F1 H1 L1 Lr st1 rr nd x => ?_⟩
            obtain ⟨rfl, w1, La, Lm, Lb, P⟩ := RR.part st1 rr
            have hw1 : w1 = .sh (.ins c' ds) := by
              have g := P.1
              simp only [En.get, hi, W.get, Option.some.injEq] at g
              exact g.symm
            subst hw1
            have o := P.2.2.1
            simp only [Own, Rep] at o
            obtain ⟨⟨a, C, dx, os, rfl, hm, hs, hr⟩, _⟩ := o
            obtain ⟨y, e2, e3⟩ := repsO_at hr hd hne
            obtain ⟨sc, p, sl⟩ := cf.ok C hm
            exact ⟨a, C, dx, p, os, k, y, rfl, sltS st1.sub hs, sc, sl, e2, kk y F1 H1 L1 [] st1 (by simp only [RR]; exact own_sh e3) (by simpa using st1.nd) x⟩
          · cases e
        · cases e
      · rename_i c' ws hi
        split at e
        · rename_i hc
          subst hc
          have main : ∀ {w : W} {v : V} {F1 H1 : Hp} {L1 Lr : List Addr}, StOk X.K X.mg F1 H1 σ en1 L1 → RR X.K X.mg F1 H1 σ en1 L1 (.pl i []) v Lr → ws[k]? = some w → w ≠ .sh .any →
              ∃ a C dx os y La Lb Ma Mm Mb, v = .ref a ∧ X.mg c' = some (.ref C) ∧ SlX.Slt H1 a C dx os ∧ os[k]? = some (some y) ∧ Own X.K X.mg F1 H1 w y Mm ∧ L1 = La ++ ((a :: dx :: (Ma ++ (Mm ++ Mb))) ++ Lb) ∧ Lr = [] ∧
                ∀ (F' H' : Hp) (w' : W) (Lm' : List Addr), Stay F1 H1 F' H' (La ++ (a :: dx :: Ma) ++ (Mb ++ Lb)) → Own X.K X.mg F' H' w' y Lm' → OwnsO X.K X.mg F' H' (en1.put i [k] w') σ (La ++ (a :: dx :: Ma) ++ (Lm' ++ (Mb ++ Lb))) := by
            intro w v F1 H1 L1 Lr st1 rr hw hne
            obtain ⟨rfl, w1, La, Lm, Lb, P⟩ := RR.part st1 rr
            have hw1 : w1 = .ins c' ws := by
              have g := P.1
              simp only [En.get, hi, W.get, Option.some.injEq] at g
              exact g.symm
            subst hw1
            obtain ⟨_, eL, o, k2⟩ := P
            obtain ⟨a, C, dx, os, L', rfl, hm, hs, h4, h5, h6, h7, rfl, h9⟩ := own_ins o
            obtain ⟨o1, Ma, Mm, Mb, g1, rfl, g3, g4⟩ := h9.get hw
            rcases g3 with ⟨y, rfl, g3⟩ | ⟨_, z, _⟩
            · refine ⟨a, C, dx, os, y, La, Lb, Ma, Mm, Mb, rfl, hm, hs, g1, g3, eL, rfl, fun F' H' w' Lm' s o' => ?_⟩
              have s1 : Stay F1 H1 F' H' (Ma ++ Mb) := s.less fun b hb => by
                rcases List.mem_append.mp hb with z | z <;> simp [z]
              have s2 : Stay F1 H1 F' H' (La ++ Lb) := s.less fun b hb => by
                rcases List.mem_append.mp hb with z | z <;> simp [z]
              have q1 := g4 F' H' w' y Lm' s1 o'
              rw [set_get g1] at q1
              have ea := s.eq a (by simp)
              have ed := s.eq dx (by simp)
              have q2 : Own X.K X.mg F' H' (.ins c' (ws.set k w')) (.ref a) (a :: dx :: (Ma ++ (Lm' ++ Mb))) := by
                simp only [Own]
                exact ⟨a, C, dx, os, _, rfl, hm, slt_same ea ed hs, by rw [ed]; exact h4, h5, s.out a (by simp), s.out dx (by simp), rfl, q1⟩
              have q3 := k2 F' H' _ _ s2 q2
              have ep : en1.put i [k] w' = en1.put i [] (.ins c' (ws.set k w')) := by
                simp only [En.put, hi, W.put, hw]
              rw [ep]
              simpa using q3
            · exact absurd z hne
          split at e
          · cases e
          · rename_i d hne hd
            cases e
            refine ⟨F, en, L, en', _, st, e1, fun v F1 H1 L1 Lr st1 rr nd x => ?_⟩
            obtain ⟨a, C, dx, os, y, La, Lb, Ma, Mm, Mb, rfl, hm, hs, g1, g3, eL, rfl, _⟩ := main st1 rr hd (fun z => hne (by cases z; rfl))
            obtain ⟨sc, p, sl⟩ := cf.ok C hm
            simp only [Own] at g3
            exact ⟨a, C, dx, p, os, k, y, rfl, hs, sc, sl, g1, kk y F1 H1 L1 [] st1 (by simp only [RR]; exact own_sh g3.1) (by simpa using st1.nd) x⟩
          · rename_i w hne1 hne2 hd
            cases e
            refine ⟨F, en, L, en', _, st, e1, fun v F1 H1 L1 Lr st1 rr nd x => ?_⟩
            obtain ⟨a, C, dx, os, y, La, Lb, Ma, Mm, Mb, rfl, hm, hs, g1, g3, eL, rfl, k3⟩ := main st1 rr hd (fun z => hne1 z)
            obtain ⟨sc, p, sl⟩ := cf.ok C hm
            refine ⟨a, C, dx, p, os, k, y, rfl, hs, sc, sl, g1, kk y F1 H1 L1 [] st1 ?_ (by simpa using st1.nd) x⟩
            simp only [RR]
            refine ⟨trivial, w, La ++ (a :: dx :: Ma), Mm, Mb ++ Lb, ?_, by rw [eL]; simp, g3, fun F' H' w' Lm' s o' => ?_⟩
            · simp only [En.get, hi, W.get, hd]
            · have := k3 F' H' w' Lm' (s.less fun b hb => by simpa using hb) o'
              simpa using this
          · cases e
        · cases e
      · cases e
    · cases e
end
/-! ### o.f = e -/
def putW (k : Nat) (w : W) (ws : List W) : List W := (ws ++ List.replicate (k + 1 - ws.length) (W.sh .any)).set k w
section
variable {K : PySem.W.Frag} {mg : Str → Option Value}
theorem ownsO_pad {F H : Hp} : ∀ {ws : List W} {os : List (Option V)} {L : List Addr} (n : Nat), OwnsO K mg F H ws os L → OwnsO K mg F H (ws ++ List.replicate n (W.sh .any)) (os ++ List.replicate n none) L
  | [], [], L, n, h => by
    simp only [OwnsO] at h
    subst h
    induction n with
    | zero => simp only [List.replicate_zero, List.append_nil, OwnsO]
    | succ n ih =>
      simp only [List.replicate_succ, List.nil_append, OwnsO] at ih ⊢
      exact ⟨trivial, ih⟩
  | w :: ws, some o :: os, L, n, h => by
    simp only [OwnsO] at h
    obtain ⟨A, B, rfl, h1, h2⟩ := h
    simp only [List.cons_append, OwnsO]
    exact ⟨A, B, rfl, h1, ownsO_pad n h2⟩
  | w :: ws, none :: os, L, n, h => by
    simp only [OwnsO] at h
    simp only [List.cons_append, OwnsO]
    exact ⟨h.1, ownsO_pad n h.2⟩
  | [], _ :: _, _, _, h => by simp only [OwnsO] at h
  | _ :: _, [], _, _, h => by simp only [OwnsO] at h
theorem ownsO_put {F H : Hp} {ws : List W} {os : List (Option V)} {L Lw : List Addr} {k : Nat} {w : W} {v : V} (h : OwnsO K mg F H ws os L) (o : Own K mg F H w v Lw) (nd : (L ++ Lw).Nodup) :
    ∃ L', OwnsO K mg F H (putW k w ws) (SlX.putS k v os) L' ∧ L'.Nodup ∧ ∀ b ∈ L', b ∈ L ++ Lw := by
  have hp := ownsO_pad (k + 1 - ws.length) h
  have hk : k < (ws ++ List.replicate (k + 1 - ws.length) (W.sh .any)).length := by
    simp only [List.length_append, List.length_replicate]; omega
  obtain ⟨o1, Ma, Mm, Mb, g1, rfl, g3, g4⟩ := hp.get (List.getElem?_eq_getElem hk)
  have cl := hp.cell
  have s : Stay F H F H (Ma ++ Mb) := ⟨Same.refl F, fun b hb => (cl b (by simp only [List.mem_append] at hb ⊢; rcases hb with z | z <;> simp [z])).2, fun _ _ => rfl⟩
  have q := g4 F H w v Lw s o
  refine ⟨Ma ++ (Lw ++ Mb), ?_, ?_, fun b hb => ?_⟩
  · unfold putW SlX.putS
    rw [← h.len]
    exact q
  · obtain ⟨n1, n2, n3⟩ := nd_app nd
    obtain ⟨q1, q2⟩ := nodup3 n1
    obtain ⟨q3, q4, q5⟩ := nd_app q1
    refine nd_of q3 (nd_of n2 q4 fun b hb hb' => n3 b (by simp [hb']) hb) fun b hb hb' => ?_
    rcases List.mem_append.mp hb' with z | z
    · exact n3 b (by simp [hb]) z
    · exact q5 b hb z
  · simp only [List.mem_append] at hb ⊢
    rcases hb with z | z | z <;> simp [z]
end
/-- self.f = e, self the name at i -/
def sFld (c : Str) (i k : Nat) (fe : FE) : FS := fun en => match fe en with
  | none => none
  | some (en1, r) => match r.tk en1 with
    | none => none
    | some (en2, w) => match en2[i]? with
      | some (.ins c' ws) => if c' = c then some (en2.put i [] (.ins c (putW k w ws)), .nx) else none
      | _ => none
section
variable {X : Cx} {fix : List Nat} {o value : Expr} {f c : Str} {i k : Nat} {fe : FE} {pos pos' : Pos}
theorem ss_fld (cf : ClsF X.K X.mg c f k) (ho : PE X o (tVar i)) (he : SE X value fe) (hs : swapsWith value (some (.Attribute o f pos')) pos.line X.env = pure false := by rfl) : SS X fix (.Assign [.Attribute o f pos'] value pos) (sFld c i k fe) :=
  ps_imp (SlX.ps_sl ho he hs) fun D σ H q => by
    obtain ⟨F, en, L, en', fl, st, e, q⟩ := q
    unfold sFld at e
    split at e
    · cases e
    rename_i en1 r e1
    split at e
    · cases e
    rename_i en2 w e2
    split at e
    · rename_i c' ws hi
      split at e
      · rename_i hc
        subst hc
        cases e
        refine ⟨F, en, L, en1, r, st, e1, fun v F1 H1 L1 Lr st1 rr nd x => ?_⟩
        obtain ⟨F2, L2, Lr2, st2, o2, nd2, x2⟩ := rr.tk st1 nd e2
        obtain ⟨ov, La, Lm, Lb, g1, eL, g3, _⟩ := st2.own.get hi
        rcases g3 with ⟨u, rfl, g3⟩ | ⟨_, z, _⟩
        · refine ⟨u, g1, ?_⟩
          obtain ⟨w1, Ma, Mm, Mb, P⟩ := part_name st2.own g1
          have hw1 : w1 = .ins c' ws := by
            have g := P.1
            simp only [En.get, hi, W.get, Option.some.injEq] at g
            exact g.symm
          subst hw1
          obtain ⟨_, eL2, o, k2⟩ := P
          obtain ⟨a, C, dx, os, L', rfl, hm, hsl, h4, h5, h6, h7, rfl, h9⟩ := own_ins o
          obtain ⟨sc, p, sl⟩ := cf.ok C hm
          refine ⟨a, C, dx, p, os, k, rfl, hsl, sc, sl, ?_⟩
          subst eL2
          have nd2' : ((Ma ++ (a :: (dx :: L') ++ Mb)) ++ Lr2).Nodup := by simpa using nd2
          obtain ⟨nn, sep⟩ := nd_mid nd2'
          have nn1 : (dx :: L').Nodup := (nd_app nn).1
          have nnL : (L' ++ Lr2).Nodup := by
            have nn2 : (dx :: (L' ++ Lr2)).Nodup := by simpa using nn
            exact (List.nodup_cons.mp nn2).2
          have dxs : ∀ b ∈ L' ++ Lr2, b ≠ dx := fun b hb z => by
            have nn2 : (dx :: (L' ++ Lr2)).Nodup := by simpa using nn
            exact (List.nodup_cons.mp nn2).1 (z ▸ hb)
          obtain ⟨Ln, on, nln, subn⟩ := ownsO_put (k := k) h9 o2 nnL
          have sepn : ∀ b ∈ Ln, b ≠ a ∧ b ≠ dx ∧ b ∉ Ma ++ Mb := fun b hb => by
            have hb' := subn b hb
            have s1 := sep b (by
              simp only [List.mem_append, List.mem_cons] at hb' ⊢
              rcases hb' with z | z <;> simp [z])
            exact ⟨s1.1, dxs b hb', s1.2⟩
          have dxo := (sep dx (by simp)).2
          have hne : ∀ b ∈ Ma ++ Mb, b ≠ a ∧ b ≠ dx := fun b hb => by
            refine ⟨fun z => ?_, fun z => dxo (z ▸ hb)⟩
            have nd3 := (nd_app nd2').1
            have n4 := nodup3 (by simpa using nd3 : (Ma ++ ((a :: (dx :: L')) ++ Mb)).Nodup)
            exact n4.2 b hb (by simp [z])
          have cl2 := st2.cell
          have clo : ∀ b ∈ Ma ++ Mb, F2 b = none := fun b hb => (cl2 b (by simp only [List.mem_append] at hb ⊢; rcases hb with z | z <;> simp [z])).2
          have sub : Same F2 (SlX.slH H1 a C dx (SlX.putS k v os)) := fun b u eb => by
            have hb1 : b ≠ a := fun z => by subst z; rw [h6] at eb; cases eb
            have hb2 : b ≠ dx := fun z => by subst z; rw [h7] at eb; cases eb
            rw [SlX.slH_ne hb1 hb2]
            exact st2.sub b u eb
          have hs0 : Stay F2 H1 F2 (SlX.slH H1 a C dx (SlX.putS k v os)) (Ma ++ Mb) := ⟨Same.refl F2, clo, fun b hb => SlX.slH_ne (hne b hb).1 (hne b hb).2⟩
          have hsn : Stay F2 H1 F2 (SlX.slH H1 a C dx (SlX.putS k v os)) Ln := ⟨Same.refl F2, fun b hb => (on.cell b hb).2, fun b hb => SlX.slH_ne (sepn b hb).1 (sepn b hb).2.1⟩
          have hslt := SlX.slH_slt (H := H1) (C := C) (vs := SlX.putS k v os) h5
          have hdx : NoTup (SlX.slH H1 a C dx (SlX.putS k v os) dx) := by
            unfold SlX.slH
            rw [upd_ne h5, upd_same]
            exact ⟨by simp, fun vs => by simp⟩
          have own' : Own X.K X.mg F2 (SlX.slH H1 a C dx (SlX.putS k v os)) (.ins c' (putW k w ws)) (.ref a) (a :: dx :: Ln) := by
            simp only [Own]
            exact ⟨a, C, dx, _, Ln, rfl, hm, hslt, hdx, h5, h6, h7, rfl, on.stay hsn⟩
          have q3 := k2 F2 _ _ _ hs0 own'
          refine q σ F2 _ (Ma ++ ((a :: dx :: Ln) ++ Mb)) ⟨sub, ?_, q3⟩ Fixed.refl (x.trans (x2.trans ?_))
          · have n5 := (nd_app nd2').1
            obtain ⟨n6, n7⟩ := nodup3 (by simpa using n5 : (Ma ++ ((a :: (dx :: L')) ++ Mb)).Nodup)
            obtain ⟨r1, r2, r3⟩ := nd_app n6
            refine nd_of r1 (nd_of (List.nodup_cons.mpr ⟨fun z => ?_, List.nodup_cons.mpr ⟨fun z => (sepn dx z).2.1 rfl, nln⟩⟩) r2 fun b hb hb' => ?_) fun b hb hb' => ?_
            · rcases List.mem_cons.mp z with z | z
              · exact h5 z.symm
              · exact (sepn a z).1 rfl
            · rcases List.mem_cons.mp hb with z | z
              · exact (hne b (by simp [hb'])).1 z
              · rcases List.mem_cons.mp z with z | z
                · exact (hne b (by simp [hb'])).2 z
                · exact (sepn b z).2.2 (by simp [hb'])
            · rcases List.mem_append.mp hb' with z | z
              · rcases List.mem_cons.mp z with z | z
                · exact (hne b (by simp [hb])).1 z
                · rcases List.mem_cons.mp z with z | z
                  · exact (hne b (by simp [hb])).2 z
                  · exact (sepn b z).2.2 (by simp [hb])
              · exact r3 b hb z
          · refine ⟨fun b u eb nb => ?_, fun b eb => ?_, Same.refl F2, fun b eb => .inl eb, fun b hb => .inl ?_⟩
            · rw [SlX.slH_ne (fun z => nb (by simp [z])) (fun z => nb (by simp [z]))]
              exact eb
            · by_cases z1 : b = a
              · subst z1
                rcases hslt with ⟨y, _⟩ | ⟨y, _⟩ <;> rw [y] <;> simp
              · by_cases z2 : b = dx
                · subst z2; exact hdx.1
                · rw [SlX.slH_ne z1 z2]; exact eb
            · simp only [List.mem_append, List.mem_cons] at hb subn ⊢
              rcases hb with z | (z | z | z) | z
              · simp [z]
              · simp [z]
              · simp [z]
              · rcases subn b z with y | y <;> simp [y]
              · simp [z]
        · cases z
      · cases e
    · cases e
end
end Pu

/-! Pu12: methods, new instances, dicts. -/
namespace Pu
open PySem PySem.Spec PyProof.Rows L2

def R.cls (en : En) : R → Option Str
  | .val (.sh (.ins c _)) => some c
  | .val (.ins c _) => some c
  | .val _ => none
  | .pl i p => match en.get i p with
    | some (.sh (.ins c _)) => some c
    | some (.ins c _) => some c
    | _ => none
def fCk (c : Str) (fo : FE) : FE := fun en => match fo en with
  | none => none
  | some (en1, r) => if r.cls en1 = some c then some (en1, r) else none
section
variable {K : PySem.W.Frag} {mg : Str → Option Value} {σ : L2.St}
theorem cls_slt {F H : Hp} {en : En} {L Lr : List Addr} {r : R} {v : V} {c : Str} {C : Addr} (st : StOk K mg F H σ en L) (h : RR K mg F H σ en L r v Lr) (e : r.cls en = some c) (hC : mg c = some (.ref C)) : ∃ a dx os, v = .ref a ∧ SlX.Slt H a C dx os := by
  have one : ∀ {w : W} {M : List Addr}, Own K mg F H w v M → (w = .sh (.ins c (match w with | .sh (.ins _ ds) => ds | _ => [])) ∨ w = .ins c (match w with | .ins _ ws => ws | _ => [])) → ∃ a dx os, v = .ref a ∧ SlX.Slt H a C dx os := by
    intro w M o hw
    rcases hw with hw | hw
    · rw [hw] at o
      simp only [Own, Rep] at o
      obtain ⟨⟨a, C', dx, os, e1, hm, hs, _⟩, _⟩ := o
      rw [hC] at hm
      cases hm
      exact ⟨a, dx, os, e1, sltS st.sub hs⟩
    · rw [hw] at o
      obtain ⟨a, C', dx, os, L', e1, hm, hs, _⟩ := own_ins o
      rw [hC] at hm
      cases hm
      exact ⟨a, dx, os, e1, hs⟩
  cases r with
  | val w =>
    simp only [RR] at h
    unfold R.cls at e
    split at e
    · rename_i h0; cases h0; cases e; exact one h (.inl rfl)
    · rename_i h0; cases h0; cases e; exact one h (.inr rfl)
    · cases e
    · rename_i h0; cases h0
  | pl i p =>
    obtain ⟨_, w, La, Lm, Lb, P⟩ := RR.part st h
    have g := P.1
    simp only [R.cls, g] at e
    split at e
    · rename_i h0; cases h0; cases e; exact one P.2.2.1 (.inl rfl)
    · rename_i h0; cases h0; cases e; exact one P.2.2.1 (.inr rfl)
    · cases e
theorem tS_ck {c : Str} {C : Addr} {fo : FE} {H : Hp} {Q : VK} (hC : mg c = some (.ref C)) (q : tS K mg (fCk c fo) σ H Q) : tS K mg fo σ H fun x H1 => ∃ a dx os, x = .ref a ∧ SlX.Slt H1 a C dx os ∧ Q x H1 := by
  obtain ⟨F, en, L, en', r', st, e, k⟩ := q
  unfold fCk at e
  split at e
  · cases e
  rename_i en1 r e1
  split at e
  · rename_i hc
    cases e
    refine ⟨F, en, L, _, _, st, e1, fun v F1 H1 L1 Lr st1 rr nd x => ?_⟩
    obtain ⟨a, dx, os, e2, hs⟩ := cls_slt st1 rr hc hC
    exact ⟨a, dx, os, e2, hs, k v F1 H1 L1 Lr st1 rr nd x⟩
  · cases e
end
/-! ### o.m(..) -/
def fMeth (c : Str) (g : PF) (fo : FE) (fs : List FE) : FE := fCall g (fCk c fo :: fs)
section
variable {X : Cx} {o e : Expr} {es : List Expr} {fo : FE} {fs : List FE} {c m : Str} {C f : Addr} {k : Nat} {g : PF} {pos apos : Pos} {pl : Sem Bool}
theorem fnR_of {P : Program} {w : World} {K : PySem.W.Frag} {mg : Str → Option Value} {base : Heap} {fd : FuncData} {ps : List Str} (G : FnOk P w K mg base CX0 k f fd ps (spP K mg g)) (hb : Binds K fd ps []) : FnR P w K mg base CX0 k f (spP K mg g) :=
  (G.raw hb .nil).imp fun vs H Q E h => by
    show spP K mg g (vs ++ []) H Q E
    rw [List.append_nil]
    exact h
theorem se_meth (hC : X.mg c = some (.ref C)) (sc : SlX.SCls X.K C) (hm : Meth X.K C m f) (G : FnR X.prog X.w X.K X.mg X.base CX0 k f (spP X.K X.mg g)) (hr : Room k X.A) (ho : SE X o fo) (ha : SA X (e :: es) fs)
    (hst : starEach (e :: es) X.env = (false, eval e X.env) :: starEach es X.env := by rfl) (hpl : (backTo pos (starEach es X.env)).any (·.1) = false := by rfl)
    (ht : eval (.Call (.Attribute o m apos) (e :: es) [] pos) X.env = (do
      let ov ← eval o X.env
      standAt apos.atName
      let (f, first) ← holding [ov] (getMethod ov m pl)
      callWith pos f first (backTo pos (starEach (e :: es) X.env)) (backToKw pos (keywordEach [] X.env))) := by rfl) : SE X (.Call (.Attribute o m apos) (e :: es) [] pos) (fMeth c g fo fs) :=
  pe_imp (SlX.pe_methSl (pl := pl) ho sc hm G hr pass0 ha hst hpl ht) fun σ H Q q => by
    have z := tS_ck hC (tEv_cons (call_behind (E := E0) q))
    obtain ⟨F, en, L, en1, r, st, e1, kk⟩ := z
    refine ⟨F, en, L, en1, r, st, e1, fun v F1 H1 L1 Lr st1 rr nd x => ?_⟩
    obtain ⟨a, dx, os, rfl, hs, z2⟩ := kk v F1 H1 L1 Lr st1 rr nd x
    exact ⟨a, dx, os, rfl, hs, z2⟩
theorem se_meth0 (hC : X.mg c = some (.ref C)) (sc : SlX.SCls X.K C) (hm : Meth X.K C m f) (G : FnR X.prog X.w X.K X.mg X.base CX0 k f (spP X.K X.mg g)) (hr : Room k X.A) (ho : SE X o fo)
    (ht : eval (.Call (.Attribute o m apos) [] [] pos) X.env = (do
      let ov ← eval o X.env
      standAt apos.atName
      let (f, first) ← holding [ov] (getMethod ov m pl)
      callWith pos f first (backTo pos (starEach [] X.env)) (backToKw pos (keywordEach [] X.env))) := by rfl) : SE X (.Call (.Attribute o m apos) [] [] pos) (fMeth c g fo []) :=
  pe_imp (SlX.pe_methSl0 (pl := pl) ho sc hm G hr pass0 ht) fun σ H Q q => by
    have z := tS_ck hC (tEv_cons (call_behind (E := E0) q))
    obtain ⟨F, en, L, en1, r, st, e1, kk⟩ := z
    refine ⟨F, en, L, en1, r, st, e1, fun v F1 H1 L1 Lr st1 rr nd x => ?_⟩
    obtain ⟨a, dx, os, rfl, hs, z2⟩ := kk v F1 H1 L1 Lr st1 rr nd x
    exact ⟨a, dx, os, rfl, hs, tEv_nil z2⟩
end
/-! ### C(..) -/
def fMake (c : Str) (g : PF) (fs : List FE) : FE := fun en => match evs fs en with
  | none => none
  | some (en1, rs) => match argsOf en1 rs with
    | none => none
    | some (en2, ws, bs) => match g (.ins c [] :: ws) with
      | some (.sh .non, wi :: ws') => if ws'.length = ws.length then some (putB en2 bs ws', .val wi) else none
      | _ => none
section
variable {X : Cx} {e : Expr} {es : List Expr} {fs : List FE} {c : Str} {C f : Addr} {fd : FuncData} {ps : List Str} {k : Nat} {g : PF} {p pos : Pos}
theorem make_behind (hC : X.mg c = some (.ref C)) {σ : L2.St} {H : Hp} {Q : VK} (h : tS X.K X.mg (fMake c g fs) σ H Q) : tMake C (spP X.K X.mg g) [] E0 (tEv X.K X.mg fs) σ H Q := by
  obtain ⟨F, en, L, en', rr, st, ef, kk⟩ := h
  unfold fMake at ef
  split at ef
  · cases ef
  rename_i en1 rs e1
  split at ef
  · cases ef
  rename_i en2 ws bs e2
  split at ef
  · rename_i wi ws' e3
    split at ef
    · cases ef
      refine ⟨F, en, L, en1, rs, st, e1, fun vs F1 H1 L1 Lr1 st1 rr1 nd1 x1 => ?_⟩
      intro x dx hx hdx hne
      obtain ⟨L2, La, st2, ow, nd2, sub, ln⟩ := args_ok st1 rr1 (evs_stable e1) nd1 e2
      obtain ⟨n1, n2, n3⟩ := nd_app nd2
      have hx' : upd H1 dx (.own x) x = none := by rw [upd_ne (Ne.symm hne)]; exact hx
      obtain ⟨sa, xa⟩ := lay_owned (o := .own x) st2 hdx
      obtain ⟨sb, xb⟩ := lay_owned (o := .ins C dx []) sa hx'
      have hL : ∀ b ∈ La, b ≠ x ∧ b ≠ dx := fun b hb => ⟨fun z => by subst z; exact (ow.cell b hb).1.1 hx, fun z => by subst z; exact (ow.cell b hb).1.1 hdx⟩
      have hL2 : ∀ b ∈ L2, b ≠ x ∧ b ≠ dx := fun b hb => ⟨fun z => by subst z; exact (st2.cell b hb).1.1 hx, fun z => by subst z; exact (st2.cell b hb).1.1 hdx⟩
      have ow2 : Owns X.K X.mg F1 (upd (upd H1 dx (.own x)) x (.ins C dx [])) ws vs La := ow.stay ⟨Same.refl F1, fun b hb => (ow.cell b hb).2, fun b hb => by rw [upd_ne (hL b hb).1, upd_ne (hL b hb).2]⟩
      have oi : Own X.K X.mg F1 (upd (upd H1 dx (.own x)) x (.ins C dx [])) (.ins c []) (.ref x) [x, dx] := by
        simp only [Own]
        refine ⟨x, C, dx, [], [], rfl, hC, .inl ⟨upd_same, rfl⟩, by rw [upd_ne hne, upd_same]; exact ⟨by simp, fun vs => by simp⟩, hne, sub_none st2.sub hx, sub_none st2.sub hdx, rfl, by simp only [OwnsO]⟩
      show spP X.K X.mg g (.ref x :: (vs ++ [])) _ _ _
      rw [List.append_nil]
      refine ⟨F1, .ins c [] :: ws, [x, dx] ++ La, sb.sub, ?_, by simp only [Owns]; exact ⟨[x, dx], La, rfl, oi, ow2⟩, .sh .non, wi :: ws', e3, fun v F' H' L' s' nd' ow' xx => ?_⟩
      · refine nd_of (by simp [Ne.symm hne]) n2 fun b hb hb' => ?_
        simp only [List.mem_cons, List.not_mem_nil, or_false] at hb
        rcases hb with z | z
        · exact (hL b hb').1 z
        · exact (hL b hb').2 z
      · simp only [Owns] at ow'
        obtain ⟨A0, B0, rfl, o0, Lw, La', rfl, o1, o2⟩ := ow'
        simp only [Own] at o0
        obtain ⟨r0, rfl⟩ := o0
        refine ⟨rep_non r0, ?_⟩
        obtain ⟨m1, m2, m3⟩ := nd_app (by simpa using nd' : (Lw ++ La').Nodup)
        have dj : ∀ b ∈ L2, b ∉ [x, dx] ++ La := fun b hb hb' => by
          rcases List.mem_append.mp hb' with z | z
          · simp only [List.mem_cons, List.not_mem_nil, or_false] at z
            rcases z with z | z
            · exact (hL2 b hb).1 z
            · exact (hL2 b hb).2 z
          · exact n3 b hb z
        have cl2 := sb.cell
        have st2' : StOk X.K X.mg F' H' σ en2 L2 := ⟨s', n1, sb.own.stay (xx.stay fun b hb => ⟨dj b hb, cl2 b hb⟩)⟩
        have ap := xx.apart (M := L2) fun b hb => ⟨dj b hb, (cl2 b hb).1.1⟩
        obtain ⟨L3, st3, sub3⟩ := put_ok st2' ln o2 (nd_of n1 m2 fun b hb hb' => ap b (by simp [hb']) b hb rfl)
        refine kk (.ref x) F' H' L3 Lw st3 (by simp only [RR]; exact o1) (nd_of st3.nd m1 fun b hb hb' => ?_) (x1.trans ?_)
        · rcases List.mem_append.mp (sub3 b hb) with z | z
          · exact ap b (by simp [hb']) b z rfl
          · exact m3 b hb' z
        · have y1 : Ext F1 H1 (L1 ++ Lr1) F1 (upd (upd H1 dx (.own x)) x (.ins C dx [])) (([x, dx] ++ La) ++ L2) := by
            have y0 := (xa.trans (xb.mem (M := L2 ++ [dx]) (fun a h => by simp [h]) fun a h => h)).frame La
            have y2 : Ext F1 H1 (L2 ++ La) F1 (upd (upd H1 dx (.own x)) x (.ins C dx [])) (([x, dx] ++ La) ++ L2) := by
              refine ⟨y0.kept, y0.there, y0.sub, y0.newF, fun b hb => ?_⟩
              simp only [List.mem_append, List.mem_cons, List.not_mem_nil, or_false] at hb ⊢
              rcases hb with ((z | z) | z) | z
              · subst z; exact .inr hx
              · subst z; exact .inr hdx
              · exact .inl (.inr z)
              · exact .inl (.inl z)
            exact y2.mem sub fun a h => h
          refine y1.trans ((xx.frame L2).mem (fun a h => h) fun a ha => ?_)
          rcases List.mem_append.mp ha with z | z
          · rcases List.mem_append.mp (sub3 a z) with y | y <;> simp [y]
          · simp [z]
    · cases ef
  · cases ef
theorem se_make (M : Mk X.K C f) (hC : X.mg c = some (.ref C)) (G : FnOk X.prog X.w X.K X.mg X.base CX0 k f fd ps (spP X.K X.mg g)) (hr : Room (k + 1) X.A) (hg : Gl X c) (hb : Binds X.K fd ps []) (ha : SA X (e :: es) fs)
    (hdb : (c == ("__debug__" : Str)) = false := by decide) (he : starEach (e :: es) X.env = (false, eval e X.env) :: starEach es X.env := by rfl) (hpl : (backTo pos (starEach es X.env)).any (·.1) = false := by rfl) : SE X (.Call (.Name c p) (e :: es) [] pos) (fMake c g fs) :=
  pe_imp (pe_make M G hr hg hC hb .nil pass0 ha hdb he hpl) fun σ H Q q => make_behind hC q
end
/-! ### dicts whose keys are tuples -/
def lookD {κ : Type} [DecidableEq κ] : List κ → List D → κ → Option D
  | k0 :: ks, d :: ds, k => if k0 = k then some d else lookD ks ds k
  | _, _, _ => none
def D.key : D → Option Key
  | .int i => some (.inl i)
  | .str x => some (.inr x)
  | _ => none
def D.keys : List D → Option (List Key)
  | [] => some []
  | d :: ds => match d.key, D.keys ds with
    | some k, some ks => some (k :: ks)
    | _, _ => none
/-- a tuple as a key -/
def D.tkey : D → Option (List Key)
  | .tup (d :: ds) => D.keys (d :: ds)
  | _ => none
def R.dT (en : En) : R → Option (List (List Key) × List D)
  | .val (.sh (.dT ks ds)) => some (ks, ds)
  | .val (.dT ks ds) => some (ks, ds)
  | .val (.sh (.lT ks ds)) => some (ks, ds)
  | .pl i p => match en.get i p with
    | some (.sh (.dT ks ds)) => some (ks, ds)
    | some (.dT ks ds) => some (ks, ds)
    | some (.sh (.lT ks ds)) => some (ks, ds)
    | _ => none
  | _ => none
section
variable {K : PySem.W.Frag} {mg : Str → Option Value} {σ : L2.St}
theorem rep_key {H : Hp} {d : D} {k : Key} {v : V} (h : Rep K mg H d v) (e : d.key = some k) : v = kV k := by
  cases d <;> simp only [D.key, Option.some.injEq] at e <;> first
    | (cases e; done)
    | (subst e; first | exact rep_int h | exact rep_str h)
theorem reps_keys {H : Hp} : ∀ {ds : List D} {vs : List V} {ks : List Key}, Reps K mg H ds vs → D.keys ds = some ks → vs = ks.map kV
  | [], [], ks, _, e => by simp only [D.keys, Option.some.injEq] at e; subst e; rfl
  | d :: ds, v :: vs, ks, h, e => by
    simp only [D.keys] at e
    split at e
    · rename_i k ks' e1 e2
      cases e
      simp only [Reps] at h
      rw [List.map_cons, rep_key h.1 e1, reps_keys h.2 e2]
    · cases e
  | [], _ :: _, _, h, _ => by simp only [Reps] at h
  | _ :: _, [], _, h, _ => by simp only [Reps] at h
theorem rep_tkey {H : Hp} {d : D} {v : V} {ks : List Key} (h : Rep K mg H d v) (e : d.tkey = some ks) : ∃ b, v = .ref b ∧ H b = some (.tup (ks.map kV)) := by
  unfold D.tkey at e
  split at e
  · rename_i d ds
    simp only [Rep] at h
    obtain ⟨a, vs, rfl, h1, h2⟩ := h
    have hv := reps_keys h2 e
    subst hv
    refine ⟨a, rfl, h1.ne fun z => ?_⟩
    have := h2.len
    rw [z] at this
    simp at this
  · cases e
theorem RR.dT {F H : Hp} {en : En} {L Lr : List Addr} {r : R} {v : V} {ks : List (List Key)} {ds : List D} (st : StOk K mg F H σ en L) (h : RR K mg F H σ en L r v Lr) (e : r.dT en = some (ks, ds)) : ∃ a kws, v = .ref a ∧ Rd H a (.dT kws) ∧ kws.map (·.1) = ks ∧ Reps K mg F ds (kws.map (·.2)) := by
  have one : ∀ {w : W} {M : List Addr}, Own K mg F H w v M → (w = .sh (.dT ks ds) ∨ w = .dT ks ds ∨ w = .sh (.lT ks ds)) → ∃ a kws, v = .ref a ∧ Rd H a (.dT kws) ∧ kws.map (·.1) = ks ∧ Reps K mg F ds (kws.map (·.2)) := by
    intro w M o hw
    rcases hw with rfl | rfl | rfl
    · simp only [Own, Rep] at o
      obtain ⟨⟨a, kws, e1, h1, h2, h3⟩, _⟩ := o
      exact ⟨a, kws, e1, .inl (st.sub _ _ h1), h2, h3⟩
    · simp only [Own] at o
      obtain ⟨a, kws, e1, h1, _, _, h2, h3⟩ := o
      exact ⟨a, kws, e1, .inl h1, h2, h3⟩
    · simp only [Own, Rep] at o
      obtain ⟨⟨a, od, kws, e1, h1, h2, h3⟩, _⟩ := o
      exact ⟨a, kws, e1, .inr ⟨od, st.sub _ _ h1⟩, h2, h3⟩
  cases r with
  | val w =>
    simp only [RR] at h
    unfold R.dT at e
    split at e
    · rename_i h0; cases h0; cases e; exact one h (.inl rfl)
    · rename_i h0; cases h0; cases e; exact one h (.inr (.inl rfl))
    · rename_i h0; cases h0; cases e; exact one h (.inr (.inr rfl))
    · rename_i h0; cases h0
    · cases e
  | pl i p =>
    obtain ⟨_, w, La, Lm, Lb, P⟩ := RR.part st h
    have g := P.1
    simp only [R.dT, g] at e
    split at e
    · rename_i h0; cases h0; cases e; exact one P.2.2.1 (.inl rfl)
    · rename_i h0; cases h0; cases e; exact one P.2.2.1 (.inr (.inl rfl))
    · rename_i h0; cases h0; cases e; exact one P.2.2.1 (.inr (.inr rfl))
    · cases e
theorem look_val {κ : Type} [DecidableEq κ] {F : Hp} {d : D} {k : κ} : ∀ {ks : List κ} {ds : List D} {kws : List (κ × V)}, kws.map (·.1) = ks → Reps K mg F ds (kws.map (·.2)) → lookD ks ds k = some d → ∃ v, valV kws k = some v ∧ Rep K mg F d v
  | k0 :: ks, d0 :: ds, (k1, v1) :: kws, e, h, hl => by
    simp only [List.map_cons, List.cons.injEq] at e
    obtain ⟨rfl, e⟩ := e
    simp only [List.map_cons, Reps] at h
    simp only [lookD] at hl
    split at hl
    · rename_i hk
      cases hl
      exact ⟨v1, by unfold valV; simp [hk], h.1⟩
    · rename_i hk
      obtain ⟨v, h1, h2⟩ := look_val e h.2 hl
      refine ⟨v, ?_, h2⟩
      unfold valV at h1 ⊢
      rw [List.find?_cons, decide_eq_false (by exact hk)]
      exact h1
  | [], _, _, _, _, hl => by simp [lookD] at hl
  | _ :: _, [], _, _, _, hl => by simp [lookD] at hl
  | _ :: _, _ :: _, [], e, _, _ => by simp at e
end
def gDGet : En → List R → Option (En × R)
  | en, [r1, r2] => match r1.dT en, r2.d en with
    | some (ks, ds), some d => match d.tkey with
      | some k => match lookD ks ds k with
        | some x => some (en, .val (.sh x))
        | none => none
      | none => none
    | _, _ => none
  | _, _ => none
section
variable {X : Cx} {o i : Expr} {fo fi : FE} {pos : Pos}
theorem se_dget (hu : X.A.units + 1 < cLine) (ho : SE X o fo) (hi : SE X i fi) (hs : NoSl i := by exact fun _ _ => rfl) : SE X (.Subscript o i pos) (fN gDGet [fo, fi]) :=
  pe_imp (pe_dget hu ho hi hs) fun σ H Q q => by
    have op : OpN X.K X.mg (r2N fun x y H Q => ∃ a v, x = .ref a ∧ DGet H a y (some v) ∧ Q v H) gDGet := by
      intro F H σ en L rs vs Lr en' r' st rr hs nd e Q q
      unfold gDGet at e
      split at e
      · rename_i r1 r2
        split at e
        · rename_i ks ds d e1 e2
          split at e
          · rename_i k ek
            split at e
            · rename_i x ex
              cases e
              obtain ⟨v1, v2, A, B, rfl, rfl, h1, h2⟩ := rrs2 rr
              obtain ⟨a, kws, rfl, ha, hk, hr⟩ := h1.dT st e1
              obtain ⟨b, rfl, hb⟩ := rep_tkey (h2.peek st e2) ek
              obtain ⟨y, hy, ry⟩ := look_val hk hr ex
              refine ⟨_, _, rfl, a, y, rfl, ?_, q y F H L [] st (by simp only [RR]; exact own_sh ry) (by simpa using st.nd) (Ext.refl.mem (fun a h => h) fun a h => by
                have h' : a ∈ L := by simpa using h
                simp [h'])⟩
              rw [← hy]
              exact .inr ⟨kws, k, b, ha, rfl, hb, rfl⟩
            · cases e
          · cases e
        · cases e
      · cases e
    exact tEv_two (op_behind op q)
/-- a new dict -/
def fNewT : FE := fun en => some (en, .val (.dT [] []))
theorem se_newT : SE X (.Dict [] [] pos) fNewT := pe_imp pe_dnewT fun σ H Q q => by
  obtain ⟨F, en, L, en', r', st, e, k⟩ := q
  simp only [fNewT, Option.some.injEq, Prod.mk.injEq] at e
  obtain ⟨rfl, rfl⟩ := e
  intro p hp
  obtain ⟨sa, xa⟩ := lay_owned (o := .dT []) st hp
  refine k (.ref p) F _ L [p] sa ?_ (nd_of st.nd (by simp) fun b hb hb' => ?_) xa
  · simp only [RR, Own]
    exact ⟨p, [], rfl, upd_same, sub_none st.sub hp, rfl, rfl, by simp only [List.map_nil, Reps]⟩
  · have : b = p := by simpa using hb'
    subst this
    exact (st.cell b hb).1.1 hp
end
/-! d[k] = e -/
def putKs {κ : Type} [DecidableEq κ] (ks : List κ) (k : κ) : List κ := if k ∈ ks then ks else ks ++ [k]
def putVs {κ : Type} [DecidableEq κ] : List κ → List D → κ → D → List D
  | k0 :: ks, d0 :: ds, k, d => (if k0 = k then d else d0) :: putVs ks ds k d
  | _, _, _, _ => []
def putDs {κ : Type} [DecidableEq κ] (ks : List κ) (ds : List D) (k : κ) (d : D) : List D := if k ∈ ks then putVs ks ds k d else ds ++ [d]
section
variable {K : PySem.W.Frag} {mg : Str → Option Value}
theorem put_pairs {κ : Type} [DecidableEq κ] {F : Hp} {ks : List κ} {ds : List D} {kws : List (κ × V)} {k : κ} {d : D} {v : V} (e : kws.map (·.1) = ks) (h : Reps K mg F ds (kws.map (·.2))) (hd : Rep K mg F d v) :
    (putK kws k v).map (·.1) = putKs ks k ∧ Reps K mg F (putDs ks ds k d) ((putK kws k v).map (·.2)) := by
  have hany : (kws.any fun kv => decide (kv.1 = k)) = decide (k ∈ ks) := by
    rw [Bool.eq_iff_iff, ← e]
    simp only [List.any_eq_true, decide_eq_true_eq, List.mem_map]
  unfold putK putKs putDs
  rw [hany]
  by_cases hk : k ∈ ks
  · simp only [hk, decide_true, if_true]
    have gen : ∀ {ks : List κ} {ds : List D} {kws : List (κ × V)}, kws.map (·.1) = ks → Reps K mg F ds (kws.map (·.2)) → (kws.map fun kv => if kv.1 = k then (kv.1, v) else kv).map (·.1) = ks ∧ Reps K mg F (putVs ks ds k d) ((kws.map fun kv => if kv.1 = k then (kv.1, v) else kv).map (·.2)) := by
      intro ks
      induction ks with
      | nil =>
        intro ds kws e h
        cases kws with
        | nil => exact ⟨rfl, by simp only [putVs, List.map_nil, Reps]⟩
        | cons p kws => simp at e
      | cons k0 ks ih =>
        intro ds kws e h
        cases kws with
        | nil => simp at e
        | cons p kws =>
          obtain ⟨k1, v1⟩ := p
          simp only [List.map_cons, List.cons.injEq] at e
          obtain ⟨rfl, e⟩ := e
          cases ds with
          | nil => simp only [List.map_cons, Reps] at h
          | cons d0 ds =>
            simp only [List.map_cons, Reps] at h
            obtain ⟨i1, i2⟩ := ih e h.2
            by_cases hk1 : k1 = k
            · simp only [List.map_cons, hk1, if_true, putVs, Reps]
              exact ⟨by rw [i1], hd, i2⟩
            · simp only [List.map_cons, hk1, if_false, putVs, Reps]
              exact ⟨by rw [i1], h.1, i2⟩
    exact gen e h
  · simp only [hk, decide_false, if_false, Bool.false_eq_true]
    refine ⟨by rw [List.map_append, e]; rfl, ?_⟩
    rw [List.map_append]
    exact h.append (by simp only [List.map_cons, List.map_nil, Reps]; exact ⟨hd, trivial⟩)
/-- a dict at a place is written -/
theorem write_dT {F H : Hp} {σ : L2.St} {en : En} {L : List Addr} {i : Nat} {p : List Nat} {ks : List (List Key)} {ds : List D} {v : V} {La Lm Lb : List Addr} (st : StOk K mg F H σ en L) (P : PartO K mg F H σ en L i p (.dT ks ds) v La Lm Lb) :
    ∃ a kws, v = .ref a ∧ H a = some (.dT kws) ∧ kws.map (·.1) = ks ∧ Reps K mg F ds (kws.map (·.2)) ∧
      ∀ (kws' : List (List Key × V)) (ks' : List (List Key)) (ds' : List D), kws'.map (·.1) = ks' → Reps K mg F ds' (kws'.map (·.2)) →
        StOk K mg F (upd H a (.dT kws')) σ (en.put i p (.dT ks' ds')) L ∧ Ext F H L F (upd H a (.dT kws')) L := by
  obtain ⟨g, eL, o, kk⟩ := P
  simp only [Own] at o
  obtain ⟨a, kws, rfl, h2, h3, rfl, h5, h6⟩ := o
  subst eL
  have nd0 := st.nd
  have cl := st.cell
  obtain ⟨n1, n2⟩ := nodup3 nd0
  refine ⟨a, kws, rfl, h2, h5, h6, fun kws' ks' ds' e1 r1 => ?_⟩
  have hne : ∀ b ∈ La ++ Lb, b ≠ a := fun b hb z => n2 b hb (by simp [z])
  have cl2 : ∀ b ∈ La ++ Lb, F b = none := fun b hb => (cl b (by simp only [List.mem_append] at hb ⊢; rcases hb with z | z <;> simp [z])).2
  have hs : Stay F H F (upd H a (.dT kws')) (La ++ Lb) := ⟨Same.refl F, cl2, fun b hb => upd_ne (hne b hb)⟩
  have own' : Own K mg F (upd H a (.dT kws')) (.dT ks' ds') (.ref a) [a] := by
    simp only [Own]
    exact ⟨a, kws', rfl, upd_same, h3, rfl, e1, r1⟩
  refine ⟨⟨fun b u e => ?_, nd0, kk F _ _ [a] hs own'⟩, ⟨fun b u e nb => ?_, fun b e => ?_, Same.refl F, fun b e => .inl e, fun b hb => .inl hb⟩⟩
  · have hb : b ≠ a := fun z => by subst z; rw [h3] at e; cases e
    rw [upd_ne hb]
    exact st.sub b u e
  · rw [upd_ne (fun z => nb (by simp [z]))]
    exact e
  · by_cases z : b = a
    · subst z; rw [upd_same]; simp
    · rw [upd_ne z]; exact e
end
/-- base any place, index quiet -/
def sDPutP (fe fo : FE) (fk : En → Option D) : FS := fun en => match fe en with
  | none => none
  | some (en1, r) => match r.fz en1 with
    | none => none
    | some (en2, d) => match fo en2 with
      | some (en3, .pl i p) => match fk en3 with
        | some kd => match kd.tkey, en3.get i p with
          | some k, some (.dT ks ds) => if ks.length < sizeLine then some (en3.put i p (.dT (putKs ks k) (putDs ks ds k d)), .nx) else none
          | _, _ => none
        | none => none
      | _ => none
/-- base the name at i, index any expression -/
def sDPutN (fe : FE) (i : Nat) (fk : FE) : FS := fun en => match fe en with
  | none => none
  | some (en1, r) => match r.fz en1 with
    | none => none
    | some (en2, d) => match en2[i]? with
      | some (.dT _ _) => match fk en2 with
        | some (en3, rk) => match rk.d en3 with
          | some kd => match kd.tkey, en3[i]? with
            | some k, some (.dT ks ds) => if ks.length < sizeLine then some (en3.put i [] (.dT (putKs ks k) (putDs ks ds k d)), .nx) else none
            | _, _ => none
          | none => none
        | none => none
      | _ => none
section
variable {X : Cx} {fix : List Nat} {o ix value : Expr} {fo fe fi : FE} {fk : En → Option D} {i : Nat} {pos pos' : Pos}
theorem ss_dputP (hu : X.A.units + 1 < cLine) (ho : SE X o fo) (hi : SQ X ix fk) (hv : SE X value fe) (hs : swapsWith value (some (.Subscript o ix pos')) pos.line X.env = pure false := by rfl) : SS X fix (.Assign [.Subscript o ix pos'] value pos) (sDPutP fe fo fk) :=
  ps_imp (ps_dput hu ho hi hv hs) fun D σ H q => by
    obtain ⟨F, en, L, en', fl, st, e, q⟩ := q
    unfold sDPutP at e
    split at e
    · cases e
    rename_i en1 r e1
    split at e
    · cases e
    rename_i en2 d e2
    split at e
    · rename_i en3 j p e3
      split at e
      · rename_i kd ek
        split at e
        · rename_i k ks ds ek2 ew
          split at e
          · rename_i hl
            cases e
            refine ⟨F, en, L, en1, r, st, e1, fun v F1 H1 L1 Lr st1 rr nd x => ?_⟩
            obtain ⟨F2, L2, st2, rp, x2⟩ := rr.fz st1 nd e2
            refine ⟨F2, en2, L2, en3, .pl j p, st2, e3, fun u F3 H3 L3 Lr3 st3 rr3 nd3 x3 => ?_⟩
            refine ⟨F3, en3, L3, kd, st3, ek, fun y hy => ?_⟩
            obtain ⟨rfl, w1, La, Lm, Lb, P⟩ := RR.part st3 rr3
            have hw1 : w1 = .dT ks ds := by
              have g := P.1
              rw [ew] at g
              cases g
              rfl
            subst hw1
            obtain ⟨a, kws, rfl, ha, hk, hr, wr⟩ := write_dT st3 P
            obtain ⟨b, rfl, hb⟩ := rep_tkey (hy.mono st3.sub) ek2
            obtain ⟨z1, z2⟩ := put_pairs (k := k) hk hr (rp.mono x3.sub)
            obtain ⟨s4, x4⟩ := wr _ _ _ z1 z2
            refine ⟨a, _, rfl, DPut.t ha hb (by rw [← hk, List.length_map] at hl; exact hl), q σ F3 _ L3 s4 Fixed.refl ?_⟩
            exact x.trans (x2.trans ((drop_temp x3).trans x4))
          · cases e
        · cases e
      · cases e
    · cases e
theorem ss_dputN (hu : X.A.units + 1 < cLine) (ho : PE X o (tVar i)) (hi : SE X ix fi) (hv : SE X value fe) (hs : swapsWith value (some (.Subscript o ix pos')) pos.line X.env = pure false := by rfl) : SS X fix (.Assign [.Subscript o ix pos'] value pos) (sDPutN fe i fi) :=
  ps_imp (ps_dput hu ho hi hv hs) fun D σ H q => by
    obtain ⟨F, en, L, en', fl, st, e, q⟩ := q
    unfold sDPutN at e
    split at e
    · cases e
    rename_i en1 r e1
    split at e
    · cases e
    rename_i en2 d e2
    split at e
    · rename_i ks0 ds0 hw0
      split at e
      · rename_i en3 rk e3
        split at e
        · rename_i kd ek
          split at e
          · rename_i k ks ds ek2 ew
            split at e
            · rename_i hl
              cases e
              refine ⟨F, en, L, en1, r, st, e1, fun v F1 H1 L1 Lr st1 rr nd x => ?_⟩
              obtain ⟨F2, L2, st2, rp, x2⟩ := rr.fz st1 nd e2
              obtain ⟨ov, La0, Lm0, Lb0, g1, _, g3, _⟩ := st2.own.get hw0
              rcases g3 with ⟨u, rfl, _⟩ | ⟨_, z, _⟩
              · refine ⟨u, g1, F2, en2, L2, en3, rk, st2, e3, fun y F3 H3 L3 Lr3 st3 rr3 nd3 x3 => ?_⟩
                obtain ⟨w1, La, Lm, Lb, P⟩ := part_name st3.own g1
                have hw1 : w1 = .dT ks ds := by
                  have g := P.1
                  simp only [En.get, ew, W.get, Option.some.injEq] at g
                  exact g.symm
                subst hw1
                obtain ⟨a, kws, rfl, ha, hk, hr, wr⟩ := write_dT st3 P
                obtain ⟨b, rfl, hb⟩ := rep_tkey (rr3.peek st3 ek) ek2
                obtain ⟨z1, z2⟩ := put_pairs (k := k) hk hr (rp.mono x3.sub)
                obtain ⟨s4, x4⟩ := wr _ _ _ z1 z2
                refine ⟨a, _, rfl, DPut.t ha hb (by rw [← hk, List.length_map] at hl; exact hl), q σ F3 _ L3 s4 Fixed.refl ?_⟩
                exact x.trans (x2.trans ((drop_temp x3).trans x4))
              · cases z
            · cases e
          · cases e
        · cases e
      · cases e
    · cases e
end
end Pu

/-! Pu13: what is walked; for, while. -/
namespace Pu
open PySem PySem.Spec PyProof.Rows L2

section
variable (K : PySem.W.Frag) (mg : Str → Option Value)
/-- the iterator goes over these things -/
def IterOk (F : Hp) (J : It) (ds : List D) : Prop := ∀ (i : Nat) (H : Hp), Same F H → (ds.length ≤ i → J.stop i H) ∧
  ∀ d, ds[i]? = some d → J.go i H ∧ ∀ x H', J.yld i H x H' → (H' = H ∧ Rep K mg F d x) ∨ (∃ T o, H T = none ∧ H' = upd H T o ∧ Rep K mg (upd F T o) d x) ∨ ∃ T o, H T = some (.tup o) ∧ H' = H ∧ Rep K mg (upd F T (.tup o)) d x
abbrev FI := En → Option (En × List D)
def tI (fi : FI) : TI := fun σ H R => ∃ F en L en' ds, StOk K mg F H σ en L ∧ fi en = some (en', ds) ∧ ∀ J F' H' L', StOk K mg F' H' σ en' L' → Ext F H L F' H' L' → IterOk K mg F' J ds → R J H'
end
abbrev SI (X : Cx) (tg iter : Expr) (fi : FI) : Prop := PI X tg iter (tI X.K X.mg fi)
theorem pi_imp {X : Cx} {tg e : Expr} {t t' : TI} (h : PI X tg e t) (i : ∀ σ H R, t' σ H R → t σ H R) : PI X tg e t' := ⟨fun pins s σ H R I q => h.run pins s σ H R I (i σ H R q)⟩
theorem pi_or2 {X : Cx} {tg e : Expr} {t t' : TI} (h : PI X tg e t) (h' : PI X tg e t') : PI X tg e (fun σ H R => t σ H R ∨ t' σ H R) := ⟨fun pins s σ H R I q => q.elim (h.run pins s σ H R I) (h'.run pins s σ H R I)⟩

/-! ### lists, tuples, texts -/
def D.walk : D → Option (List D)
  | .tup ds => some ds
  | .lst ds => some ds
  | .frl ds => some ds
  | .str x => some (x.cps.toList.map fun c => .str ⟨#[c]⟩)
  | _ => none
def iSeq (f : FE) : FI := fun en => match f en with
  | none => none
  | some (en1, r) => match r.fz en1 with
    | none => none
    | some (en2, d) => match d.walk with
      | none => none
      | some ds => some (en2, ds)
section
variable {X : Cx} {tg e : Expr} {f : FE}
theorem si_seq (he : SE X e f) : SI X tg e (iSeq f) := pi_imp (pi_or2 (pi_list he) (pi_or2 (pi_tup he) (pi_str he))) fun σ H R q => by
  obtain ⟨F, en, L, en', ds, st, e, k⟩ := q
  unfold iSeq at e
  split at e
  · cases e
  rename_i en1 r e1
  split at e
  · cases e
  rename_i en2 d e2
  split at e
  · cases e
  rename_i ds' e3
  cases e
  have at_ : ∀ {F2 : Hp} {vs : List V} {i : Nat} {d : D} {H2 : Hp} {x : V}, Reps X.K X.mg F2 ds vs → ds[i]? = some d → vs[i]? = some x → Rep X.K X.mg F2 d x := fun r e1 e2 => by
    obtain ⟨y, h1, h2⟩ := reps_at r e1
    rw [h1] at e2
    cases e2
    exact h2
  have get_ : ∀ {vs : List V} {i : Nat} {d : D} {F2 : Hp}, Reps X.K X.mg F2 ds vs → ds[i]? = some d → ∃ y, vs[i]? = some y ∧ Rep X.K X.mg F2 d y := fun r e1 => reps_at r e1
  cases d with
  | lst ds0 =>
    simp only [D.walk, Option.some.injEq] at e3
    subst e3
    refine .inl ⟨F, en, L, en1, r, st, e1, fun v F1 H1 L1 Lr st1 rr nd x => ?_⟩
    obtain ⟨F2, L2, st2, rp, x2⟩ := rr.fz st1 nd e2
    simp only [Rep] at rp
    obtain ⟨a, vs, rfl, ha, hr⟩ := rp
    refine ⟨a, rfl, ⟨vs, SqL.of (st2.sub _ _ ha)⟩, k _ F2 H1 L2 st2 (x.trans x2) fun i H2 s2 => ⟨fun hi => ⟨vs, SqL.of (s2 _ _ ha), by rw [← hr.len]; exact hi⟩, fun d hd => ?_⟩⟩
    obtain ⟨y, h1, h2⟩ := get_ hr hd
    refine ⟨⟨vs, y, SqL.of (s2 _ _ ha), h1⟩, fun x H' hy => .inl ⟨hy.1, ?_⟩⟩
    have := hy.2 vs (SqL.of (s2 _ _ ha))
    rw [h1] at this
    cases this
    exact h2
  | frl ds0 =>
    simp only [D.walk, Option.some.injEq] at e3
    subst e3
    refine .inl ⟨F, en, L, en1, r, st, e1, fun v F1 H1 L1 Lr st1 rr nd x => ?_⟩
    obtain ⟨F2, L2, st2, rp, x2⟩ := rr.fz st1 nd e2
    simp only [Rep] at rp
    obtain ⟨a, vs, rfl, ha, hr⟩ := rp
    refine ⟨a, rfl, ⟨vs, st2.sub.seq ha⟩, k _ F2 H1 L2 st2 (x.trans x2) fun i H2 s2 => ⟨fun hi => ⟨vs, s2.seq ha, by rw [← hr.len]; exact hi⟩, fun d hd => ?_⟩⟩
    obtain ⟨y, h1, h2⟩ := get_ hr hd
    refine ⟨⟨vs, y, s2.seq ha, h1⟩, fun x H' hy => .inl ⟨hy.1, ?_⟩⟩
    have := hy.2 vs (s2.seq ha)
    rw [h1] at this
    cases this
    exact h2
  | tup ds0 =>
    simp only [D.walk, Option.some.injEq] at e3
    subst e3
    refine .inr (.inl ⟨F, en, L, en1, r, st, e1, fun v F1 H1 L1 Lr st1 rr nd x => ?_⟩)
    obtain ⟨F2, L2, st2, rp, x2⟩ := rr.fz st1 nd e2
    simp only [Rep] at rp
    obtain ⟨a, vs, rfl, ha, hr⟩ := rp
    refine ⟨a, rfl, ⟨vs, seqT st2.sub ha.1⟩, k _ F2 H1 L2 st2 (x.trans x2) fun i H2 s2 => ⟨fun hi => ⟨vs, seqT s2 ha.1, by rw [← hr.len]; exact hi⟩, fun d hd => ?_⟩⟩
    obtain ⟨y, h1, h2⟩ := get_ hr hd
    refine ⟨⟨vs, y, seqT s2 ha.1, h1⟩, fun x H' hy => .inl ⟨hy.1, ?_⟩⟩
    have := hy.2 vs (seqT s2 ha.1)
    rw [h1] at this
    cases this
    exact h2
  | str z =>
    simp only [D.walk, Option.some.injEq] at e3
    subst e3
    refine .inr (.inr ⟨F, en, L, en1, r, st, e1, fun v F1 H1 L1 Lr st1 rr nd x => ?_⟩)
    obtain ⟨F2, L2, st2, rp, x2⟩ := rr.fz st1 nd e2
    refine ⟨z, rep_str rp, k _ F2 H1 L2 st2 (x.trans x2) fun i H2 s2 => ⟨fun hi => ?_, fun d hd => ?_⟩⟩
    · simp only [List.length_map, Array.length_toList] at hi
      exact hi
    · simp only [List.getElem?_map, Array.getElem?_toList] at hd
      cases hc : z.cps[i]? with
      | none => rw [hc] at hd; cases hd
      | some c =>
        rw [hc] at hd
        cases hd
        refine ⟨(Array.getElem?_eq_some_iff.mp hc).1, fun x H' hy => .inl ⟨hy.1, ?_⟩⟩
        obtain ⟨_, c', h1, rfl⟩ := hy
        rw [hc] at h1
        cases h1
        exact rep_v rfl
  | _ => cases e3
end
/-! ### range -/
def iRange1 (f : FE) : FI := fun en => match evs [f] en with
  | some (en1, [r]) => match r.d en1 with
    | some (.int n) => if -(2 ^ 62) ≤ n ∧ n < 2 ^ 62 then some (en1, (List.range n.toNat).map fun (k : Nat) => D.int (k : Int)) else none
    | _ => none
  | _ => none
def iRange2 (f g : FE) : FI := fun en => match evs [f, g] en with
  | some (en1, [r1, r2]) => match r1.d en1, r2.d en1 with
    | some (.int a), some (.int b) => if -(2 ^ 62) ≤ a ∧ a < 2 ^ 62 ∧ -(2 ^ 62) ≤ b ∧ b < 2 ^ 62 then some (en1, (List.range (b - a).toNat).map fun (k : Nat) => D.int (a + (k : Int))) else none
    | _, _ => none
  | _ => none
theorem iter_range {K : PySem.W.Frag} {mg : Str → Option Value} {F : Hp} {lo : Int} {n : Nat} : IterOk K mg F (Itr lo n) ((List.range n).map fun (k : Nat) => D.int (lo + k)) := fun i H _ => by
  refine ⟨fun hi => by
    show n ≤ i
    simpa using hi, fun d hd => ?_⟩
  simp only [List.getElem?_map] at hd
  cases hr : (List.range n)[i]? with
  | none => rw [hr] at hd; cases hd
  | some k =>
    rw [hr] at hd
    cases hd
    obtain ⟨h1, h2⟩ := List.getElem?_eq_some_iff.mp hr
    simp only [List.getElem_range] at h2
    simp only [List.length_range] at h1
    subst h2
    refine ⟨h1, fun x H' hy => .inl ⟨hy.1, ?_⟩⟩
    have := hy.2
    subst this
    exact rep_v rfl
section
variable {X : Cx} {tg a b : Expr} {fa fb : FE} {p pos : Pos}
theorem rrs1 {K : PySem.W.Frag} {mg : Str → Option Value} {F H : Hp} {σ : L2.St} {en : En} {L Lr : List Addr} {r1 : R} {vs : List V} (h : RRs K mg F H σ en L [r1] vs Lr) : ∃ v1, vs = [v1] ∧ RR K mg F H σ en L r1 v1 Lr := by
  match vs, h with
  | [v1], h =>
    simp only [RRs] at h
    obtain ⟨A, B, rfl, h1, rfl⟩ := h
    exact ⟨v1, rfl, by simpa using h1⟩
  | [], h => simp only [RRs] at h
  | _ :: _ :: _, h =>
    simp only [RRs] at h
    obtain ⟨_, _, _, _, h⟩ := h
    exact h.elim
theorem si_range1 (hg : Gl X "range") (hm : X.mg "range" = none) (ha : SE X a fa) (hs : starEach [a] X.env = [(false, eval a X.env)] := by rfl) : SI X tg (.Call (.Name "range" p) [a] [] pos) (iRange1 fa) :=
  pi_imp (pi_range1 hg hm (sa_cons ha sa_nil hs) hs) fun σ H R q => by
    obtain ⟨F, en, L, en', ds, st, e, k⟩ := q
    unfold iRange1 at e
    split at e
    · rename_i en1 r e1
      split at e
      · rename_i n e2
        split at e
        · rename_i hb
          cases e
          refine ⟨F, en, L, _, [r], st, e1, fun vs F1 H1 L1 Lr st1 rr nd x => ?_⟩
          obtain ⟨v1, rfl, h1⟩ := rrs1 rr
          have := rep_int (h1.peek st1 e2)
          subst this
          refine ⟨n, rfl, hb.1, hb.2, k _ F1 H1 L1 st1 (drop_temp x) ?_⟩
          have := iter_range (K := X.K) (mg := X.mg) (F := F1) (lo := 0) (n := n.toNat)
          simpa using this
        · cases e
      · cases e
    · cases e
theorem si_range2 (hg : Gl X "range") (hm : X.mg "range" = none) (ha : SE X a fa) (hb : SE X b fb) (hs : starEach [a, b] X.env = [(false, eval a X.env), (false, eval b X.env)] := by rfl) (hs2 : starEach [b] X.env = [(false, eval b X.env)] := by rfl) : SI X tg (.Call (.Name "range" p) [a, b] [] pos) (iRange2 fa fb) :=
  pi_imp (pi_range2 hg hm (sa_cons ha (sa_cons hb sa_nil hs2) (hs.trans (by rw [hs2]))) hs hs2) fun σ H R q => by
    obtain ⟨F, en, L, en', ds, st, e, k⟩ := q
    unfold iRange2 at e
    split at e
    · rename_i en1 r1 r2 e1
      split at e
      · rename_i i j e2 e3
        split at e
        · rename_i hb
          cases e
          refine ⟨F, en, L, _, [r1, r2], st, e1, fun vs F1 H1 L1 Lr st1 rr nd x => ?_⟩
          obtain ⟨v1, v2, A, B, rfl, rfl, h1, h2⟩ := rrs2 rr
          have := rep_int (h1.peek st1 e2)
          subst this
          have := rep_int (h2.peek st1 e3)
          subst this
          exact ⟨i, j, rfl, hb, k _ F1 H1 L1 st1 (drop_temp x) iter_range⟩
        · cases e
      · cases e
    · cases e
end
/-! ### enumerate of a list -/
def enumD : Nat → List D → List D
  | _, [] => []
  | n, d :: ds => .tup [.int n, d] :: enumD (n + 1) ds
theorem enumD_len : ∀ (ds : List D) (n : Nat), (enumD n ds).length = ds.length
  | [], _ => rfl
  | _ :: ds, n => by simp [enumD, enumD_len ds]
theorem enumD_get : ∀ (ds : List D) (n i : Nat) (d : D), (enumD n ds)[i]? = some d → ∃ x, ds[i]? = some x ∧ d = .tup [.int ((n + i : Nat) : Int), x]
  | [], _, _, _, h => by simp [enumD] at h
  | x :: ds, n, 0, d, h => by
    simp only [enumD, List.getElem?_cons_zero, Option.some.injEq] at h
    exact ⟨x, rfl, h.symm⟩
  | x :: ds, n, i + 1, d, h => by
    simp only [enumD, List.getElem?_cons_succ] at h
    obtain ⟨y, h1, h2⟩ := enumD_get ds (n + 1) i d h
    exact ⟨y, by simpa using h1, by rw [h2]; congr 4; omega⟩
def iEnumL (f : FE) : FI := fun en => match f en with
  | none => none
  | some (en1, r) => match r.fz en1 with
    | none => none
    | some (en2, d) => match d.litems with
      | none => none
      | some ds => some (en2, enumD 0 ds)
/-- zip of lists -/
def zipD : List D → List D → List D
  | d :: ds, e :: es => .tup [d, e] :: zipD ds es
  | _, _ => []
section
variable {X : Cx} {e : Expr} {f : FE} {p pos tpos : Pos} {elts : List Expr} {kk : Nat}
theorem si_enum (hg : Gl X "enumerate") (hm : X.mg "enumerate" = none) (he : SE X e f) (hs : starEach [e] X.env = [(false, eval e X.env)] := by rfl) : SI X (.Tuple elts kk tpos) (.Call (.Name "enumerate" p) [e] [] pos) (iEnumL f) :=
  pi_imp (pi_enum hg hm (pa_cons he pa_nil hs) hs) fun σ H R q => by
    obtain ⟨F, en, L, en', ds, st, e, k⟩ := q
    unfold iEnumL at e
    split at e
    · cases e
    rename_i en1 r e1
    split at e
    · cases e
    rename_i en2 d e2
    split at e
    · cases e
    rename_i ds' e3
    cases e
    refine ⟨F, en, L, en1, r, st, e1, fun v F1 H1 L1 Lr st1 rr nd x => ?_⟩
    obtain ⟨F2, L2, st2, rp, x2⟩ := rr.fz st1 nd e2
    obtain ⟨a, vs, rfl, ha, hr⟩ := rep_litems rp e3
    refine ⟨a, vs, rfl, st2.sub.seq ha, k _ F2 H1 L2 st2 (x.trans x2) fun i H2 s2 => ⟨fun hi => ⟨vs, s2.seq ha, by rw [← hr.len, ← enumD_len ds' 0]; exact hi⟩, fun d hd => ?_⟩⟩
    obtain ⟨y, g1, g2⟩ := enumD_get ds' 0 i d hd
    obtain ⟨z, h1, h2⟩ := reps_at hr g1
    refine ⟨⟨vs, z, s2.seq ha, h1⟩, fun x H' hy => .inr ?_⟩
    obtain ⟨T, w, rfl, hT, rfl, hw⟩ := hy
    have hwz := hw vs (s2.seq ha)
    rw [h1] at hwz
    cases hwz
    refine .inl ⟨T, _, hT, rfl, ?_⟩
    rw [g2]
    exact rep_tup s2 hT (by simp only [Reps]; exact ⟨rep_v (by simp [D.v]), h2, trivial⟩)
end

theorem zipD_len : ∀ (ds es : List D), (zipD ds es).length = min ds.length es.length
  | [], es => by simp [zipD]
  | d :: ds, [] => by simp [zipD]
  | d :: ds, e :: es => by
    have := zipD_len ds es
    simp only [zipD, List.length_cons, this]
    omega
theorem zipD_get : ∀ (ds es : List D) (i : Nat) (d : D), (zipD ds es)[i]? = some d → ∃ x y, ds[i]? = some x ∧ es[i]? = some y ∧ d = .tup [x, y]
  | [], _, _, _, h => by simp [zipD] at h
  | _ :: _, [], _, _, h => by simp [zipD] at h
  | x :: ds, y :: es, 0, d, h => by
    simp only [zipD, List.getElem?_cons_zero, Option.some.injEq] at h
    exact ⟨x, y, rfl, rfl, h.symm⟩
  | x :: ds, y :: es, i + 1, d, h => by
    simp only [zipD, List.getElem?_cons_succ] at h
    obtain ⟨a, b, h1, h2, h3⟩ := zipD_get ds es i d h
    exact ⟨a, b, by simpa using h1, by simpa using h2, h3⟩
def iZipL (f g : FE) : FI := fun en => match evs [f, g] en with
  | some (en1, rs) => match rfz en1 rs with
    | some (en2, [a, b]) => match a.its, b.its with
      | some (.t, ds), some (.t, es) => some (en2, zipD ds es)
      | some (.l, ds), some (.l, es) => some (en2, zipD ds es)
      | some (.l, ds), some (.f, es) => some (en2, zipD ds es)
      | some (.f, ds), some (.l, es) => some (en2, zipD ds es)
      | some (.f, ds), some (.f, es) => some (en2, zipD ds es)
      | _, _ => none
    | _ => none
  | none => none
section
variable {X : Cx} {a b : Expr} {fa fb : FE} {p pos tpos : Pos} {elts : List Expr} {kk : Nat}
theorem si_zip (hg : Gl X "zip") (hm : X.mg "zip" = none) (ha : SE X a fa) (hb : SE X b fb) (hs : starEach [a, b] X.env = (false, eval a X.env) :: starEach [b] X.env := by rfl) (hs2 : starEach [b] X.env = [(false, eval b X.env)] := by rfl) : SI X (.Tuple elts kk tpos) (.Call (.Name "zip" p) [a, b] [] pos) (iZipL fa fb) :=
  pi_imp (RZ.pi_zipA hg hm (sa_cons ha (sa_cons hb sa_nil hs2) hs) hs (by rw [hs2]; rfl)) fun σ H R q => by
    obtain ⟨F, en, L, en', ds, st, e, k⟩ := q
    unfold iZipL at e
    split at e
    · rename_i en1 rs e1
      split at e
      · rename_i en2 da db e2
        refine ⟨F, en, L, en1, rs, st, e1, fun vs F1 H1 L1 Lr st1 rr nd x => ?_⟩
        obtain ⟨F2, L2, st2, rp, x2⟩ := rr.fz st1 (evs_stable e1) nd e2
        obtain ⟨v1, v2, rfl, h1, h2⟩ := reps2 rp
        have lists : ∀ {k1 k2 : Kd} {ds1 es1 : List D}, k1 ≠ .t → k2 ≠ .t → da.its = some (k1, ds1) → db.its = some (k2, es1) → some (en2, zipD ds1 es1) = some (en', ds) → ∃ p1 p2 xs ys, [v1, v2] = [V.ref p1, V.ref p2] ∧ ((SqL X.K H1 p1 xs ∧ SqL X.K H1 p2 ys ∧ R (Itz X.K p1 p2) H1) ∨ (SqT X.K H1 p1 xs ∧ SqT X.K H1 p2 ys ∧ R (RZ.ItzT X.K p1 p2) H1)) := by
          intro k1 k2 ds1 es1 n1 n2 i1 i2 ee
          cases ee
          obtain ⟨p1, xs, rfl, s1, r1⟩ := rep_its h1 i1
          obtain ⟨p2, ys, rfl, s2, r2⟩ := rep_its h2 i2
          have l1 := fun {G : Hp} (sg : Same F2 G) => (s1.mono sg).lst n1
          have l2 := fun {G : Hp} (sg : Same F2 G) => (s2.mono sg).lst n2
          refine ⟨p1, p2, xs, ys, rfl, .inl ⟨l1 st2.sub, l2 st2.sub, k _ F2 H1 L2 st2 (x.trans x2) fun i H2 sg => ⟨fun hi => ⟨xs, ys, l1 sg, l2 sg, ?_⟩, fun d hd => ?_⟩⟩⟩
          · rw [zipD_len, r1.len, r2.len] at hi
            omega
          · obtain ⟨y1, y2, g1, g2, g3⟩ := zipD_get ds1 es1 i d hd
            obtain ⟨z1, a1, a2⟩ := reps_at r1 g1
            obtain ⟨z2, b1, b2⟩ := reps_at r2 g2
            refine ⟨⟨xs, ys, z1, z2, l1 sg, l2 sg, a1, b1⟩, fun x H' hy => .inr ?_⟩
            obtain ⟨T, w1, w2, rfl, hT, rfl, hw1, hw2⟩ := hy
            have q1 := hw1 xs (l1 sg)
            have q2 := hw2 ys (l2 sg)
            rw [a1] at q1
            rw [b1] at q2
            cases q1
            cases q2
            refine .inl ⟨T, _, hT, rfl, ?_⟩
            rw [g3]
            exact rep_tup sg hT (by simp only [Reps]; exact ⟨a2, b2, trivial⟩)
        split at e
        · rename_i ds1 es1 i1 i2
          cases e
          obtain ⟨p1, xs, rfl, s1, r1⟩ := rep_its h1 i1
          obtain ⟨p2, ys, rfl, s2, r2⟩ := rep_its h2 i2
          have l1 : ∀ {G : Hp}, Same F2 G → SqT X.K G p1 xs := fun sg => seqT sg s1.1
          have l2 : ∀ {G : Hp}, Same F2 G → SqT X.K G p2 ys := fun sg => seqT sg s2.1
          refine ⟨p1, p2, xs, ys, rfl, .inr ⟨l1 st2.sub, l2 st2.sub, k _ F2 H1 L2 st2 (x.trans x2) fun i H2 sg => ⟨fun hi => ⟨xs, ys, l1 sg, l2 sg, ?_⟩, fun d hd => ?_⟩⟩⟩
          · rw [zipD_len, r1.len, r2.len] at hi
            omega
          · obtain ⟨y1, y2, g1, g2, g3⟩ := zipD_get ds1 es1 i d hd
            obtain ⟨z1, a1, a2⟩ := reps_at r1 g1
            obtain ⟨z2, b1, b2⟩ := reps_at r2 g2
            refine ⟨⟨xs, ys, z1, z2, l1 sg, l2 sg, a1, b1⟩, fun x H' hy => .inr ?_⟩
            obtain ⟨T, w1, w2, rfl, hT, rfl, hw1, hw2⟩ := hy
            have q1 := hw1 xs (l1 sg)
            have q2 := hw2 ys (l2 sg)
            rw [a1] at q1
            rw [b1] at q2
            cases q1
            cases q2
            refine .inl ⟨T, _, hT, rfl, ?_⟩
            rw [g3]
            exact rep_tup sg hT (by simp only [Reps]; exact ⟨a2, b2, trivial⟩)
        · rename_i i1 i2; exact lists (by decide) (by decide) i1 i2 e
        · rename_i i1 i2; exact lists (by decide) (by decide) i1 i2 e
        · rename_i i1 i2; exact lists (by decide) (by decide) i1 i2 e
        · rename_i i1 i2; exact lists (by decide) (by decide) i1 i2 e
        · cases e
      · cases e
    · cases e
end

/-! ### for -/
def forD (g : FG) (body : FS) : List D → En → Option (En × Fl)
  | [], en => some (en, .nx)
  | d :: ds, en => match g en (.sh d) with
    | none => none
    | some en1 => match body en1 with
      | none => none
      | some (en2, .nx) => forD g body ds en2
      | some (en2, .ct) => forD g body ds en2
      | some (en2, .bk) => some (en2, .nx)
      | some (en2, .ret w) => some (en2, .ret w)
def sFor (fi : FI) (g : FG) (body : FS) : FS := fun en => match fi en with
  | none => none
  | some (en1, ds) => forD g body ds en1
section
variable {K : PySem.W.Frag} {mg : Str → Option Value}
/-- a tuple that stands there may be frozen -/
theorem tup_frozen {F H : Hp} {σ : L2.St} {en : En} {L : List Addr} {T : Addr} {o : List V} (st : StOk K mg F H σ en L) (h : H T = some (.tup o)) : StOk K mg (upd F T (.tup o)) H σ en L ∧ Ext F H L (upd F T (.tup o)) H L ∧ Same F (upd F T (.tup o)) := by
  have nL : T ∉ L := fun z => st.own.notup T z o h
  have s1 : Same F (upd F T (.tup o)) := fun b u e => by
    by_cases hb : b = T
    · subst hb
      rw [upd_same]
      have := st.sub _ _ e
      rw [h] at this
      exact this
    · rw [upd_ne hb]; exact e
  have s2 : Same (upd F T (.tup o)) H := fun b u e => by
    by_cases hb : b = T
    · subst hb
      rw [upd_same] at e
      rw [← e]; exact h
    · rw [upd_ne hb] at e; exact st.sub _ _ e
  refine ⟨⟨s2, st.nd, st.own.stay ⟨s1, fun b hb => ?_, fun _ _ => rfl⟩⟩, ⟨fun _ _ e _ => e, fun _ e => e, s1, fun b e => ?_, fun _ e => .inl e⟩, s1⟩
  · rw [upd_ne (fun z : b = T => nL (by rw [← z]; exact hb))]
    exact (st.cell b hb).2
  · by_cases hb : b = T
    · subst hb
      exact .inr (.inr (.inr ⟨o, h⟩))
    · rw [upd_ne hb] at e; exact .inl e
/-- an item has come -/
theorem item_come {F F0 H H' : Hp} {σ : L2.St} {en : En} {L : List Addr} {d : D} {x : V} (st : StOk K mg F H σ en L) (s0 : Same F0 F) (h : (H' = H ∧ Rep K mg F0 d x) ∨ (∃ T o, H T = none ∧ H' = upd H T o ∧ Rep K mg (upd F0 T o) d x) ∨ ∃ T o, H T = some (.tup o) ∧ H' = H ∧ Rep K mg (upd F0 T (.tup o)) d x) :
    ∃ F', StOk K mg F' H' σ en L ∧ Rep K mg F' d x ∧ Ext F H L F' H' L := by
  rcases h with ⟨rfl, r⟩ | ⟨T, o, hT, rfl, r⟩ | ⟨T, o, hT, rfl, r⟩
  · exact ⟨F, st, r.mono s0, Ext.refl⟩
  · obtain ⟨a, b⟩ := lay_frozen (o := o) st hT
    exact ⟨_, a, r.mono (upd_both s0 (sub_none st.sub hT)), b⟩
  · obtain ⟨a, b, c⟩ := tup_frozen st hT
    refine ⟨_, a, r.mono fun b u e => ?_, b⟩
    by_cases hb : b = T
    · subst hb
      rw [upd_same] at e ⊢; exact e
    · rw [upd_ne hb] at e ⊢; exact s0 _ _ e
end
section
variable {X : Cx} {fix : List Nat} {tg iter : Expr} {body : List Stmt} {fi : FI} {g : FG} {fb : FS} {pos : Pos}
theorem ss_for (hp : PassesOwn (model X.prog X.w) X.A X.env X.xe) (hc : X.calm = true) (hi : SI X tg iter fi) (hg : SG X fix tg g) (hb : SSs X fix body fb) (hs : ∀ x, foldedSetIterable iter X.env x = pure x := by intro _; rfl) : SS X fix (.For tg iter body [] pos) (sFor fi g fb) :=
  ps_imp (ps_for hp hc hi hg hb hs) fun D σ H q => by
    obtain ⟨F, en, L, en', fl, st, e, q⟩ := q
    unfold sFor at e
    split at e
    · cases e
    rename_i en1 ds e1
    refine ⟨F, en, L, en1, ds, st, e1, fun J F1 H1 L1 st1 x1 it => ?_⟩
    refine ⟨fun i m σ2 H2 => m = ds.length - i ∧ i ≤ ds.length ∧ ∃ F2 en2 L2, StOk X.K X.mg F2 H2 σ2 en2 L2 ∧ Fixed fix σ σ2 ∧ Ext F1 H1 L1 F2 H2 L2 ∧ forD g fb (ds.drop i) en2 = some (en', fl),
      ⟨ds.length, by simp, Nat.zero_le _, F1, en1, L1, st1, Fixed.refl, Ext.refl, by simpa using e⟩, ?_⟩
    rintro i m σ2 H2 ⟨rfl, hi, F2, en2, L2, st2, f2, x2, e2⟩
    have it2 := it i H2 (x2.sub.trans st2.sub)
    by_cases hlt : i < ds.length
    · obtain ⟨go, yld⟩ := it2.2 ds[i] (List.getElem?_eq_getElem hlt)
      rw [List.drop_eq_getElem_cons hlt] at e2
      simp only [forD] at e2
      split at e2
      · cases e2
      rename_i en3 e3
      refine .inr ⟨go, fun σ' H' => ∃ F' en' L', StOk X.K X.mg F' H' σ' en' L' ∧ Fixed fix σ σ' ∧ Ext F1 H1 L1 F' H' L' ∧ forD g fb (ds.drop (i + 1)) en' = some (_, fl), fun σ' H' ⟨F', en', L', a, b, c, d⟩ => ⟨ds.length - (i + 1), by omega, rfl, hlt, F', en', L', a, b, c, d⟩, fun x H' hy => ?_⟩
      obtain ⟨F3, st3, r3, x3⟩ := item_come st2 x2.sub (yld x H' hy)
      refine ⟨F3, en2, L2, .sh ds[i], [], en3, st3, own_sh r3, by simpa using st3.nd, e3, fun σ4 F4 H4 L4 st4 f4 x4 => ?_⟩
      have xx : Ext F1 H1 L1 F4 H4 L4 := x2.trans (x3.trans (x4.mem (fun a h => by simpa using h) fun a h => h))
      split at e2
      · cases e2
      · rename_i en5 e5
        exact ⟨F4, en3, L4, en5, .nx, st4, e5, fun σ' F' H' L' a b c => ⟨F', en5, L', a, (f2.trans f4).trans b, xx.trans c, e2⟩⟩
      · rename_i en5 e5
        exact ⟨F4, en3, L4, en5, .ct, st4, e5, fun σ' F' H' L' a b c => ⟨F', en5, L', a, (f2.trans f4).trans b, xx.trans c, e2⟩⟩
      · rename_i en5 e5
        cases e2
        exact ⟨F4, en3, L4, _, .bk, st4, e5, fun σ' F' H' L' a b c => q σ' F' H' L' a ((f2.trans f4).trans b) (x1.trans (xx.trans c))⟩
      · rename_i en5 w e5
        cases e2
        exact ⟨F4, en3, L4, _, .ret w, st4, e5, fun v σ' F' H' L' Lr a b c d e => q v σ' F' H' L' Lr a ((f2.trans f4).trans b) c d (x1.trans (xx.trans e))⟩
    · have e0 : i = ds.length := by omega
      subst e0
      rw [List.drop_length] at e2
      simp only [forD, Option.some.injEq, Prod.mk.injEq] at e2
      obtain ⟨rfl, rfl⟩ := e2
      exact .inl ⟨it2.1 (Nat.le_refl _), q σ2 F2 H2 L2 st2 f2 (x1.trans x2)⟩
/-! while, by so many turns at most -/
def whD (t : FT) (body : FS) : Nat → En → Option (En × Fl)
  | 0, _ => none
  | n + 1, en => match t en with
    | none => none
    | some (en1, false) => some (en1, .nx)
    | some (en1, true) => match body en1 with
      | none => none
      | some (en2, .nx) => whD t body n en2
      | some (en2, .ct) => whD t body n en2
      | some (en2, .bk) => some (en2, .nx)
      | some (en2, .ret w) => some (en2, .ret w)
theorem ss_while {c : Expr} {t : FT} {n : Nat} (hp : PassesOwn (model X.prog X.w) X.A X.env X.xe) (hc : ST X c t) (hb : SSs X fix body fb) : SS X fix (.While c body [] pos) (whD t fb n) :=
  ps_imp (ps_while hp hc hb) fun D σ H q => by
    obtain ⟨F, en, L, en', fl, st, e, q⟩ := q
    refine ⟨fun m σ2 H2 => ∃ F2 en2 L2, StOk X.K X.mg F2 H2 σ2 en2 L2 ∧ Fixed fix σ σ2 ∧ Ext F H L F2 H2 L2 ∧ whD t fb m en2 = some (en', fl), ⟨n, F, en, L, st, Fixed.refl, Ext.refl, e⟩, ?_⟩
    rintro m σ2 H2 ⟨F2, en2, L2, st2, f2, x2, e2⟩
    cases m with
    | zero => simp only [whD] at e2; cases e2
    | succ m =>
      simp only [whD] at e2
      split at e2
      · cases e2
      · rename_i en3 e3
        cases e2
        refine ⟨F2, en2, L2, _, false, st2, e3, fun F3 H3 L3 st3 x3 => ?_⟩
        refine iteF ?_
        exact q σ2 F3 H3 L3 st3 f2 (x2.trans x3)
      · rename_i en3 e3
        refine ⟨F2, en2, L2, _, true, st2, e3, fun F3 H3 L3 st3 x3 => ?_⟩
        refine iteT ?_
        have xx := x2.trans x3
        refine ⟨fun σ' H' => ∃ F' en'' L', StOk X.K X.mg F' H' σ' en'' L' ∧ Fixed fix σ σ' ∧ Ext F H L F' H' L' ∧ whD t fb m en'' = some (_, fl), fun σ' H' ⟨F', en'', L', a, b, c, d⟩ => ⟨m, Nat.lt_succ_self m, F', en'', L', a, b, c, d⟩, ?_⟩
        split at e2
        · cases e2
        · rename_i en5 e5
          exact ⟨F3, en3, L3, en5, .nx, st3, e5, fun σ' F' H' L' a b c => ⟨F', en5, L', a, f2.trans b, xx.trans c, e2⟩⟩
        · rename_i en5 e5
          exact ⟨F3, en3, L3, en5, .ct, st3, e5, fun σ' F' H' L' a b c => ⟨F', en5, L', a, f2.trans b, xx.trans c, e2⟩⟩
        · rename_i en5 e5
          cases e2
          exact ⟨F3, en3, L3, _, .bk, st3, e5, fun σ' F' H' L' a b c => q σ' F' H' L' a (f2.trans b) (xx.trans c)⟩
        · rename_i en5 w e5
          cases e2
          exact ⟨F3, en3, L3, _, .ret w, st3, e5, fun v σ' F' H' L' Lr a b c d e => q v σ' F' H' L' Lr a (f2.trans b) c d (xx.trans e)⟩
end
end Pu

/-! Pu14: comprehensions; a def's promise by its body. -/
namespace Pu
open PySem PySem.Spec PyProof.Rows L2

/-! ### the block's own names -/
def W.isSh : W → Bool
  | .sh _ => true
  | _ => false
def wipeE (en : En) : List Nat → En
  | [] => en
  | k :: ks => (wipeE en ks).set k (.sh .any)
def restE (eb en : En) : List Nat → En
  | [] => eb
  | k :: ks => match en[k]? with
    | some w => (restE eb en ks).set k w
    | none => restE eb en ks
def okV (en : En) (vs : List Nat) : Bool := vs.all fun k => match en[k]? with
  | some w => w.isSh
  | none => false
section
variable {K : PySem.W.Frag} {mg : Str → Option Value} {F H : Hp}
/-- a place that owns nothing may hold another such thing, or nothing -/
theorem OwnsO.put : ∀ {ws : List W} {os : List (Option V)} {L : List Addr} {k : Nat} {w : W} {o : Option V}, OwnsO K mg F H ws os L → k < ws.length → ((∃ d v, w = .sh d ∧ o = some v ∧ Rep K mg F d v) ∨ (w = .sh .any ∧ o = none)) →
    ∃ L', OwnsO K mg F H (ws.set k w) (os.set k o) L' ∧ L'.Sublist L
  | [], _, _, _, _, _, _, hk, _ => by simp at hk
  | _ :: _, [], _, _, _, _, h, _, _ => by simp only [OwnsO] at h
  | w0 :: ws, some v0 :: os, L, 0, w, o, h, hk, hn => by
    simp only [OwnsO] at h
    obtain ⟨A, B, rfl, h1, h2⟩ := h
    rcases hn with ⟨d, v, rfl, rfl, r⟩ | ⟨rfl, rfl⟩
    · refine ⟨B, ?_, List.sublist_append_right A B⟩
      simp only [List.set_cons_zero, OwnsO]
      exact ⟨[], B, rfl, own_sh r, h2⟩
    · refine ⟨B, ?_, List.sublist_append_right A B⟩
      simp only [List.set_cons_zero, OwnsO]
      exact ⟨trivial, h2⟩
  | w0 :: ws, none :: os, L, 0, w, o, h, hk, hn => by
    simp only [OwnsO] at h
    rcases hn with ⟨d, v, rfl, rfl, r⟩ | ⟨rfl, rfl⟩
    · refine ⟨L, ?_, List.Sublist.refl L⟩
      simp only [List.set_cons_zero, OwnsO]
      exact ⟨[], L, rfl, own_sh r, h.2⟩
    · refine ⟨L, ?_, List.Sublist.refl L⟩
      simp only [List.set_cons_zero, OwnsO]
      exact ⟨trivial, h.2⟩
  | w0 :: ws, some v0 :: os, L, k + 1, w, o, h, hk, hn => by
    simp only [OwnsO] at h
    obtain ⟨A, B, rfl, h1, h2⟩ := h
    obtain ⟨L', h3, h4⟩ := h2.put (k := k) (by simpa using hk) hn
    refine ⟨A ++ L', ?_, (List.Sublist.refl A).append h4⟩
    simp only [List.set_cons_succ, OwnsO]
    exact ⟨A, L', rfl, h1, h3⟩
  | w0 :: ws, none :: os, L, k + 1, w, o, h, hk, hn => by
    simp only [OwnsO] at h
    obtain ⟨L', h3, h4⟩ := h.2.put (k := k) (by simpa using hk) hn
    refine ⟨L', ?_, h4⟩
    simp only [List.set_cons_succ, OwnsO]
    exact ⟨h.1, h3⟩
theorem wipeE_len (en : En) : ∀ vs : List Nat, (wipeE en vs).length = en.length
  | [] => rfl
  | k :: ks => by simp [wipeE, wipeE_len en ks]
theorem restE_len (eb en : En) : ∀ vs : List Nat, (restE eb en vs).length = eb.length
  | [] => rfl
  | k :: ks => by
    simp only [restE]
    split
    · simp [restE_len eb en ks]
    · exact restE_len eb en ks
theorem wipe_ok {σ : L2.St} {en : En} : ∀ {vs : List Nat} {L : List Addr}, OwnsO K mg F H en σ L → (∀ k ∈ vs, k < en.length) → ∃ L', OwnsO K mg F H (wipeE en vs) (wipe σ vs) L' ∧ L'.Sublist L
  | [], L, h, _ => ⟨L, h, List.Sublist.refl L⟩
  | k :: ks, L, h, hk => by
    obtain ⟨L1, h1, s1⟩ := wipe_ok (vs := ks) h fun j hj => hk j (by simp [hj])
    obtain ⟨L2, h2, s2⟩ := h1.put (k := k) (w := .sh .any) (o := none) (by rw [wipeE_len]; exact hk k (by simp)) (.inr ⟨rfl, rfl⟩)
    exact ⟨L2, by simp only [wipeE, wipe]; exact h2, s2.trans s1⟩
def restS (σb σ : L2.St) : List Nat → L2.St
  | [] => σb
  | k :: ks => match σ[k]? with
    | some o => (restS σb σ ks).set k o
    | none => restS σb σ ks
theorem restS_len (σb σ : L2.St) : ∀ vs : List Nat, (restS σb σ vs).length = σb.length
  | [] => rfl
  | k :: ks => by
    simp only [restS]
    split
    · simp [restS_len σb σ ks]
    · exact restS_len σb σ ks
theorem rest_ok {F0 H0 : Hp} {σ σb : L2.St} {en eb : En} {L0 : List Addr} (h0 : OwnsO K mg F0 H0 en σ L0) (s0 : Same F0 F) (hl : eb.length = en.length) : ∀ {vs : List Nat} {L : List Addr}, OwnsO K mg F H eb σb L → okV en vs = true →
    ∃ L', OwnsO K mg F H (restE eb en vs) (restS σb σ vs) L' ∧ L'.Sublist L
  | [], L, h, _ => ⟨L, h, List.Sublist.refl L⟩
  | k :: ks, L, h, hv => by
    simp only [okV, List.all_cons, Bool.and_eq_true] at hv
    obtain ⟨hk, hv⟩ := hv
    obtain ⟨L1, h1, s1⟩ := rest_ok h0 s0 hl h (vs := ks) hv
    split at hk
    · rename_i w hw
      obtain ⟨o, La, Lm, Lb, g1, g2, g3, _⟩ := h0.get hw
      have hlt : k < (restE eb en ks).length := by
        rw [restE_len, hl]
        exact (List.getElem?_eq_some_iff.mp hw).1
      have hn : (∃ d v, w = .sh d ∧ o = some v ∧ Rep K mg F d v) ∨ (w = .sh .any ∧ o = none) := by
        rcases g3 with ⟨v, rfl, ho⟩ | ⟨rfl, rfl, _⟩
        · cases w with
          | sh d =>
            simp only [Own] at ho
            exact .inl ⟨d, v, rfl, rfl, ho.1.mono s0⟩
          | _ => cases hk
        · exact .inr ⟨rfl, rfl⟩
      obtain ⟨L2, h2, s2⟩ := h1.put hlt hn
      exact ⟨L2, by simp only [restE, restS, hw, g1]; exact h2, s2.trans s1⟩
    · cases hk
theorem restS_eq {σ σb : L2.St} {vs : List Nat} (hl : σb.length = σ.length) (ho : ∀ i, i ∉ vs → σb[i]? = σ[i]?) : restS σb σ vs = σ := by
  apply List.ext_getElem?
  have gen : ∀ ks : List Nat, ∀ i, (restS σb σ ks)[i]? = if i ∈ ks then σ[i]? else σb[i]? := by
    intro ks
    induction ks with
    | nil => intro i; simp [restS]
    | cons k ks ih =>
      intro i
      simp only [restS]
      split
      · rename_i o hk
        by_cases e : k = i
        · subst e
          have hlt : k < (restS σb σ ks).length := by rw [restS_len, hl]; exact (List.getElem?_eq_some_iff.mp hk).1
          rw [List.getElem?_set_self hlt]
          simp [hk]
        · rw [List.getElem?_set_ne e, ih i]
          simp [Ne.symm e]
      · rename_i hk
        rw [ih i]
        by_cases e : i = k
        · subst e
          by_cases hm : i ∈ ks
          · simp [hm]
          · simp only [hm, if_false, List.mem_cons, true_or, if_true]
            rw [hk]
            have : σb.length ≤ i := by rw [hl]; exact List.getElem?_eq_none_iff.mp hk
            exact List.getElem?_eq_none_iff.mpr this
        · simp [e]
  intro i
  rw [gen vs i]
  split
  · rfl
  · rename_i h; exact ho i h
end
theorem wipe_in (τ : L2.St) : ∀ {ks : List Nat} {j : Nat}, j ∈ ks → (wipe τ ks)[j]? = if j < τ.length then some none else none
  | k :: ks, j, hj => by
    simp only [wipe]
    by_cases e : k = j
    · subst e
      by_cases hl : k < τ.length
      · rw [List.getElem?_set_self (by rw [wipe_length]; exact hl)]
        simp [hl]
      · rw [List.getElem?_eq_none (by rw [List.length_set, wipe_length]; omega)]
        simp [hl]
    · rw [List.getElem?_set_ne e]
      exact wipe_in τ ((List.mem_cons.mp hj).resolve_left (Ne.symm e))
  | [], _, hj => by cases hj
/-- the places of all names but the block's -/
def others (n : Nat) (vs : List Nat) : List Nat := (List.range n).filter fun i => !vs.contains i
theorem others_mem {n : Nat} {vs : List Nat} {i : Nat} (h1 : i < n) (h2 : i ∉ vs) : i ∈ others n vs := by
  simp only [others, List.mem_filter, List.mem_range, Bool.not_eq_true']
  exact ⟨h1, by simpa using h2⟩

/-! ### [e for x in xs if t] -/
def compD (vs : List Nat) (g : FG) (t : FT) (f : FE) : List D → En → List W → Option (En × List W)
  | [], en, ws => some (en, ws)
  | d :: ds, en, ws => if okV en vs = true then match g (wipeE en vs) (.sh d) with
    | none => none
    | some en1 => if en1.length = en.length then match t en1 with
      | none => none
      | some (en2, false) => if en2.length = en.length then compD vs g t f ds (restE en2 en vs) ws else none
      | some (en2, true) => match f en2 with
        | none => none
        | some (en3, r) => match r.tk en3 with
          | none => none
          | some (en4, w) => if en4.length = en.length ∧ ws.length < sizeLine then compD vs g t f ds (restE en4 en vs) (ws ++ [w]) else none
      else none
    else none
def fComp (vs : List Nat) (fi : FI) (g : FG) (t : FT) (f : FE) : FE := fun en => match fi en with
  | none => none
  | some (en1, ds) => match compD vs g t f ds en1 [] with
    | none => none
    | some (en', ws) => some (en', .val (.lst ws))
def tYesE : FT := fun en => some (en, true)
section
variable {X : Cx}
theorem comp_ok {vs : List Nat} {fi : FI} {g : FG} {t : FT} {f : FE} {n : Nat} {σ : L2.St} {H : Hp} {Q : VK} (hn : σ.length = n) (q : tS X.K X.mg (fComp vs fi g t f) σ H Q) :
    tLc (tI X.K X.mg fi) (tG X.K X.mg (others n vs) g) (tT X.K X.mg t) (tS X.K X.mg f) vs σ H Q := by
  obtain ⟨F, en, L, en', r', st, e, k⟩ := q
  unfold fComp at e
  split at e
  · cases e
  rename_i en1 ds e1
  split at e
  · cases e
  rename_i en2 ws e2
  cases e
  refine ⟨F, en, L, en1, ds, st, e1, fun J F1 H1 L1 st1 x1 it => ?_⟩
  intro Dd hD
  have st1' := lay_owned (o := .lst []) st1 hD
  refine ⟨fun i m H2 => m = ds.length - i ∧ i ≤ ds.length ∧ ∃ F2 en2 L2 acc wacc La, StOk X.K X.mg F2 H2 σ en2 L2 ∧ H2 Dd = some (.lst acc) ∧ F2 Dd = none ∧ Owns X.K X.mg F2 H2 wacc acc La ∧ (L2 ++ (Dd :: La)).Nodup ∧ Ext F1 H1 L1 F2 H2 (L2 ++ (Dd :: La)) ∧ compD vs g t f (ds.drop i) en2 wacc = some (en', ws),
    ⟨ds.length, by simp, Nat.zero_le _, F1, en1, L1, [], [], [], st1'.1, upd_same, sub_none st1.sub hD, by simp only [Owns], nd_of st1.nd (by simp) (fun b hb hb' => by
      have : b = Dd := by simpa using hb'
      subst this
      exact (st1.cell b hb).1.1 hD), st1'.2, by simpa using e2⟩, ?_⟩
  rintro i m H2 ⟨rfl, hi, F2, en2, L2, acc, wacc, La, st2, hd2, hf2, ow2, nd2, x2, e3⟩
  have it2 := it i H2 (x2.sub.trans st2.sub)
  by_cases hlt : i < ds.length
  · obtain ⟨go, yld⟩ := it2.2 ds[i] (List.getElem?_eq_getElem hlt)
    rw [List.drop_eq_getElem_cons hlt] at e3
    simp only [compD] at e3
    split at e3
    case isFalse => cases e3
    rename_i hok
    split at e3
    · cases e3
    rename_i en3 eg
    split at e3
    case isFalse => cases e3
    rename_i hlen3
    obtain ⟨n1, n2, n3⟩ := nd_app nd2
    have ndD : Dd ∉ La := (List.nodup_cons.mp n2).1
    have nLa : La.Nodup := (List.nodup_cons.mp n2).2
    have own2 : ∀ b ∈ Dd :: La, b ∉ L2 ∧ NoTup (H2 b) ∧ F2 b = none := fun b hb => by
      refine ⟨fun z => n3 b z hb, ?_⟩
      rcases List.mem_cons.mp hb with rfl | hb
      · exact ⟨by rw [hd2]; exact ⟨by simp, fun vs => by simp⟩, hf2⟩
      · exact ow2.cell b hb
    refine .inr ⟨go, fun H' => ∃ F' en' L' acc wacc La, StOk X.K X.mg F' H' σ en' L' ∧ H' Dd = some (.lst acc) ∧ F' Dd = none ∧ Owns X.K X.mg F' H' wacc acc La ∧ (L' ++ (Dd :: La)).Nodup ∧ Ext F1 H1 L1 F' H' (L' ++ (Dd :: La)) ∧ compD vs g t f (ds.drop (i + 1)) en' wacc = some (_, ws), fun H' h' => ⟨ds.length - (i + 1), by omega, rfl, hlt, h'⟩, fun x H' hy => ?_⟩
    obtain ⟨F3, st3, r3, x3⟩ := item_come st2 x2.sub (yld x H' hy)
    have hok' : ∀ k ∈ vs, k < en2.length := fun k hk => by
      unfold okV at hok
      have := List.all_eq_true.mp hok k hk
      split at this
      · rename_i w hw
        exact (List.getElem?_eq_some_iff.mp hw).1
      · cases this
    obtain ⟨L3, st3o, sub3⟩ := wipe_ok st3.own hok'
    have st3b : StOk X.K X.mg F3 H' (wipe σ vs) (wipeE en2 vs) L3 := ⟨st3.sub, sub3.nodup st3.nd, st3o⟩
    refine ⟨F3, wipeE en2 vs, L3, .sh ds[i], [], en3, st3b, own_sh r3, by simpa using st3b.nd, eg, fun σ4 F4 H4 L4 st4 f4 x4 => ?_⟩
    have hlen : σ4.length = σ.length := by
      rw [← st4.own.len, hlen3, st2.own.len]
    have hwl : (wipe σ vs).length = σ.length := wipe_length σ vs
    have hout : ∀ j, j ∉ vs → σ4[j]? = σ[j]? := fun j hj => by
      by_cases hjn : j < n
      · rw [f4 j (others_mem hjn hj), wipe_out hj]
      · have a1 : σ4.length ≤ j := by omega
        have a2 : σ.length ≤ j := by omega
        rw [List.getElem?_eq_none a1, List.getElem?_eq_none a2]
    have hwipe : wipe σ4 vs = wipe σ vs := by
      apply List.ext_getElem?
      intro j
      by_cases hj : j ∈ vs
      · rw [wipe_in σ4 hj, wipe_in σ hj, hlen]
      · rw [wipe_out hj, wipe_out hj]
        exact hout j hj
    -- what is owned besides through the turn
    have x34 : Ext F2 H2 L2 F4 H4 L4 := x3.trans ((x4.mem (M := L2) (M' := L4) (fun a h => sub3.subset (by simpa using h)) fun a h => h))
    have back : ∀ {F5 H5 : Hp} {L5 : List Addr} {en5 : En}, StOk X.K X.mg F5 H5 σ4 en5 L5 → Ext F4 H4 L4 F5 H5 L5 → en5.length = en2.length → ∃ L6, StOk X.K X.mg F5 H5 σ (restE en5 en2 vs) L6 ∧ L6.Sublist L5 := fun {F5 H5 L5 en5} st5 x5 hl5 => by
      obtain ⟨L6, o6, s6⟩ := rest_ok (σb := σ4) st2.own (x34.sub.trans x5.sub) hl5 st5.own hok
      rw [restS_eq hlen hout] at o6
      exact ⟨L6, ⟨st5.sub, s6.nodup st5.nd, o6⟩, s6⟩
    refine ⟨hwipe, ?_⟩
    split at e3
    · cases e3
    · rename_i en5 et
      split at e3
      case isFalse => cases e3
      rename_i hl5
      refine ⟨F4, en3, L4, en5, false, st4, et, fun F5 H5 L5 st5 x5 => ?_⟩
      refine iteF ?_
      have xx := x34.trans x5
      obtain ⟨L6, st6, s6⟩ := back st5 x5 hl5
      have sy := xx.stay own2
      have ap := xx.apart (M := Dd :: La) fun b hb => ⟨(own2 b hb).1, (own2 b hb).2.1.1⟩
      refine ⟨F5, _, L6, acc, wacc, La, st6, (sy.eq Dd (by simp)).trans hd2, sy.out Dd (by simp), ow2.stay (sy.less fun b hb => by simp [hb]), nd_of st6.nd n2 fun b hb hb' => ap b (s6.subset hb) b hb' rfl, x2.trans ((xx.frame (Dd :: La)).mem (fun a h => h) fun a h => ?_), e3⟩
      rcases List.mem_append.mp h with z | z
      · simp [s6.subset z]
      · exact List.mem_append_right _ z
    · rename_i en5 et
      split at e3
      · cases e3
      rename_i en6 r ef
      split at e3
      · cases e3
      rename_i en7 w ek
      split at e3
      case isFalse => cases e3
      rename_i hl7
      refine ⟨F4, en3, L4, en5, true, st4, et, fun F5 H5 L5 st5 x5 => ?_⟩
      refine iteT ?_
      refine ⟨F5, en5, L5, en6, r, st5, ef, fun y F6 H6 L6 Lr6 st6 rr6 nd6 x6 => ?_⟩
      obtain ⟨F7, L7, Lr7, st7, ow7, nd7, x7⟩ := rr6.tk st6 nd6 ek
      have xx := (x34.trans x5).trans (x6.trans x7)
      have sy := xx.stay own2
      have ap := xx.apart (M := Dd :: La) fun b hb => ⟨(own2 b hb).1, (own2 b hb).2.1.1⟩
      have hdd : H6 Dd = some (.lst acc) := (sy.eq Dd (by simp)).trans hd2
      refine ⟨acc, hdd, by rw [← ow2.len]; exact hl7.2, ?_⟩
      -- the item goes to the new list
      obtain ⟨m1, m2, m3⟩ := nd_app nd7
      have neD : ∀ b ∈ L7 ++ Lr7, b ≠ Dd := fun b hb => ap b hb Dd (by simp)
      have fD : F7 Dd = none := sy.out Dd (by simp)
      have sub7 : Same F7 (upd H6 Dd (.lst (acc ++ [y]))) := fun b u eb => by
        have hb : b ≠ Dd := fun z => by subst z; rw [fD] at eb; cases eb
        rw [upd_ne hb]
        exact st7.sub b u eb
      have st8 : StOk X.K X.mg F7 (upd H6 Dd (.lst (acc ++ [y]))) σ4 en7 L7 := ⟨sub7, m1, st7.own.stay ⟨Same.refl F7, fun b hb => (st7.cell b hb).2, fun b hb => upd_ne (neD b (by simp [hb]))⟩⟩
      obtain ⟨L8, o8, s8⟩ := rest_ok (σb := σ4) st2.own xx.sub hl7.1 st8.own hok
      rw [restS_eq hlen hout] at o8
      have owA : Owns X.K X.mg F7 (upd H6 Dd (.lst (acc ++ [y]))) (wacc ++ [w]) (acc ++ [y]) (La ++ Lr7) := by
        have o1 := (ow2.stay (sy.less fun b hb => by simp [hb])).stay (F' := F7) (H' := upd H6 Dd (.lst (acc ++ [y]))) ⟨Same.refl F7, fun b hb => sy.out b (by simp [hb]), fun b hb => upd_ne fun z => ndD (z ▸ hb)⟩
        have o2 := ow7.stay (F' := F7) (H' := upd H6 Dd (.lst (acc ++ [y]))) ⟨Same.refl F7, fun b hb => (ow7.cell b hb).2, fun b hb => upd_ne (neD b (by simp [hb]))⟩
        exact o1.append (Owns.one o2)
      refine ⟨F7, _, L8, acc ++ [y], wacc ++ [w], La ++ Lr7, ⟨sub7, s8.nodup m1, o8⟩, upd_same, fD, owA, ?_, ?_, e3⟩
      · refine nd_of (s8.nodup m1) (List.nodup_cons.mpr ⟨fun z => ?_, nd_of nLa m2 fun b hb hb' => ap b (by simp [hb']) b (by simp [hb]) rfl⟩) fun b hb hb' => ?_
        · rcases List.mem_append.mp z with z | z
          · exact ndD z
          · exact neD Dd (by simp [z]) rfl
        · rcases List.mem_cons.mp hb' with z | z
          · exact neD b (by simp [s8.subset hb]) z
          · rcases List.mem_append.mp z with z | z
            · exact ap b (by simp [s8.subset hb]) b (by simp [z]) rfl
            · exact m3 b (s8.subset hb) z
      · have y1 := x2.trans (xx.frame (Dd :: La))
        have y2 : Ext F7 H6 ((L7 ++ Lr7) ++ (Dd :: La)) F7 (upd H6 Dd (.lst (acc ++ [y]))) (L8 ++ (Dd :: (La ++ Lr7))) := by
          refine ⟨fun b u eb nb => ?_, fun b eb => ?_, Same.refl F7, fun b eb => .inl eb, fun b hb => .inl ?_⟩
          · rw [upd_ne (fun z => nb (by simp [z]))]
            exact eb
          · by_cases z : b = Dd
            · subst z; rw [upd_same]; simp
            · rw [upd_ne z]; exact eb
          · simp only [List.mem_append, List.mem_cons] at hb ⊢
            rcases hb with z | z | z | z
            · simp [s8.subset z]
            · simp [z]
            · simp [z]
            · simp [z]
        exact y1.trans y2
  · have e0 : i = ds.length := by omega
    subst e0
    rw [List.drop_length] at e3
    simp only [compD, Option.some.injEq, Prod.mk.injEq] at e3
    obtain ⟨rfl, rfl⟩ := e3
    refine .inl ⟨it2.1 (Nat.le_refl _), k (.ref Dd) F2 H2 L2 (Dd :: La) st2 ?_ nd2 (x1.trans x2)⟩
    simp only [RR, Own]
    exact ⟨Dd, acc, La, rfl, hd2, hf2, rfl, ow2⟩
end
end Pu

/-! Pu15: comprehensions and defs as rules, the law's end. -/
namespace Pu
open PySem PySem.Spec PyProof.Rows L2

theorem pe_impL {X : Cx} {e : Expr} {t t' : TE} (h : PE X e t) (i : ∀ σ H Q, σ.length = X.N.length → t' σ H Q → t σ H Q) : PE X e t' := ⟨fun pins s σ H Q I q => h.run pins s σ H Q I (i σ H Q I.len q)⟩
theorem ps_impL {X : Cx} {e : Stmt} {t t' : TS} (h : PS X e t) (i : ∀ D σ H, σ.length = X.N.length → t' D σ H → t D σ H) : PS X e t' := ⟨fun pins s σ H D I q => h.run pins s σ H D I (i D σ H I.len q)⟩
theorem tS_mono {K : PySem.W.Frag} {mg : Str → Option Value} {f : FE} {σ : L2.St} {H : Hp} {Q Q' : VK} (h : tS K mg f σ H Q) (i : ∀ v H, Q v H → Q' v H) : tS K mg f σ H Q' := by
  obtain ⟨F, en, L, en', r, st, e, k⟩ := h
  exact ⟨F, en, L, en', r, st, e, fun v F' H' L' Lr a b c d => i v H' (k v F' H' L' Lr a b c d)⟩
abbrev STs (X : Cx) (ifs : List Expr) (t : FT) : Prop := PTs X ifs (tT X.K X.mg t)
theorem pts_imp {X : Cx} {ifs : List Expr} {t t' : TT} (h : PTs X ifs t) (i : ∀ σ H Q, t' σ H Q → t σ H Q) : PTs X ifs t' := ⟨fun pins s σ H Q I q => h.run pins s σ H Q I (i σ H Q q)⟩
theorem sts_nil {X : Cx} : STs X [] tYesE := pts_imp pts_nil fun σ H Q q => by
  obtain ⟨F, en, L, en', b, st, e, k⟩ := q
  simp only [tYesE, Option.some.injEq, Prod.mk.injEq] at e
  obtain ⟨rfl, rfl⟩ := e
  exact k F H L st Ext.refl
theorem sts_one {X : Cx} {c : Expr} {t : FT} (h : ST X c t) : STs X [c] t := pts_one h
section
variable {X : Cx} {elt tg iter : Expr} {ifs : List Expr} {scope : Scope} {own : List (Str × Nat)} {pos : Pos} {fi : FI} {g : FG} {t : FT} {f : FE}
theorem se_comp (hc : X.calm = true) (hN : X.N.Nodup) (hi : SI X tg iter fi) (ok : BlkOk X.N X.env.scope scope own)
    (hg : ∀ (s : Shared) (H : Hp) (C : Addr) (cl : List (Str × Addr)) (fp : List Addr), SG (X.blk s H scope (compEnvC scope cl C X.env) fp) (others X.N.length (own.map (·.2))) tg g)
    (ht : ∀ (s : Shared) (H : Hp) (C : Addr) (cl : List (Str × Addr)) (fp : List Addr), STs (X.blk s H scope (compEnvC scope cl C X.env) fp) ifs t)
    (he : ∀ (s : Shared) (H : Hp) (C : Addr) (cl : List (Str × Addr)) (fp : List Addr), SE (X.blk s H scope (compEnvC scope cl C X.env) fp) elt f) (hs : ∀ x, foldedSetIterable iter X.env x = pure x := by intro _; rfl) :
    SE X (.ListComp elt [⟨tg, iter, ifs, 0⟩] scope pos) (fComp (own.map (·.2)) fi g t f) :=
  pe_impL (pe_lc hc hN hi ok hg ht he hs) fun σ H Q hl q => comp_ok hl q
theorem ss_setLc {fix : List Nat} {i : Nat} {y : Str} {py spos : Pos} (hc : X.calm = true) (hN : X.N.Nodup) (hy : X.N[i]? = some y) (hyl : X.env.scope.names.lookup y = some .local) (hfix : i ∉ fix)
    (hsw : swapsWith (.ListComp elt [⟨tg, iter, ifs, 0⟩] scope pos) (some (.Name y py)) spos.line X.env = pure true) (hi : SI X tg iter fi) (ok : BlkOk X.N X.env.scope scope own)
    (hg : ∀ (s : Shared) (H : Hp) (C : Addr) (cl : List (Str × Addr)) (fp : List Addr), SG (X.blk s H scope (compEnvC scope cl C X.env) fp) (others X.N.length (own.map (·.2))) tg g)
    (ht : ∀ (s : Shared) (H : Hp) (C : Addr) (cl : List (Str × Addr)) (fp : List Addr), STs (X.blk s H scope (compEnvC scope cl C X.env) fp) ifs t)
    (he : ∀ (s : Shared) (H : Hp) (C : Addr) (cl : List (Str × Addr)) (fp : List Addr), SE (X.blk s H scope (compEnvC scope cl C X.env) fp) elt f) (hs : ∀ x, foldedSetIterable iter X.env x = pure x := by intro _; rfl) :
    SS X fix (.Assign [.Name y py] (.ListComp elt [⟨tg, iter, ifs, 0⟩] scope pos) spos) (sAsg (fComp (own.map (·.2)) fi g t f) (gN i)) :=
  ps_impL (ps_setLc hc hN hy hyl hsw hi ok hg ht he hs) fun D σ H hl q => comp_ok hl (tS_mono (tX_asg q) fun v H' z => tG_name hfix z)
end

/-! ### a def by its body -/
def outs (fix : List Nat) : Nat → Nat → En → List W
  | _, 0, _ => []
  | j, n + 1, [] => .sh .any :: outs fix (j + 1) n []
  | j, n + 1, w :: en => (if j ∈ fix then w else .sh .any) :: outs fix (j + 1) n en
def fnP (n np : Nat) (fix : List Nat) (body : FS) : PF := fun ws => if ws.length = np then (match body (ws ++ List.replicate (n - np) (.sh .any)) with
  | some (en', .ret w) => some (w, outs fix 0 np en')
  | some (en', .nx) => some (.sh .non, outs fix 0 np en')
  | _ => none) else none
section
variable {K : PySem.W.Frag} {mg : Str → Option Value} {F H : Hp}
theorem owns_start : ∀ {ws : List W} {vs : List V} {L : List Addr}, Owns K mg F H ws vs L → OwnsO K mg F H ws (vs.map some) L
  | [], [], _, h => by simpa only [Owns, List.map_nil, OwnsO] using h
  | w :: ws, v :: vs, L, h => by
    simp only [Owns] at h
    obtain ⟨A, B, rfl, h1, h2⟩ := h
    simp only [List.map_cons, OwnsO]
    exact ⟨A, B, rfl, h1, owns_start h2⟩
  | [], _ :: _, _, h => by simp only [Owns] at h
  | _ :: _, [], _, h => by simp only [Owns] at h
theorem outs_ok {fix : List Nat} : ∀ {vs : List V} {j : Nat} {en : En} {σ : L2.St} {L : List Addr}, OwnsO K mg F H en σ L → (∀ i (v : V), j + i ∈ fix → vs[i]? = some v → σ[i]? = some (some v)) → ∃ L', Owns K mg F H (outs fix j vs.length en) vs L' ∧ L'.Sublist L
  | [], j, en, σ, L, h, hf => ⟨[], by simp only [List.length_nil, outs, Owns], List.nil_sublist L⟩
  | v :: vs, j, [], σ, L, h, hf => by
    obtain ⟨L', h1, s1⟩ := outs_ok (vs := vs) (j := j + 1) h fun i u hi hu => by
      have := hf (i + 1) u (by rw [show j + (i + 1) = j + 1 + i by omega]; exact hi) (by simpa using hu)
      cases σ with
      | nil => simp at this
      | cons _ _ => simp only [OwnsO] at h
    refine ⟨L', ?_, s1⟩
    simp only [List.length_cons, outs, Owns]
    exact ⟨[], L', rfl, own_sh (by simp only [Rep]), h1⟩
  | v :: vs, j, w :: en, some u :: σ, L, h, hf => by
    simp only [OwnsO] at h
    obtain ⟨A, B, rfl, h1, h2⟩ := h
    obtain ⟨L', h3, s3⟩ := outs_ok (vs := vs) (j := j + 1) h2 fun i x hi hx => by
      have := hf (i + 1) x (by rw [show j + (i + 1) = j + 1 + i by omega]; exact hi) (by simpa using hx)
      simpa using this
    simp only [List.length_cons, outs, Owns]
    by_cases hj : j ∈ fix
    · have := hf 0 v (by simpa using hj) rfl
      simp only [List.getElem?_cons_zero, Option.some.injEq] at this
      subst this
      rw [if_pos hj]
      exact ⟨A ++ L', ⟨A, L', rfl, h1, h3⟩, (List.Sublist.refl A).append s3⟩
    · rw [if_neg hj]
      exact ⟨L', ⟨[], L', rfl, own_sh (by simp only [Rep]), h3⟩, s3.trans (List.sublist_append_right A B)⟩
  | v :: vs, j, w :: en, none :: σ, L, h, hf => by
    simp only [OwnsO] at h
    obtain ⟨L', h3, s3⟩ := outs_ok (vs := vs) (j := j + 1) h.2 fun i x hi hx => by
      have := hf (i + 1) x (by rw [show j + (i + 1) = j + 1 + i by omega]; exact hi) (by simpa using hx)
      simpa using this
    simp only [List.length_cons, outs, Owns]
    have hj : j ∉ fix := fun hj => by
      have := hf 0 v (by simpa using hj) rfl
      simp at this
    rw [if_neg hj]
    exact ⟨L', ⟨[], L', rfl, own_sh (by simp only [Rep]), h3⟩, s3⟩
  | _ :: _, _, _ :: _, [], _, h, _ => by simp only [OwnsO] at h
end
section
variable {P : Program} {w : World} {K : PySem.W.Frag} {mg : Str → Option Value} {base : Heap}
theorem fn_len {g : PF} {n : Nat} (hg : ∀ ws r, g ws = some r → ws.length = n) : ∀ vs H Q E, spP K mg g vs H Q E → vs.length = n := fun vs H Q E h => by
  obtain ⟨F, ws, L, _, _, ow, w, ws', e, _⟩ := h
  rw [← ow.len]
  exact hg ws _ e
theorem body_ok {N ps : List Str} {fix : List Nat} {body : FS} {vs : List V} {H : Hp} {Q : VK} {E : XK} (h : spP K mg (fnP N.length ps.length fix body) vs H Q E) (hfx : ∀ i ∈ fix, i < ps.length) : tX K mg fix body { nx := fun _ H' => Q .non H', rt := Q } (start N vs) H := by
  obtain ⟨F, ws, L, sub, nd, ow, w, ws', e, k⟩ := h
  unfold fnP at e
  split at e
  case isFalse => cases e
  rename_i hl
  have hvl : vs.length = ps.length := by rw [← ow.len]; exact hl
  have st : StOk K mg F H (start N vs) (ws ++ List.replicate (N.length - ps.length) (.sh .any)) L := by
    refine ⟨sub, nd, ?_⟩
    unfold L2.start
    rw [hvl]
    exact ownsO_pad _ (owns_start ow)
  have fixv : ∀ {σ' : L2.St}, Fixed fix (start N vs) σ' → ∀ i (v : V), 0 + i ∈ fix → vs[i]? = some v → σ'[i]? = some (some v) := fun {σ'} hf i v hi hv => by
    rw [Nat.zero_add] at hi
    rw [hf i hi]
    unfold L2.start
    rw [List.getElem?_append_left (by rw [List.length_map]; exact (List.getElem?_eq_some_iff.mp hv).1), List.getElem?_map, hv]
    rfl
  split at e
  · rename_i en' w' e1
    cases e
    refine ⟨F, _, L, en', .ret w, st, e1, fun v σ' F' H' L' Lr st' f' o' nd' x' => ?_⟩
    obtain ⟨Lo, oo, so⟩ := outs_ok (vs := vs) (j := 0) st'.own (fixv f')
    rw [hvl] at oo
    obtain ⟨n1, n2, n3⟩ := nd_app nd'
    refine k v F' H' (Lr ++ Lo) st'.sub (nd_of n2 (so.nodup n1) fun b hb hb' => n3 b (so.subset hb') hb) (by simp only [Owns]; exact ⟨Lr, Lo, rfl, o', oo⟩) (x'.mem (fun _ h => h) fun a h => ?_)
    rcases List.mem_append.mp h with z | z
    · simp [z]
    · simp [so.subset z]
  · rename_i en' e1
    cases e
    refine ⟨F, _, L, en', .nx, st, e1, fun σ' F' H' L' st' f' x' => ?_⟩
    obtain ⟨Lo, oo, so⟩ := outs_ok (vs := vs) (j := 0) st'.own (fixv f')
    rw [hvl] at oo
    refine k .non F' H' ([] ++ Lo) st'.sub (by simpa using so.nodup st'.nd) (by simp only [Owns]; exact ⟨[], Lo, rfl, own_sh (rep_v rfl), oo⟩) (x'.mem (fun _ h => h) fun a h => so.subset (by simpa using h))
  · cases e
/-- a def keeps the promise that its body's meaning is -/
theorem fn_ok {x qual : Str} {st : Stmt} {f : Addr} {fd : FuncData} {N ps : List Str} {k : Nat} {fix : List Nat} {body : FS} (F : Fun K x qual st f fd) (S : FnScope N ps (defScope st)) (hfx : ∀ i ∈ fix, i < ps.length)
    (hb : ∀ (cdv : Value) (A : Around) (outer : List Env) (s : Shared) (H : Hp) (E : XK), Room k (A.deeper (envOfC qual (defScope st) s.heap.objs.size f cdv)) →
      SSs (cxOf CX0 P w K mg base N qual (defScope st) f cdv A outer s H E).nox fix (defBody st) body) : FnOk P w K mg base CX0 (k + 1) f fd ps (spP K mg (fnP N.length ps.length fix body)) := by
  refine F.ok S (fn_len fun ws r e => ?_) fun cdv A outer s H vs Q E hr h => ⟨_, hb cdv A outer s H E hr, body_ok h hfx⟩
  unfold fnP at e
  split at e
  · rename_i hl; exact hl
  · cases e
/-- the promise by a function that says as much -/
theorem fn_imp {f : Addr} {fd : FuncData} {ps : List Str} {k : Nat} {g g' : PF} (G : FnOk P w K mg base CX0 k f fd ps (spP K mg g)) (h : ∀ ws r, g' ws = some r → g ws = some r) : FnOk P w K mg base CX0 k f fd ps (spP K mg g') :=
  G.imp fun vs H Q E q => by
    obtain ⟨F, ws, L, a, b, c, w, ws', e, k⟩ := q
    exact ⟨F, ws, L, a, b, c, w, ws', h ws _ e, k⟩
/-- nothing is promised -/
theorem fn_none {f : Addr} {fd : FuncData} {ps : List Str} : FnOk P w K mg base CX0 0 f fd ps (spP K mg fun _ => none) := by
  have no : ∀ vs H Q E, ¬ spP K mg (fun _ => none) vs H Q E := fun vs H Q E h => by
    obtain ⟨F, ws, L, a, b, c, w, ws', e, k⟩ := h
    cases e
  exact ⟨fun vs H Q E h => absurd h (no vs H Q E), fun A outer s H args us vs Q E _ _ _ _ h => absurd h (no vs H Q E)⟩
/-- what the law promises -/
def spLaw (K : PySem.W.Frag) : Sp := fun vs H Q _ => ∃ (a : Addr) (ns : List Int), vs = [.ref a] ∧ SqL K H a (ns.map V.int) ∧ ns.length ≤ 63 ∧ ∀ H', Q (.bl true) H'
theorem law_ok {f : Addr} {fd : FuncData} {ps : List Str} {k : Nat} {g : PF} (G : FnOk P w K mg base CX0 k f fd ps (spP K mg g)) (h : ∀ ns : List Int, ns.length ≤ 63 → ∃ ws', g [.sh (.frl (ns.map D.int))] = some (.sh (.bl true), ws')) : FnOk P w K mg base CX0 k f fd ps (spLaw K) :=
  G.imp fun vs H Q E q => by
    obtain ⟨a, ns, rfl, hS, hl, q⟩ := q
    obtain ⟨ws', e⟩ := h ns hl
    have reps : ∀ ns : List Int, Reps K mg H (ns.map D.int) (ns.map V.int) := by
      intro ns
      induction ns with
      | nil => simp only [List.map_nil, Reps]
      | cons n ns ih =>
        simp only [List.map_cons, Reps]
        exact ⟨rep_v rfl, ih⟩
    refine ⟨H, _, [], Same.refl H, by simp, ?_, _, ws', e, fun v F' H' L' _ _ ow _ => ?_⟩
    · simp only [Owns]
      exact ⟨[], [], rfl, own_sh (by simp only [Rep]; exact ⟨a, _, rfl, hS, reps ns⟩), rfl⟩
    · simp only [Owns] at ow
      obtain ⟨A, B, _, o, _⟩ := ow
      simp only [Own] at o
      rw [rep_bl o.1]
      exact q H'
end
end Pu

namespace Pu
open PySem PySem.Spec PyProof.Rows L2

/-! ### tuples: x += y -/
theorem noI_tup_add : typeLookup (.type "tuple") (dunderI "add") = pure none := by rw [typeLookup_type, builtinLookup_eq_fast]; kernel_rfl
section
variable {prog : Program} {w : World} {A : Around} {E : Value → Shared → Prop} {s : Shared}
theorem iplus_of {T id : String} {B : Builtin} {a b : Value} {S : PySem.Spec} {Q : Value → Shared → Prop} (ha : s.TypeIs a T) (hb : s.TypeIs b T) (hno : typeLookup (.type T) (dunderI "add") = pure none)
    (hfill : fillsNumberSlot (.type T) "add" = pure false) (hseq : seqSlot? (.type T) "__add__" = pure (some (.builtin id))) (slot : Slot T "__add__" id)
    (entry : entryFor PySem.table id = some B) (args : argsOk id ⟨[a, b], []⟩) (g : Meets (B ⟨[a, b], []⟩) S) (h : S A (wants Q E) s) : wpAny (model prog w) A (inplaceOp .Add a b) Q E s :=
  wpAny_inplaceOp_concat ha hb hno hfill hseq (call_meets slot ha entry args g h)
theorem iplus_tup {t b : Addr} {vs us : List Value} {Q : Value → Shared → Prop} (ht : IsTup s.heap t vs.toArray) (hb : IsTup s.heap b us.toArray)
    (h0 : vs = [] → Q (.ref b) s) (h1 : vs ≠ [] → us = [] → Q (.ref t) s)
    (h2 : vs ≠ [] → us ≠ [] → Q (.ref s.heap.objs.size) { s with heap := s.heap.push { cls := .type "tuple", data := .seq (vs ++ us).toArray } })
    (hsz : vs.length + us.length ≤ sizeLine) : wpAny (model prog w) A (inplaceOp .Add (.ref t) (.ref b)) Q E s := by
  obtain ⟨⟨c1, d1, x1, z1⟩, o1, k1, n1, q1⟩ := id ht
  obtain ⟨⟨c2, d2, x2, z2⟩, o2, k2, n2, q2⟩ := id hb
  simp only at k1 q1 k2 q2
  subst k1 q1 k2 q2
  by_cases hv : vs = []
  · exact iplus_of ⟨_, o1, rfl⟩ ⟨_, o2, rfl⟩ noI_tup_add noFill_tuple_add seq_tuple_add PySem.F.slot_tuple_add PySem.F.entry_tuple_add (PySem.F.args_tuple_add_2 _ _)
      (tuple_addW0 t b vs.toArray us.toArray n1 n2 d1 d2 z1 z2 (by simp [hv])) ⟨o1, o2, h0 hv⟩
  by_cases hw : us = []
  · exact iplus_of ⟨_, o1, rfl⟩ ⟨_, o2, rfl⟩ noI_tup_add noFill_tuple_add seq_tuple_add PySem.F.slot_tuple_add PySem.F.entry_tuple_add (PySem.F.args_tuple_add_2 _ _)
      (tuple_addW1 t b vs.toArray us.toArray n1 n2 d1 d2 z1 z2 (by simpa using hv) (by simp [hw])) ⟨o1, o2, h1 hv hw⟩
  · refine iplus_of ⟨_, o1, rfl⟩ ⟨_, o2, rfl⟩ noI_tup_add noFill_tuple_add seq_tuple_add PySem.F.slot_tuple_add PySem.F.entry_tuple_add (PySem.F.args_tuple_add_2 _ _)
      (tuple_addW2 t b vs.toArray us.toArray n1 n2 d1 d2 z1 z2 (by simpa using hv) (by simpa using hw) (by simpa using hsz)) ⟨o1, o2, ?_⟩
    have e : vs.toArray ++ us.toArray = (vs ++ us).toArray := by simp
    rw [e]
    exact h2 hv hw
end
theorem iop_catA {X : Cx} : PIp X .Add (rCatA X.K) := by
  intro pins s σ H x y v u Q I rx ry h
  obtain ⟨a, b, xs, ys, rfl, rfl, ha, hb, hz, q0, q1, q2⟩ := h
  cases rx
  cases ry
  obtain ⟨it1, r1, p1, _⟩ := I.tuple ha
  obtain ⟨it2, r2, p2, _⟩ := I.tuple hb
  refine iplus_tup p1 p2 (fun z => ⟨.ref b, H, I, rfl, q0 (r1.nil_iff.mp z)⟩) (fun z1 z2 => ⟨.ref a, H, I, rfl, q1 (fun y => z1 (r1.nil_iff.mpr y)) (r2.nil_iff.mp z2)⟩) (fun z1 z2 => ?_) (by rw [← r1.length, ← r2.length]; exact hz)
  refine ⟨.ref s.heap.objs.size, _, I.laid (t' := s.toks) (o := .tup (xs ++ ys)) (fun b ob q => Heap.get?_push_of_some _ q) (Nat.le_refl _) ?_, rfl,
    q2 (fun y => z1 (r1.nil_iff.mpr y)) (fun y => z2 (r2.nil_iff.mpr y)) _ (I.hok.fresh (Nat.le_refl _))⟩
  exact ⟨by rw [List.length_append]; exact hz, _, r1.append r2, IsTup.new _ _⟩
theorem ip_or {X : Cx} {op : Operator} {r r' : R2} (h : PIp X op (fun x y H Q => r x y H Q)) (h' : PIp X op (fun x y H Q => r' x y H Q)) : PIp X op (fun x y H Q => r x y H Q ∨ r' x y H Q) := by
  intro pins s σ H x y v u Q I rx ry q
  rcases q with q | q
  · exact h pins s σ H x y v u Q I rx ry q
  · exact h' pins s σ H x y v u Q I rx ry q
/-- x += y: ints, tuples -/
def gAddI : En → List R → Option (En × R) := gOr (gS oAddI) gCatT
section
variable {X : Cx} {fix : List Nat} {i : Nat} {x : Str} {e : Expr} {f : FE} {pos pos' : Pos}
theorem ss_addI (hN : X.N.Nodup) (hi : X.N[i]? = some x) (hx : Loc X.env.scope x) (he : SE X e f) (hfix : i ∉ fix)
    (hf : X.fn x = true ∨ X.env.scope.names.lookup x = some .local := by first | exact .inl rfl | exact .inr rfl | assumption) : SS X fix (.AugAssign (.Name x pos') .Add e pos) (sAug i gAddI f) :=
  ss_aug hN hi hx he (ip_or (r := rI0 fun i j => .int (i + j)) (r' := rCatA X.K) iop_add iop_catA)
    (OpN.r2 (PkS.ok (pk_II (fun _ _ => rfl) fun i j H Q _ q => ⟨_, _, rfl, rfl, q⟩)) n_catT) hfix hf
end

/-! ### built-ins of more arguments -/
section
variable {X : Cx} {e : Expr} {es : List Expr} {fs : List FE} {p pos : Pos} {x : Str} {r : List V → Hp → VK → Prop} {g : En → List R → Option (En × R)}
theorem se_callBN {id : String} (hc : CallR X (.builtin id) r) (o : OpN X.K X.mg r g) (hg : Gl X x) (hm : X.mg x = none) (hv : bootBuiltins x = some (.builtin id)) (ha : SA X (e :: es) fs) (hn : x ≠ "__name__" := by decide) (hdb : (x == ("__debug__" : Str)) = false := by decide)
    (hs : starEach (e :: es) X.env = (false, eval e X.env) :: starEach es X.env := by rfl) (hpl : (backTo pos (starEach es X.env)).any (·.1) = false := by rfl) :
    SE X (.Call (.Name x p) (e :: es) [] pos) (fN g fs) :=
  pe_imp (pe_callB hc hg hm hv ha hn hdb hs hpl) fun σ H Q q => op_behind o q
end
def oMax2 : List D → Option D := oII tt2 fun i j => .int (if j > i then j else i)
def oMin2 : List D → Option D := oII tt2 fun i j => .int (if j < i then j else i)
section
variable {X : Cx} {a b : Expr} {fa fb : FE} {p pos : Pos}
theorem se_max2 (hc : X.calm = true) (hg : Gl X "max") (hm : X.mg "max" = none) (ha : SA X [a, b] [fa, fb]) (hs : starEach [a, b] X.env = (false, eval a X.env) :: starEach [b] X.env := by rfl) (hpl : (backTo pos (starEach [b] X.env)).any (·.1) = false := by rfl) :
    SE X (.Call (.Name "max" p) [a, b] [] pos) (fN (gS oMax2) [fa, fb]) :=
  se_callBN (id := "max") (call_max2 hc) (OpN.imp (PkS.ok (pk_II (r := rI0 fun i j => .int (if j > i then j else i)) (fun _ _ => rfl) fun i j H Q _ q => ⟨_, _, rfl, rfl, q⟩)) fun vs H Q q => by
    obtain ⟨x, y, rfl, i, j, rfl, rfl, q⟩ := q
    exact ⟨i, j, rfl, q⟩) hg hm (by rfl) ha (by decide) (by decide) hs hpl
theorem se_min2 (hc : X.calm = true) (hg : Gl X "min") (hm : X.mg "min" = none) (ha : SA X [a, b] [fa, fb]) (hs : starEach [a, b] X.env = (false, eval a X.env) :: starEach [b] X.env := by rfl) (hpl : (backTo pos (starEach [b] X.env)).any (·.1) = false := by rfl) :
    SE X (.Call (.Name "min" p) [a, b] [] pos) (fN (gS oMin2) [fa, fb]) :=
  se_callBN (id := "min") (call_min2 hc) (OpN.imp (PkS.ok (pk_II (r := rI0 fun i j => .int (if j < i then j else i)) (fun _ _ => rfl) fun i j H Q _ q => ⟨_, _, rfl, rfl, q⟩)) fun vs H Q q => by
    obtain ⟨x, y, rfl, i, j, rfl, rfl, q⟩ := q
    exact ⟨i, j, rfl, q⟩) hg hm (by rfl) ha (by decide) (by decide) hs hpl
end
end Pu

namespace Pu
open PySem PySem.Spec PyProof.Rows L2

/-! ### sorting -/
def insS {α : Type} (le : α → α → Bool) (x : α) : List α → List α
  | [] => [x]
  | y :: r => if le x y then x :: y :: r else y :: insS le x r
def srt {α : Type} (le : α → α → Bool) : List α → List α
  | [] => []
  | x :: r => insS le x (srt le r)
theorem insS_perm {α : Type} (le : α → α → Bool) (x : α) : ∀ r : List α, (insS le x r).Perm (x :: r)
  | [] => List.Perm.refl _
  | y :: r => by
    unfold insS
    split
    · exact List.Perm.refl _
    · exact ((insS_perm le x r).cons y).trans (List.Perm.swap x y r)
theorem srt_perm {α : Type} (le : α → α → Bool) : ∀ r : List α, (srt le r).Perm r
  | [] => List.Perm.refl _
  | x :: r => (insS_perm le x _).trans ((srt_perm le r).cons x)
theorem insS_pw {α : Type} {le : α → α → Bool} (tot : ∀ a b, le a b = false → le b a = true) (tr : ∀ a b c, le a b = true → le b c = true → le a c = true) (x : α) : ∀ {r : List α}, r.Pairwise (fun a b => le a b = true) → (insS le x r).Pairwise (fun a b => le a b = true)
  | [], _ => by simp [insS]
  | y :: r, h => by
    have h1 := List.pairwise_cons.mp h
    unfold insS
    split
    · rename_i hxy
      refine List.pairwise_cons.mpr ⟨fun b hb => ?_, h⟩
      rcases List.mem_cons.mp hb with rfl | hb
      · exact hxy
      · exact tr _ _ _ hxy (h1.1 b hb)
    · rename_i hxy
      refine List.pairwise_cons.mpr ⟨fun b hb => ?_, insS_pw tot tr x h1.2⟩
      rcases List.mem_cons.mp ((insS_perm le x r).mem_iff.mp hb) with rfl | hb
      · exact tot _ _ (by simpa using hxy)
      · exact h1.1 b hb
theorem srt_pw {α : Type} {le : α → α → Bool} (tot : ∀ a b, le a b = false → le b a = true) (tr : ∀ a b c, le a b = true → le b c = true → le a c = true) : ∀ r : List α, (srt le r).Pairwise (fun a b => le a b = true)
  | [] => by simp [srt]
  | x :: r => insS_pw tot tr x (srt_pw tot tr r)
theorem srt_uni {α : Type} {le : α → α → Bool} (tot : ∀ a b, le a b = false → le b a = true) (tr : ∀ a b c, le a b = true → le b c = true → le a c = true) (an : ∀ a b, le a b = true → le b a = true → a = b) {l r : List α} (hp : l.Perm r) (hs : l.Pairwise (fun a b => le a b = true)) : l = srt le r :=
  List.Perm.eq_of_pairwise (le := fun a b => le a b = true) (fun a b _ _ => an a b) hs (srt_pw tot tr r) (hp.trans (srt_perm le r).symm)
theorem ltc_irr : ∀ a b : List Nat, ltCps a b = true → ltCps b a = false
  | [], [], h => by simp [ltCps] at h
  | [], _ :: _, _ => rfl
  | _ :: _, [], h => by simp [ltCps] at h
  | a :: r, b :: t, h => by
    simp only [ltCps, Bool.or_eq_true, decide_eq_true_eq, Bool.and_eq_true, beq_iff_eq] at h
    rcases h with h | ⟨rfl, h⟩
    · simp only [ltCps]
      have h1 : ¬ b < a := by omega
      have h2 : ¬ b = a := by omega
      simp [h1, h2]
    · simp only [ltCps]
      simp [ltc_irr r t h]
theorem lec_an : ∀ a b : List Nat, ltCps b a = false → ltCps a b = false → a = b
  | [], [], _, _ => rfl
  | [], _ :: _, _, h => by simp [ltCps] at h
  | _ :: _, [], h, _ => by simp [ltCps] at h
  | a :: r, b :: t, h, h' => by
    simp only [ltCps, Bool.or_eq_false_iff, decide_eq_false_iff_not, Bool.and_eq_false_iff, beq_eq_false_iff_ne] at h h'
    have e : a = b := by omega
    subst e
    have h1 := h.2.resolve_left (by simp)
    have h2 := h'.2.resolve_left (by simp)
    rw [lec_an r t h1 h2]
theorem lec_tr : ∀ a b c : List Nat, ltCps b a = false → ltCps c b = false → ltCps c a = false
  | [], _, [], _, _ => rfl
  | [], b, _ :: _, _, _ => rfl
  | _ :: _, [], _, h, _ => by simp [ltCps] at h
  | _ :: _, _ :: _, [], _, h => by simp [ltCps] at h
  | a :: r, b :: t, c :: u, h, h' => by
    simp only [ltCps, Bool.or_eq_false_iff, decide_eq_false_iff_not, Bool.and_eq_false_iff, beq_eq_false_iff_ne] at h h' ⊢
    refine ⟨by omega, ?_⟩
    by_cases e : c = a
    · subst e
      have e : b = c := by omega
      subst e
      exact .inr (lec_tr r t u (h.2.resolve_left (by simp)) (h'.2.resolve_left (by simp)))
    · exact .inl e
def leS (x y : Str) : Bool := !ltCps y.cps.toList x.cps.toList
theorem leS_tot (a b : Str) (h : leS a b = false) : leS b a = true := by
  unfold leS at h ⊢
  simp only [Bool.not_eq_false', Bool.not_eq_true'] at h ⊢
  exact ltc_irr _ _ h
theorem leS_tr (a b c : Str) (h : leS a b = true) (h' : leS b c = true) : leS a c = true := by
  unfold leS at h h' ⊢
  simp only [Bool.not_eq_true'] at h h' ⊢
  exact lec_tr _ _ _ h h'
theorem leS_an (a b : Str) (h : leS a b = true) (h' : leS b a = true) : a = b := by
  unfold leS at h h'
  simp only [Bool.not_eq_true'] at h h'
  have e := lec_an _ _ h h'
  cases a
  cases b
  simp only at e
  rw [Array.toList_inj] at e
  rw [e]
theorem rising_pw : ∀ {r : List Str} {p : Str}, risingS p r = true → (p :: r).Pairwise (fun a b => leS a b = true)
  | [], p, _ => by simp
  | x :: r, p, h => by
    have h1 : leS p x = true ∧ risingS x r = true := by
      have := h
      unfold risingS at this
      simpa [leS] using this
    have h2 := rising_pw h1.2
    refine List.pairwise_cons.mpr ⟨fun b hb => ?_, h2⟩
    rcases List.mem_cons.mp hb with rfl | hb
    · exact h1.1
    · exact leS_tr _ _ _ h1.1 ((List.pairwise_cons.mp h2).1 b hb)
theorem sortedS_pw : ∀ {l : List Str}, sortedS l = true → l.Pairwise (fun a b => leS a b = true)
  | [], _ => by simp
  | _ :: _, h => rising_pw h
def leI (i j : Int) : Bool := decide (i ≤ j)
/-- sorted(xs) -/
def oSort (ds : List D) : Option (List D) := if ds.length < 64 then (match D.strs ds with
  | some xs => some ((srt leS xs).map .str)
  | none => match D.ints ds with
    | some is => some ((srt leI is).map .int)
    | none => none) else none
def gSort : En → R → Option (En × R) := fun en r => match r.els en with
  | some (en', k, ds) => if k = .t then none else match oSort ds with
    | some es => some (en', .val (.lst (es.map W.sh)))
    | none => none
  | none => none
section
variable {K : PySem.W.Frag} {mg : Str → Option Value}
theorem strs_len : ∀ {ds : List D} {xs : List Str}, D.strs ds = some xs → xs.length = ds.length
  | [], xs, h => by simp [D.strs] at h; simp [h]
  | d :: ds, xs, h => by
    cases d <;> simp only [D.strs] at h <;> first
      | (cases h; done)
      | (split at h
         · rename_i ys e
           cases h
           simp [strs_len e]
         · cases h)
theorem ints_len : ∀ {ds : List D} {xs : List Int}, D.ints ds = some xs → xs.length = ds.length
  | [], xs, h => by simp [D.ints] at h; simp [h]
  | d :: ds, xs, h => by
    cases d <;> simp only [D.ints] at h <;> first
      | (cases h; done)
      | (split at h
         · rename_i ys e
           cases h
           simp [ints_len e]
         · cases h)
theorem reps_str_map {F : Hp} : ∀ xs : List Str, Reps K mg F (xs.map D.str) (xs.map V.str)
  | [] => by simp [Reps]
  | x :: xs => by
    simp only [List.map_cons, Reps]
    exact ⟨rep_v rfl, reps_str_map xs⟩
theorem reps_int_map {F : Hp} : ∀ xs : List Int, Reps K mg F (xs.map D.int) (xs.map V.int)
  | [] => by simp [Reps]
  | x :: xs => by
    simp only [List.map_cons, Reps]
    exact ⟨rep_v rfl, reps_int_map xs⟩
theorem u_sort : OpU K mg (fun xs H Q => rSortedS K xs H Q ∨ rSorted K xs H Q) gSort := by
  intro F H σ en L r v Lr en' r' st h nd e Q q
  unfold gSort at e
  split at e
  · rename_i en1 k ds e1
    split at e
    · cases e
    rename_i hk
    split at e
    · rename_i es e2
      cases e
      obtain ⟨F1, L1, st1, ⟨a, vs, rfl, ⟨s1, s2⟩, rp⟩, x1⟩ := h.els st nd e1
      have lay : ∀ (us : List V) p, H p = none → Reps K mg F1 es us → Q (.ref p) (upd H p (.lst us)) := fun us p hp re => by
        obtain ⟨z1, z2, z3, z4⟩ := lay_list st1 hp (owns_sh re) (by simpa using st1.nd)
        exact q _ _ _ _ _ z1 z2 z3 (x1.trans (z4.mem (fun a h => by simpa using h) fun a h => h))
      unfold oSort at e2
      split at e2
      · rename_i hl
        split at e2
        · rename_i xs ex
          cases e2
          have ev := reps_strs rp ex
          subst ev
          refine .inl ⟨a, xs, rfl, s1.lst hk, by rw [strs_len ex]; exact hl, fun ys p hp hs hn => ?_⟩
          rw [srt_uni leS_tot leS_tr leS_an hp (sortedS_pw hs)]
          exact lay _ p hn (reps_str_map _)
        · split at e2
          · rename_i is ei
            cases e2
            have ev := reps_ints rp ei
            subst ev
            refine .inr ⟨a, is, rfl, s1.lst hk, by rw [ints_len ei]; exact hl, fun ys p hp hs hn => ?_⟩
            have e3 : ys = srt leI is := srt_uni (fun a b h => by simp only [leI, decide_eq_false_iff_not, decide_eq_true_eq] at h ⊢; omega) (fun a b c h h' => by simp only [leI, decide_eq_true_eq] at h h' ⊢; omega)
              (fun a b h h' => by simp only [leI, decide_eq_true_eq] at h h'; omega) hp (hs.imp fun h => by simpa [leI] using h)
            rw [e3]
            exact lay _ p hn (reps_int_map _)
          · cases e2
      · cases e2
    · cases e
  · cases e
end
theorem cr_sort {X : Cx} : CallR X (.builtin "sorted") (fun xs H Q => rSortedS X.K xs H Q ∨ rSorted X.K xs H Q) := call_or cr_sortedS cr_sorted

/-! ### calls by keywords: the values are frozen, each parameter takes one of them -/
def pick {α : Type} (is : List Nat) (xs : List α) : List α := is.filterMap fun i => xs[i]?
def fCallK (g : PF) (is : List Nat) (m : Nat) (fs : List FE) : FE := fun en => match evs fs en with
  | none => none
  | some (en1, rs) => match rfz en1 rs with
    | none => none
    | some (en2, ds) => if ds.length = m then (match g ((pick is ds).map W.sh) with
      | none => none
      | some (w, _) => some (en2, .val w)) else none
section
variable {K : PySem.W.Frag} {mg : Str → Option Value}
theorem reps_pick {F : Hp} {ds : List D} {vs : List V} (h : Reps K mg F ds vs) : ∀ {is : List Nat}, (∀ i ∈ is, i < ds.length) → Reps K mg F (pick is ds) (pick is vs)
  | [], _ => by simp [pick, Reps]
  | i :: is, hi => by
    have h1 := hi i (by simp)
    have e : ds[i]? = some ds[i] := List.getElem?_eq_getElem h1
    obtain ⟨v, e2, r⟩ := reps_at h e
    have := reps_pick h (is := is) fun j hj => hi j (by simp [hj])
    unfold pick at this ⊢
    simp only [List.filterMap_cons, e, e2, Reps]
    exact ⟨r, this⟩
theorem vals_get {vs : List V} {us : List Value} (r : Vals vs us) : ∀ i : Nat, (vs[i]? = none ∧ us[i]? = none) ∨ ∃ v u, vs[i]? = some v ∧ us[i]? = some u ∧ RelV v u := by
  induction r with
  | nil => intro i; exact .inl ⟨by simp, by simp⟩
  | cons h _ ih =>
    intro i
    cases i with
    | zero => exact .inr ⟨_, _, by simp, by simp, h⟩
    | succ i => simpa using ih i
theorem vals_pick {vs : List V} {us : List Value} (r : Vals vs us) : ∀ is : List Nat, Vals (pick is vs) (pick is us)
  | [] => .nil
  | i :: is => by
    have := vals_pick r is
    unfold pick at this ⊢
    rcases vals_get r i with ⟨a, b⟩ | ⟨v, u, a, b, c⟩
    · simpa only [List.filterMap_cons, a, b] using this
    · simp only [List.filterMap_cons, a, b]
      exact .cons c this
/-- what binds: n by position, the others by their names ks -/
def KBp (K : PySem.W.Frag) (fd : FuncData) (ps : List Str) (n : Nat) (ks : List Str) (is : List Nat) : Prop := KBn K fd ps n ks (fun us ws => pick is (us ++ ws)) (fun vs zs => pick is (vs ++ zs))
theorem kbp_of {x qual : Str} {st : Stmt} {f : Addr} {fd : FuncData} {ps ks : List Str} {n : Nat} {is : List Nat} (F : Fun K x qual st f fd)
    (h : ∀ (kV doc pm : Value) (an : Option Addr) (cdv ct : Value) (us ws : List Value), us.length = n → ws.length = ks.length → bindArgs (PySem.W.fnOf x qual (defArgs st) (defBody st) (defScope st) .none kV doc pm an cdv ct) ⟨us, ks.zip ws⟩ = pure (ps.zip (pick is (us ++ ws)))) : KBp K fd ps n ks is := by
  obtain ⟨oc, od, kV, doc, pm, an, cdv, ct, osl, rfl, lk, hcd⟩ := F.ex
  exact ⟨fun s us ws X l1 l2 => BindsTo.of_eq (h kV doc pm an cdv ct us ws l1 l2), fun r1 r2 => vals_pick (r1.append r2) is⟩
end
end Pu

namespace Pu
open PySem PySem.Spec PyProof.Rows L2

/-! ### values one behind another, without their sum -/
def tL (K : PySem.W.Frag) (mg : Str → Option Value) : List FE → TA
  | [] => tNil
  | f :: fs => tCons (tS K mg f) (tL K mg fs)
section
variable {K : PySem.W.Frag} {mg : Str → Option Value}
theorem tEv_tL : ∀ {fs : List FE} {σ : L2.St} {H : Hp} {Q : List V → Hp → Prop}, tEv K mg fs σ H Q → tL K mg fs σ H Q
  | [], _, _, _, h => tEv_nil h
  | _ :: _, _, _, _, h => tS_mono (tEv_cons h) fun v H' z => tEv_tL z
theorem tL_app : ∀ {fs gs : List FE} {σ : L2.St} {H : Hp} {Q : List V → Hp → Prop}, tL K mg (fs ++ gs) σ H Q → tL K mg fs σ H fun vs H1 => tL K mg gs σ H1 fun zs H2 => Q (vs ++ zs) H2
  | [], _, _, _, _, h => h
  | f :: fs, gs, _, _, _, h => tS_mono (K := K) (mg := mg) (f := f) h fun v H' z => tL_app (fs := fs) (gs := gs) z
theorem tL_mono : ∀ {fs : List FE} {σ : L2.St} {H : Hp} {Q Q' : List V → Hp → Prop}, tL K mg fs σ H Q → (∀ vs H, Q vs H → Q' vs H) → tL K mg fs σ H Q'
  | [], _, _, _, _, h, i => i _ _ h
  | f :: fs, _, _, _, _, h, i => tS_mono (K := K) (mg := mg) (f := f) h fun v H' z => tL_mono (fs := fs) z fun vs H => i (v :: vs) H
theorem tL_len : ∀ {fs : List FE} {σ : L2.St} {H : Hp} {Q : List V → Hp → Prop}, tL K mg fs σ H Q → tL K mg fs σ H fun vs H' => vs.length = fs.length ∧ Q vs H'
  | [], _, _, _, h => ⟨rfl, h⟩
  | f :: fs, _, _, _, h => tS_mono (K := K) (mg := mg) (f := f) h fun v H' z => tL_mono (tL_len (fs := fs) z) fun vs H q => ⟨by simp [q.1], q.2⟩
end
section
variable {X : Cx}
theorem sa_tL_nil : PA X [] (tL X.K X.mg []) := pa_nil
theorem sa_tL_cons {e : Expr} {es : List Expr} {f : FE} {fs : List FE} (h1 : SE X e f) (h2 : PA X es (tL X.K X.mg fs)) (hs : starEach (e :: es) X.env = (false, eval e X.env) :: starEach es X.env := by rfl) : PA X (e :: es) (tL X.K X.mg (f :: fs)) := pa_cons h1 h2 hs
abbrev SK (X : Cx) (kws : List Keyword) (fs : List FE) : Prop := PK X kws (tL X.K X.mg fs)
theorem sk_nil : SK X [] [] := pk_nil
theorem sk_cons {nm : Option Str} {e : Expr} {kpos : Pos} {kws : List Keyword} {f : FE} {fs : List FE} (h1 : SE X e f) (h2 : SK X kws fs) : SK X (⟨nm, e, kpos⟩ :: kws) (f :: fs) := pk_cons h1 h2
variable {k n m : Nat} {f : Addr} {fd : FuncData} {ps ks : List Str} {x : Str} {p pos : Pos} {e : Expr} {es : List Expr} {kws : List Keyword} {fs gs : List FE} {g : PF} {is : List Nat} {E : XK}
theorem callK_behind (hi : ∀ i ∈ is, i < m) {σ : L2.St} {H : Hp} {Q : VK} (h : tS X.K X.mg (fCallK g is m fs) σ H Q) : tEv X.K X.mg fs σ H fun vs H' => vs.length = m ∧ spP X.K X.mg g (pick is vs) H' Q E := by
  obtain ⟨F, en, L, en', rr, st, ef, k⟩ := h
  unfold fCallK at ef
  split at ef
  · cases ef
  rename_i en1 rs e1
  split at ef
  · cases ef
  rename_i en2 ds e2
  split at ef
  · rename_i hl
    split at ef
    · cases ef
    rename_i w ws' e3
    cases ef
    refine ⟨F, en, L, en1, rs, st, e1, fun vs F1 H1 L1 Lr1 st1 rr1 nd1 x1 => ?_⟩
    obtain ⟨F2, L2, st2, rp, x2⟩ := rr1.fz st1 (evs_stable e1) nd1 e2
    have hl2 : vs.length = m := by rw [← rp.len]; exact hl
    refine ⟨hl2, F2, _, [], st2.sub, by simp, owns_sh (reps_pick rp fun i z => by rw [hl]; exact hi i z), w, ws', e3, fun v F' H' L' s' nd' ow' x => ?_⟩
    simp only [Owns] at ow'
    obtain ⟨Lw, La', rfl, o1, o2⟩ := ow'
    obtain ⟨m1, m2, m3⟩ := nd_app nd'
    have c2 := st2.cell
    have st3 : StOk X.K X.mg F' H' σ _ L2 := ⟨s', st2.nd, st2.own.stay (x.stay fun b hb => ⟨by simp, c2 b hb⟩)⟩
    have ap := x.apart (M := L2) fun b hb => ⟨by simp, (c2 b hb).1.1⟩
    refine k v F' H' L2 Lw st3 (by simp only [RR]; exact o1) (nd_of st2.nd m1 fun b hb hb' => ap b (by simp [hb']) b hb rfl) (x1.trans (x2.trans ?_))
    refine (x.frame L2).mem (fun a ha => by simpa using ha) fun a ha => ?_
    rcases List.mem_append.mp ha with z | z <;> simp [z]
  · cases ef
theorem callK_two (hi : ∀ i ∈ is, i < m) (hm : fs.length + gs.length = m) {σ : L2.St} {H : Hp} {Q : VK} (h : tS X.K X.mg (fCallK g is m (fs ++ gs)) σ H Q) :
    tCallN fs.length gs.length (spP X.K X.mg g) (fun vs zs => pick is (vs ++ zs)) E (tL X.K X.mg fs) (tL X.K X.mg gs) σ H Q := by
  have z := tL_len (tL_app (tEv_tL (callK_behind (E := E) hi h)))
  exact tL_mono z fun vs H1 q => tL_mono (tL_len q.2) fun zs H2 q2 => ⟨q.1, q2.1, q2.2.2⟩
/-- f(e, .., k = v, ..), every parameter written -/
theorem se_callK (G : FnOk X.prog X.w X.K X.mg X.base CX0 k f fd ps (spP X.K X.mg g)) (hr : Room k X.A) (hg : Gl X x) (hm : X.mg x = some (.ref f)) (hk : PySem.W.keepIn X.K (.ref f) = true) (hb : KBp X.K fd ps fs.length ks is)
    (ha : PA X (e :: es) (tL X.K X.mg fs)) (hkw : SK X kws gs) (hi : ∀ i ∈ is, i < fs.length + gs.length) (hl : ks.length = gs.length)
    (hall : (backToKw pos (keywordEach kws X.env)).all (·.1.isSome) = true := by rfl) (hks : (backToKw pos (keywordEach kws X.env)).filterMap (·.1) = ks := by rfl)
    (hdb : (x == ("__debug__" : Str)) = false := by decide) (he : starEach (e :: es) X.env = (false, eval e X.env) :: starEach es X.env := by rfl)
    (hpl : ((backTo pos (starEach (e :: es) X.env)).any (·.1) || (backToKw pos (keywordEach kws X.env)).any (·.1.isNone)) = false := by rfl) :
    SE X (.Call (.Name x p) (e :: es) kws pos) (fCallK g is (fs.length + gs.length) (fs ++ gs)) :=
  pe_imp (pe_callN G hr hg hm hk hb pass0 ha hkw hall hks hdb he hpl) fun σ H Q q => by
    rw [hl]
    exact callK_two hi rfl q
theorem pe_callN0 {sp : Sp} {g : List Value → List Value → List Value} {gV : List V → List V → List V} {tk : TA} (F : FnOk X.prog X.w X.K X.mg X.base CX0 k f fd ps sp) (hr : Room k X.A) (hg : Gl X x) (hm : X.mg x = some (.ref f)) (hk : PySem.W.keepIn X.K (.ref f) = true) (hb : KBn X.K fd ps 0 ks g gV) (hx : Passes CX0 X E)
    (hkw : PK X kws tk) (hall : (backToKw pos (keywordEach kws X.env)).all (·.1.isSome) = true := by rfl) (hks : (backToKw pos (keywordEach kws X.env)).filterMap (·.1) = ks := by rfl)
    (hdb : (x == ("__debug__" : Str)) = false := by decide) (hpl : ((backTo pos (starEach [] X.env)).any (·.1) || (backToKw pos (keywordEach kws X.env)).any (·.1.isNone)) = false := by rfl) :
    PE X (.Call (.Name x p) [] kws pos) (tCallN 0 ks.length sp gV E tNil tk) := ⟨fun pins s σ H Q I h =>
  wpAny_Call_Name_kw (ld_glob I hg hm (PySem.W.callWith_KW0 (h₀ := X.base) I.ok.mod.kin hk hall (thn (hkw.run pos pins s σ H _ I h) fun ws s2 z => by
    obtain ⟨zs, H2, I2, rz, l1, l2, q2⟩ := z
    refine ⟨I2.kIn, ?_⟩
    rw [hks]
    exact run_fnN (us := []) (vs := []) F hr hb hx I2 .nil rz rfl l2 q2) hpl) hdb)⟩
theorem se_callK0 (G : FnOk X.prog X.w X.K X.mg X.base CX0 k f fd ps (spP X.K X.mg g)) (hr : Room k X.A) (hg : Gl X x) (hm : X.mg x = some (.ref f)) (hk : PySem.W.keepIn X.K (.ref f) = true) (hb : KBp X.K fd ps 0 ks is)
    (hkw : SK X kws gs) (hi : ∀ i ∈ is, i < gs.length) (hl : ks.length = gs.length)
    (hall : (backToKw pos (keywordEach kws X.env)).all (·.1.isSome) = true := by rfl) (hks : (backToKw pos (keywordEach kws X.env)).filterMap (·.1) = ks := by rfl)
    (hdb : (x == ("__debug__" : Str)) = false := by decide) (hpl : ((backTo pos (starEach [] X.env)).any (·.1) || (backToKw pos (keywordEach kws X.env)).any (·.1.isNone)) = false := by rfl) :
    SE X (.Call (.Name x p) [] kws pos) (fCallK g is gs.length gs) :=
  pe_imp (pe_callN0 (E := E0) G hr hg hm hk hb pass0 hkw hall hks hdb hpl) fun σ H Q q => by
    rw [hl]
    exact callK_two (fs := []) hi (by simp) q
end

/-! ### comprehensions, with the number of names known -/
section
variable {X : Cx} {elt tg iter : Expr} {ifs : List Expr} {scope : Scope} {own : List (Str × Nat)} {pos : Pos} {fi : FI} {g : FG} {t : FT} {f : FE} {n : Nat}
theorem se_compn (hn : X.N.length = n) (hc : X.calm = true) (hN : X.N.Nodup) (hi : SI X tg iter fi) (ok : BlkOk X.N X.env.scope scope own)
    (hg : ∀ (s : Shared) (H : Hp) (C : Addr) (cl : List (Str × Addr)) (fp : List Addr), SG (X.blk s H scope (compEnvC scope cl C X.env) fp) (others n (own.map (·.2))) tg g)
    (ht : ∀ (s : Shared) (H : Hp) (C : Addr) (cl : List (Str × Addr)) (fp : List Addr), STs (X.blk s H scope (compEnvC scope cl C X.env) fp) ifs t)
    (he : ∀ (s : Shared) (H : Hp) (C : Addr) (cl : List (Str × Addr)) (fp : List Addr), SE (X.blk s H scope (compEnvC scope cl C X.env) fp) elt f) (hs : ∀ x, foldedSetIterable iter X.env x = pure x := by intro _; rfl) :
    SE X (.ListComp elt [⟨tg, iter, ifs, 0⟩] scope pos) (fComp (own.map (·.2)) fi g t f) := by
  subst hn
  exact se_comp hc hN hi ok hg ht he hs
theorem ss_setLcn {fix : List Nat} {i : Nat} {y : Str} {py spos : Pos} (hn : X.N.length = n) (hc : X.calm = true) (hN : X.N.Nodup) (hy : X.N[i]? = some y) (hyl : X.env.scope.names.lookup y = some .local) (hfix : i ∉ fix)
    (hsw : swapsWith (.ListComp elt [⟨tg, iter, ifs, 0⟩] scope pos) (some (.Name y py)) spos.line X.env = pure true) (hi : SI X tg iter fi) (ok : BlkOk X.N X.env.scope scope own)
    (hg : ∀ (s : Shared) (H : Hp) (C : Addr) (cl : List (Str × Addr)) (fp : List Addr), SG (X.blk s H scope (compEnvC scope cl C X.env) fp) (others n (own.map (·.2))) tg g)
    (ht : ∀ (s : Shared) (H : Hp) (C : Addr) (cl : List (Str × Addr)) (fp : List Addr), STs (X.blk s H scope (compEnvC scope cl C X.env) fp) ifs t)
    (he : ∀ (s : Shared) (H : Hp) (C : Addr) (cl : List (Str × Addr)) (fp : List Addr), SE (X.blk s H scope (compEnvC scope cl C X.env) fp) elt f) (hs : ∀ x, foldedSetIterable iter X.env x = pure x := by intro _; rfl) :
    SS X fix (.Assign [.Name y py] (.ListComp elt [⟨tg, iter, ifs, 0⟩] scope pos) spos) (sAsg (fComp (own.map (·.2)) fi g t f) (gN i)) := by
  subst hn
  exact ss_setLc hc hN hy hyl hfix hsw hi ok hg ht he hs
end
end Pu

namespace Pu
open PySem PySem.Spec PyProof.Rows L2

/-! ### the built-ins of one argument, each by its name -/
section
variable {X : Cx} {e : Expr} {f : FE} {p pos : Pos}
theorem b_len : bootBuiltins "len" = some (.builtin "len") := by decide +kernel
def fLen (f : FE) : FE := fU (gS1 oLen) f
theorem c_len (hm : X.mg "len" = none) (he : SE X e f) (hg : Gl X "len" := by rfl) (hs : starEach [e] X.env = [(false, eval e X.env)] := by rfl) : SE X (.Call (.Name "len" p) [e] [] pos) (fLen f) := se_callB (call_or call_len call_lenD) (PkU.ok pk_len) hg hm b_len he (by decide) (by decide) hs
theorem b_abs : bootBuiltins "abs" = some (.builtin "abs") := by decide +kernel
def fAbs (f : FE) : FE := fU (gS1 oAbs) f
theorem c_abs (hm : X.mg "abs" = none) (he : SE X e f) (hg : Gl X "abs" := by rfl) (hs : starEach [e] X.env = [(false, eval e X.env)] := by rfl) : SE X (.Call (.Name "abs" p) [e] [] pos) (fAbs f) := se_callB (call_abs) (PkU.ok pk_abs) hg hm b_abs he (by decide) (by decide) hs
theorem b_int : bootBuiltins "int" = some (.type "int") := by decide +kernel
def fInt (f : FE) : FE := fU (gS1 oInt) f
theorem c_int (hm : X.mg "int" = none) (he : SE X e f) (hg : Gl X "int" := by rfl) (hs : starEach [e] X.env = [(false, eval e X.env)] := by rfl) : SE X (.Call (.Name "int" p) [e] [] pos) (fInt f) := se_callTy (call_int1) (PkU.ok pk_int) hg hm b_int he (by decide) (by decide) hs
theorem b_all : bootBuiltins "all" = some (.builtin "all") := by decide +kernel
def fAll (f : FE) : FE := fU (gS1 oAll) f
theorem c_all (hc : X.calm = true) (hm : X.mg "all" = none) (he : SE X e f) (hg : Gl X "all" := by rfl) (hs : starEach [e] X.env = [(false, eval e X.env)] := by rfl) : SE X (.Call (.Name "all" p) [e] [] pos) (fAll f) := se_callB (cr_all hc) (PkU.ok pk_all) hg hm b_all he (by decide) (by decide) hs
theorem b_any : bootBuiltins "any" = some (.builtin "any") := by decide +kernel
def fAny (f : FE) : FE := fU (gS1 oAny) f
theorem c_any (hc : X.calm = true) (hm : X.mg "any" = none) (he : SE X e f) (hg : Gl X "any" := by rfl) (hs : starEach [e] X.env = [(false, eval e X.env)] := by rfl) : SE X (.Call (.Name "any" p) [e] [] pos) (fAny f) := se_callB (cr_any hc) (PkU.ok pk_any) hg hm b_any he (by decide) (by decide) hs
theorem b_sum : bootBuiltins "sum" = some (.builtin "sum") := by decide +kernel
def fSum (f : FE) : FE := fU (gS1 oSum) f
theorem c_sum (hc : X.calm = true) (hm : X.mg "sum" = none) (he : SE X e f) (hg : Gl X "sum" := by rfl) (hs : starEach [e] X.env = [(false, eval e X.env)] := by rfl) : SE X (.Call (.Name "sum" p) [e] [] pos) (fSum f) := se_callB (cr_sum hc) (PkU.ok pk_sum) hg hm b_sum he (by decide) (by decide) hs
theorem b_list : bootBuiltins "list" = some (.type "list") := by decide +kernel
def fList (f : FE) : FE := fU (gList) f
theorem c_list (hm : X.mg "list" = none) (he : SE X e f) (hg : Gl X "list" := by rfl) (hs : starEach [e] X.env = [(false, eval e X.env)] := by rfl) : SE X (.Call (.Name "list" p) [e] [] pos) (fList f) := se_callTy (call_list_of) (u_list) hg hm b_list he (by decide) (by decide) hs
theorem b_tuple : bootBuiltins "tuple" = some (.type "tuple") := by decide +kernel
def fTuple (f : FE) : FE := fU (gTuple) f
theorem c_tuple (hm : X.mg "tuple" = none) (he : SE X e f) (hg : Gl X "tuple" := by rfl) (hs : starEach [e] X.env = [(false, eval e X.env)] := by rfl) : SE X (.Call (.Name "tuple" p) [e] [] pos) (fTuple f) := se_callTy (call_tuple_of) (u_tuple) hg hm b_tuple he (by decide) (by decide) hs
theorem b_sorted : bootBuiltins "sorted" = some (.builtin "sorted") := by decide +kernel
def fSorted (f : FE) : FE := fU (gSort) f
theorem c_sorted (hm : X.mg "sorted" = none) (he : SE X e f) (hg : Gl X "sorted" := by rfl) (hs : starEach [e] X.env = [(false, eval e X.env)] := by rfl) : SE X (.Call (.Name "sorted" p) [e] [] pos) (fSorted f) := se_callB (cr_sort) (u_sort) hg hm b_sorted he (by decide) (by decide) hs
end
theorem b_bool : bootBuiltins "bool" = some (.type "bool") := by decide +kernel
theorem b_str : bootBuiltins "str" = some (.type "str") := by decide +kernel
theorem b_dict : bootBuiltins "dict" = some (.type "dict") := by decide +kernel
/-- what stands in a law about a statement of the top -/
def cs : Expr → Scope
  | .ListComp _ _ s _ => s
  | _ => { kind := .function, names := [], isGenerator := false, isCoroutine := false }
end Pu

/-! Pu20: sorted of data of any depth, out of a list, a tuple, a dict with tuple keys. -/
namespace Pu
open PySem PySem.Spec PyProof.Rows L2
section
variable {prog : Program} {w : World} {A : Around} {E : Value → Shared → Prop} {s : Shared}
theorem collect_tupleD {l : Addr} {vs : List Value} {Q : List Value → Shared → Prop} (hl : IsTup s.heap l vs.toArray)
    (h : Q vs { s with heap := (s.heap.push (seqObj "list" #[] 0)).update s.heap.objs.size (Obj.mapSeq (· ++ vs.toArray)) }) (hsz : vs.length ≤ sizeLine) :
    wpAny (model prog w) A (collect (.ref l)) Q E s := by
  obtain ⟨o, ho, hc, n, hd⟩ := id hl
  unfold collect
  refine wpAny_bind (wpAny_runValue (codeAny_builtin entry_proto_collect' ?_))
  show wpAny _ _ (do again (.builtin "list.__iadd__" ⟨[← newList [], .ref l], []⟩)) _ _ s
  refine wpAny_bind (wpAny_newList (wpAny_pure ⟨Code.quiet_builtin _ (by decide +kernel), codeAny_builtin entry_list_iadd' ?_⟩))
  show wpAny _ _ (Builtin.List.listExtendWith (.ref s.heap.objs.size) (.ref l) (.ref s.heap.objs.size)) _ _ { s with heap := s.heap.push (seqObj "list" #[] 0) }
  unfold Builtin.List.listExtendWith
  have ho' : (s.heap.push (seqObj "list" #[] 0)).get? l = some o := Heap.get?_push_of_some _ ho
  refine wpAny_bind (wpAny_typeOf (T := "tuple") ⟨o, ho', hc⟩ ?_)
  have ht : (Value.type "tuple" == Value.type "tuple") = true := by rfl
  rw [if_pos (by rw [ht]; simp)]
  refine wpAny_bind (listItems_at ho' hd ?_)
  refine wpAny_bind (listItems_at (xs := #[]) (n := 0) (Heap.get?_push_size _ rfl) rfl ?_)
  rw [if_neg (by simp)]
  refine wpAny_bind (listUpdate_at (xs := #[]) (n := 0) (Heap.get?_push_size _ rfl) rfl ?_ (Nat.zero_le _) (by show (#[] ++ vs.toArray).size ≤ sizeLine + 1; simp only [Array.size_append, List.size_toArray, List.length_nil]; omega))
  refine wpAny_pure ?_
  show wpAny (model prog w) A (do
      let o ← load s.heap.objs.size
      match o.data with
      | .seq xs _ => pure xs.toList
      | _ => unsupported "internal:collect") Q E { s with heap := (s.heap.push (seqObj "list" #[] 0)).update s.heap.objs.size (Obj.mapSeq (· ++ vs.toArray)) }
  refine wpAny_bind (wpAny_load (get?_update_seq (Heap.get?_push_size _ rfl) _) ?_)
  show wpAny _ _ (pure ((#[] : Array Value) ++ vs.toArray).toList) Q E _
  rw [show ((#[] : Array Value) ++ vs.toArray).toList = vs by simp]
  exact wpAny_pure h
theorem sorted_fromD {β : Type} {r : Addr} {vs : List Value} {bs : List β} {enc : β → PyData} {R : Value → β → Prop} {Q : Value → Shared → Prop}
    (hcol : ∀ (C : List Value → Shared → Prop) (E' : Value → Shared → Prop), (∀ h' tk, (∀ b o, s.heap.get? b = some o → h'.get? b = some o) → C vs { s with heap := h', toks := tk }) → wpAny (model prog w) A.in1 (collect (.ref r)) C E' s)
    (e : PySem.W.EachIs R vs bs) (er : PySem.W.EachIs (fun v b => ∃ as, Reads s.heap v (enc b) as) vs bs) (hal : PySem.W.AllAlike (bs.map enc)) (hk : PySem.W.Sortable (bs.map enc)) (hL : bs.length ≤ sizeLine)
    (hu : ∀ b, b ∈ bs → A.units + 2 + (enc b).depth < cLine)
    (h : ∀ (h1 h' : Heap) (tk : Nat) (d : Addr) (out : List Value), (∀ b o, s.heap.get? b = some o → h1.get? b = some o) → (∀ b o, h1.get? b = some o → h'.get? b = some o) → h1.objs.size ≤ d → (∃ n, h'.get? d = some (seqObj "list" out.toArray n)) → out.length = bs.length → PySem.W.EachIs R out (bs.mergeSort (PySem.W.dataLe false enc)) → Q (.ref d) { s with heap := h', toks := tk }) :
    wpAny (model prog w) A (call (.builtin "sorted") [.ref r]) Q E s := by
  have hlen : vs.length = bs.length := e.length
  refine Calls.call_function_entry kind_sorted plain_sorted entry_sorted (args_sorted1 _) ?_
  unfold Builtin.«sorted»
  refine wpAny_bind (m := checkCount "sorted" 1 1 _) (wpAny_pure ?_)
  refine wpAny_bind (hcol _ _ fun h' tk keep => ?_)
  refine wpAny_bind (wpAny_newList ?_ (by rw [hlen]; exact hL))
  have hoL : (h'.push (seqObj "list" vs.toArray 0)).get? h'.objs.size = some (seqObj "list" vs.toArray 0) := Heap.get?_push_size _ rfl
  show wpAny _ _ _ _ _ { s with heap := h'.push (seqObj "list" vs.toArray 0), toks := tk }
  have hold : ∀ b o, s.heap.get? b = some o → b < h'.objs.size := fun b o q => Heap.lt_size (keep b o q)
  have k1 : ∀ b o, s.heap.get? b = some o → (PySem.W.sortingHeap (h'.push (seqObj "list" vs.toArray 0)) h'.objs.size vs).get? b = some o := fun b o q =>
    PySem.W.sortingHeap_old (Nat.ne_of_lt (hold b o q)) (Heap.get?_push_of_some _ (keep b o q))
  have er' : PySem.W.EachIs (fun v b => ∃ as, Reads (PySem.W.sortingHeap (h'.push (seqObj "list" vs.toArray 0)) h'.objs.size vs) v (enc b) as) vs bs := er.mono fun _ _ ⟨as, r⟩ => ⟨as, PyProof.Rows.Reads.keeps k1 r⟩
  refine wpAny_bind (wpAny_holding (wpAny_call_entry slot_list_sort ⟨_, hoL, rfl⟩ entry_list_sort
    (PySem.W.list_sort_vals (s := { s with heap := h'.push (seqObj "list" vs.toArray 0), toks := tk }) hoL
      (PySem.W.SortsAt.data (s := { s with heap := PySem.W.sortingHeap (h'.push (seqObj "list" vs.toArray 0)) h'.objs.size vs, toks := tk }) (PySem.W.each_map (R := fun v d => ∃ as, Reads (PySem.W.sortingHeap (h'.push (seqObj "list" vs.toArray 0)) h'.objs.size vs) v d as) enc er') hal hk (PySem.W.bound_map fun b hb => hu b hb))
      (by rw [hlen]; exact hL) ⟨_, rfl, ?_⟩)
    (args_list_sort _)))
  obtain ⟨e', he'⟩ := PyProof.Rows.sortedHeap_at (vs := vs) (out := (PySem.W.sortVals (PySem.W.dataKind (PySem.W.sortingHeap (h'.push (seqObj "list" vs.toArray 0)) h'.objs.size vs) (bs.map enc)) false vs vs).toArray) hoL
  refine wpAny_pure ⟨_, rfl, h h' _ tk h'.objs.size _ keep (fun b o q => ?_) (Nat.le_refl _) ⟨e', he'⟩ (by rw [PySem.W.sortVals_length false rfl]; exact hlen) (PySem.W.sortVals_data false e er' hal)⟩
  have hb : b < h'.objs.size := Heap.lt_size q
  rw [PyProof.Rows.sortedHeap_old (Nat.ne_of_lt hb) (by rw [size_push']; exact Nat.lt_succ_of_lt hb)]
  exact Heap.get?_push_of_some _ q
end
/-! ### as rules of the layer -/
theorem each_vals : ∀ {xs : List V} {us : List Value} {ps : List PyData}, Vals xs us → xs.length = ps.length → PySem.W.EachIs (fun (v : Value) (b : V × PyData) => RelV b.1 v) us (xs.zip ps)
  | [], [], [], _, _ => .nil
  | x :: xs, u :: us, p :: ps, r, h => by
    cases r with
    | cons r1 r2 => exact .cons r1 (each_vals r2 (by simpa using h))
theorem vals_each : ∀ {us : List Value} {bs : List (V × PyData)}, PySem.W.EachIs (fun (v : Value) (b : V × PyData) => RelV b.1 v) us bs → Vals (bs.map (·.1)) us
  | _, _, .nil => .nil
  | _, _, .cons h t => .cons h (vals_each t)
section
variable {X : Cx} {pins : List (Addr × Obj)} {σ : L2.St} {H : Hp} {s : Shared}
theorem each_reads (I : Inv X pins σ H s) : ∀ {xs : List V} {us : List Value} {ps : List PyData}, Vals xs us → DpAll X.K H xs ps → PySem.W.EachIs (fun (v : Value) (b : V × PyData) => ∃ as, Reads s.heap v b.2 as) us (xs.zip ps)
  | [], [], [], _, _ => .nil
  | x :: xs, u :: us, p :: ps, r, h => by
    cases r with
    | cons r1 r2 =>
      cases h with
      | cons h1 h2 => exact .cons (Dp.reads I p x u h1 r1) (each_reads I r2 h2)
end
theorem dpAll_len {K : PySem.W.Frag} {H : Hp} : ∀ {xs : List V} {ps : List PyData}, DpAll K H xs ps → xs.length = ps.length
  | _, _, .nil => rfl
  | _, _, .cons _ t => by simp [dpAll_len t]
theorem zip_snd {α β : Type} : ∀ {xs : List α} {ys : List β}, xs.length = ys.length → (xs.zip ys).map Prod.snd = ys
  | [], [], _ => rfl
  | x :: xs, y :: ys, h => by simp [zip_snd (by simpa using h : xs.length = ys.length)]
  | [], _ :: _, h => by simp at h
  | _ :: _, [], h => by simp at h
def sortedV (xs : List V) (ps : List PyData) : List V := ((xs.zip ps).mergeSort (PySem.W.dataLe false Prod.snd)).map (·.1)
def rSortedL (K : PySem.W.Frag) : List V → Hp → VK → Prop := fun vs H Q => ∃ (a : Addr) (xs : List V) (ps : List PyData), vs = [V.ref a] ∧ (SqL K H a xs ∨ SqT K H a xs) ∧ DpAll K H xs ps ∧ PySem.W.AllAlike ps ∧ PySem.W.Sortable ps ∧ (∀ d ∈ ps, d.depth ≤ 60) ∧ xs.length ≤ sizeLine ∧
  ∀ p, H p = none → Q (.ref p) (upd H p (.lst (sortedV xs ps)))
def rSortedDT (K : PySem.W.Frag) : List V → Hp → VK → Prop := fun vs H Q => ∃ (a : Addr) (kvs : List (List L2.Key × V)) (ps : List PyData), vs = [V.ref a] ∧ Rd H a (.dT kvs) ∧ (∀ bs, IsKeys H kvs bs → DpAll K H (bs.map V.ref) ps) ∧ PySem.W.AllAlike ps ∧ PySem.W.Sortable ps ∧ (∀ d ∈ ps, d.depth ≤ 60) ∧ kvs.length ≤ sizeLine ∧
  ∀ p bs, H p = none → IsKeys H kvs bs → Q (.ref p) (upd H p (.lst (sortedV (bs.map V.ref) ps)))
section
variable {X : Cx} {pins : List (Addr × Obj)} {σ : L2.St} {H : Hp} {s : Shared}
theorem each_len {α β : Type} {R : α → β → Prop} {as : List α} {bs : List β} (h : PySem.W.EachIs R as bs) : as.length = bs.length := h.length
theorem sorted_inv {E : Value → Shared → Prop} {r : Addr} {vs : List Value} {xs : List V} {ps : List PyData} {Q : VK} (I : Inv X pins σ H s) (hu : X.A.units + 64 < cLine)
    (hcol : ∀ (C : List Value → Shared → Prop) (E' : Value → Shared → Prop), (∀ h' tk, (∀ b o, s.heap.get? b = some o → h'.get? b = some o) → C vs { s with heap := h', toks := tk }) → wpAny (model X.prog X.w) X.A.in1 (collect (.ref r)) C E' s)
    (rv : Vals xs vs) (hd : DpAll X.K H xs ps) (hal : PySem.W.AllAlike ps) (hk : PySem.W.Sortable ps) (hdep : ∀ d ∈ ps, d.depth ≤ 60) (hz : xs.length ≤ sizeLine)
    (q : ∀ p, H p = none → Q (.ref p) (upd H p (.lst (sortedV xs ps)))) :
    wpAny (model X.prog X.w) X.A (call (.builtin "sorted") [.ref r]) (fun v s' => ∃ x H', Inv X pins σ H' s' ∧ RelV x v ∧ Q x H') E s := by
  have hl := dpAll_len hd
  have hzip : (xs.zip ps).length = xs.length := by rw [List.length_zip]; omega
  have es : (xs.zip ps).map Prod.snd = ps := zip_snd hl
  refine sorted_fromD (enc := Prod.snd) hcol (each_vals rv hl) (each_reads I rv hd) (by rw [es]; exact hal) (by rw [es]; exact hk) (by rw [hzip]; exact hz) (fun b hb => ?_) fun h1 h' tk d out k1 k2 hdl ho hlen hR => ?_
  · have : b.2 ∈ ps := by rw [← es]; exact List.mem_map_of_mem hb
    have := hdep _ this
    omega
  · have I1 : Inv X pins σ H { s with heap := h1 } := I.kept (t' := s.toks) k1
    obtain ⟨n, hn⟩ := ho
    have rv2 : Vals (sortedV xs ps) out := vals_each hR
    have hlen2 : (sortedV xs ps).length ≤ sizeLine := by
      unfold sortedV
      rw [List.length_map, List.length_mergeSort, hzip]
      exact hz
    exact ⟨.ref d, upd H d (.lst (sortedV xs ps)), I1.laid (t' := tk) k2 hdl ⟨hlen2, out, n, rv2, hn⟩, rfl, q d (I1.hok.fresh hdl)⟩
end
section
variable {X : Cx}
theorem cr_sortedL (hu : X.A.units + 64 < cLine) : CallR X (.builtin "sorted") (rSortedL X.K) := by
  intro pins s σ H vs us Q I r h
  obtain ⟨a, xs, ps, rfl, hs, hd, hal, hk, hdep, hz, q⟩ := h
  obtain ⟨u, rfl, ru⟩ := vals1 r
  obtain rfl : u = Value.ref a := ru
  have kp : ∀ (vs : List Value) b o, s.heap.get? b = some o → ((s.heap.push (seqObj "list" #[] 0)).update s.heap.objs.size (Obj.mapSeq (· ++ vs.toArray))).get? b = some o := fun vs b o q => by
    rw [Heap.get?_update_ne _ _ _ _ (Nat.ne_of_lt (Heap.lt_size q))]
    exact Heap.get?_push_of_some _ q
  rcases hs with hs | hs
  · obtain ⟨its, rv, hl, hz2⟩ := I.list hs
    exact sorted_inv I hu (fun C E' hC => collect_list hl.isList (hC _ s.toks (kp _)) (by rw [← rv.length]; exact hz)) rv hd hal hk hdep hz q
  · obtain ⟨its, rv, hl, hz2⟩ := I.tuple hs
    exact sorted_inv I hu (fun C E' hC => collect_tupleD hl (hC _ s.toks (kp _)) (by rw [← rv.length]; exact hz)) rv hd hal hk hdep hz q
theorem cr_sortedDT (hc : X.calm = true) (hu : X.A.units + 64 < cLine) : CallR X (.builtin "sorted") (rSortedDT X.K) := by
  intro pins s σ H vs us Q I r h
  obtain ⟨d, kvs, ps, rfl, hd, hdp, hal, hk, hdep, hz, q⟩ := h
  obtain ⟨u, rfl, ru⟩ := vals1 r
  obtain rfl : u = Value.ref d := ru
  obtain ⟨z, hs, ks, pr, o, es, ep, ho, hx, hdt, he, hn⟩ := (show ObjOk X.prog X.w H s.heap d (.dT kvs) from hd.ok I.hok)
  have l1 : es.size = ks.length := size_of_entries he
  have l2 : kvs.length = ks.length := Paired.length pr
  have kk := isKeys_of pr
  have rv : Vals ((ks.map fun x => x.2.1).map V.ref) ((ks.map fun x => x.2.1).map Value.ref) := vals_refs _
  refine sorted_inv I hu (vs := (ks.map fun x => x.2.1).map Value.ref) (fun C E' hC => PySem.W.kdu_collect (A := X.A.in1) (kdl_raw hs hx hdt) (I.ok.hd hc) ho (by omega) fun h' tk acc keep it => ?_) rv (hdp _ kk) hal hk hdep (by rw [List.length_map, List.length_map]; omega) fun p hp => q p _ hp kk
  have ea : acc.toList = (ks.map fun x => x.2.1).map Value.ref := by
    have hl : acc.toList.length = ks.length := by rw [Array.length_toList, it.1]; exact l1
    rw [List.map_map]
    apply List.ext_getElem?
    intro j
    rw [List.getElem?_map]
    cases hj : acc.toList[j]? with
    | none =>
      have h1 := List.getElem?_eq_none_iff.mp hj
      rw [List.getElem?_eq_none (by omega)]
      all_goals rfl
    | some v =>
      obtain ⟨en, hen, hv⟩ := it.2 j v (by rw [← Array.getElem?_toList]; exact hj)
      have qe := entry_at he j
      rw [hen] at qe
      cases hb : ks[j]? with
      | none =>
        rw [hb] at qe
        exact nomatch (show some en = none from qe)
      | some b =>
        rw [hb] at qe
        have e2 : en = entryOfKey (tupleKind (mixKind X.prog X.w)) b := Option.some.inj qe
        rw [hv, e2]
        all_goals rfl
  rw [ea]
  exact hC h' tk keep
end
end Pu

/-! Pu21: dicts with tuple keys by their keys: for, list(d), sorted(d); sorted of data. -/
namespace Pu
open PySem PySem.Spec PyProof.Rows L2
def keyD : Key → D
  | .inl i => .int i
  | .inr x => .str x
def tkeyD (k : List Key) : D := .tup (k.map keyD)
section
variable {K : PySem.W.Frag} {mg : Str → Option Value} {σ : L2.St} {F H : Hp} {en : En} {L : List Addr}
theorem rep_keyD (k : Key) : Rep K mg F (keyD k) (kV k) := by
  cases k
  · exact rep_v rfl
  · exact rep_v rfl
theorem reps_keyD : ∀ k : List Key, Reps K mg F (k.map keyD) (k.map kV)
  | [] => by simp [Reps]
  | k :: ks => by
    simp only [List.map_cons, Reps]
    exact ⟨rep_keyD k, reps_keyD ks⟩
theorem rep_tkeyD {b : Addr} {k : List Key} (h : F b = some (.tup (k.map kV))) : Rep K mg F (tkeyD k) (.ref b) := by
  unfold tkeyD
  simp only [Rep]
  exact ⟨b, _, rfl, .of h, reps_keyD k⟩
theorem keys_frozen {kvs : List (List Key × V)} {bs : List Addr} (k : IsKeys H kvs bs) : ∀ {F : Hp}, StOk K mg F H σ en L → ∃ F', StOk K mg F' H σ en L ∧ Ext F H L F' H L ∧ Reps K mg F' (kvs.map fun p => tkeyD p.1) (bs.map V.ref) := by
  unfold IsKeys at k
  induction k with
  | nil => intro F st; exact ⟨F, st, Ext.refl, by simp [Reps]⟩
  | @cons p b kvs bs h _ ih =>
    intro F st
    obtain ⟨F1, st1, x1, r1⟩ := ih st
    obtain ⟨st2, x2, s2⟩ := tup_frozen st1 h
    refine ⟨_, st2, x1.trans x2, ?_⟩
    simp only [List.map_cons, Reps]
    exact ⟨rep_tkeyD upd_same, r1.mono s2⟩
theorem keys_reps {kvs : List (List Key × V)} {bs : List Addr} (k : IsKeys H kvs bs) : Reps K mg H (kvs.map fun p => tkeyD p.1) (bs.map V.ref) := by
  unfold IsKeys at k
  induction k with
  | nil => simp [Reps]
  | cons h _ ih =>
    simp only [List.map_cons, Reps]
    exact ⟨rep_tkeyD h, ih⟩
end
theorem map_tkey {kvs : List (List Key × V)} {ks : List (List Key)} (h : kvs.map (·.1) = ks) : ks.map tkeyD = kvs.map fun p => tkeyD p.1 := by
  rw [← h, List.map_map]
  rfl

/-! ### sorted -/
open PySem.W in
theorem ins_same {α : Type} {le : α → α → Bool} (h : PySem.W.TotalLe le) (c x : α) : ∀ r : List α, (insS le x r).filter (PySem.W.sameRank le c) = (x :: r).filter (PySem.W.sameRank le c)
  | [] => rfl
  | y :: r => by
    unfold insS
    split
    · rfl
    · rename_i hxy
      have ih := ins_same h c x r
      rw [List.filter_cons, ih, List.filter_cons, List.filter_cons (x := x), List.filter_cons (x := y)]
      cases hx : PySem.W.sameRank le c x with
      | false => simp
      | true =>
        cases hy : PySem.W.sameRank le c y with
        | false => simp
        | true =>
          exfalso
          simp only [PySem.W.sameRank, Bool.and_eq_true] at hx hy
          exact hxy (h.trans _ _ _ hx.2 hy.1)
theorem srt_same {α : Type} {le : α → α → Bool} (h : PySem.W.TotalLe le) (c : α) : ∀ r : List α, (srt le r).filter (PySem.W.sameRank le c) = r.filter (PySem.W.sameRank le c)
  | [] => rfl
  | x :: r => by
    show (insS le x (srt le r)).filter _ = _
    rw [ins_same h c x, List.filter_cons, srt_same h c r, List.filter_cons]
theorem ms_srt {α : Type} {le : α → α → Bool} (h : PySem.W.TotalLe le) (l : List α) : l.mergeSort le = srt le l :=
  (PySem.W.sort_unique h (srt_pw (fun a b e => (h.total a b).resolve_left (by rw [e]; simp)) (fun a b c => h.trans a b c) l) fun c => srt_same h c l).symm
theorem ins_map {α β : Type} {r : α → α → Bool} {s : β → β → Bool} (f : α → β) (x : α) : ∀ {l : List α}, (∀ b ∈ l, r x b = s (f x) (f b)) → (insS r x l).map f = insS s (f x) (l.map f)
  | [], _ => rfl
  | y :: l, h => by
    simp only [insS, List.map_cons]
    rw [← h y (by simp)]
    split
    · rfl
    · rw [List.map_cons, ins_map f x fun b hb => h b (by simp [hb])]
theorem srt_map {α β : Type} {r : α → α → Bool} {s : β → β → Bool} (f : α → β) : ∀ {l : List α}, (∀ a ∈ l, ∀ b ∈ l, r a b = s (f a) (f b)) → (srt r l).map f = srt s (l.map f)
  | [], _ => rfl
  | x :: l, h => by
    show (insS r x (srt r l)).map f = insS s (f x) (srt s (l.map f))
    rw [ins_map f x fun b hb => h x (by simp) b (by simp [(srt_perm r l).mem_iff.mp hb]), srt_map f fun a ha b hb => h a (by simp [ha]) b (by simp [hb])]
theorem dataLe_tot {β : Type} (k : β → PyData) : PySem.W.TotalLe (PySem.W.dataLe false k) := PySem.W.sortLe_total _ _ _
def alikeB (ps : List PyData) : Bool := ps.all fun p => ps.all fun q => PySem.W.alike p q
def tupB : PyData → Bool
  | .tuple (_ :: _) => true
  | _ => false
def notB : PyData → Bool
  | .none => false
  | .tuple _ => false
  | _ => true
def sortableB (ps : List PyData) : Bool := ps.all tupB || ps.all notB
def depthB (ps : List PyData) : Bool := ps.all fun p => decide (p.depth ≤ 60)
def leD (a b : D) : Bool := match a.py, b.py with
  | some p, some q => !PySem.W.dataLt q p
  | _, _ => true
def oSortX (ds : List D) : Option (List D) := match D.pys ds with
  | some ps => if alikeB ps && sortableB ps && depthB ps && decide (ds.length ≤ sizeLine) then some (srt leD ds) else none
  | none => none
def gSortX : En → R → Option (En × R) := fun en r => match r.dT en with
  | some (ks, _) => (match oSortX (ks.map tkeyD) with
    | some es => some (en, .val (.lst (es.map W.sh)))
    | none => none)
  | none => match r.els en with
    | some (en', _, ds) => (match oSortX ds with
      | some es => some (en', .val (.lst (es.map W.sh)))
      | none => none)
    | none => none
theorem alikeB_ok {ps : List PyData} (h : alikeB ps = true) : PySem.W.AllAlike ps := fun d hd e he => by
  unfold alikeB at h
  rw [List.all_eq_true] at h
  have := h d hd
  rw [List.all_eq_true] at this
  exact this e he
theorem sortableB_ok {ps : List PyData} (h : sortableB ps = true) : PySem.W.Sortable ps := by
  unfold sortableB at h
  rw [Bool.or_eq_true, List.all_eq_true, List.all_eq_true] at h
  rcases h with h | h
  · refine .inl fun d hd => ?_
    have := h d hd
    unfold tupB at this
    split at this
    · exact ⟨_, _, rfl⟩
    · cases this
  · refine .inr fun d hd => ?_
    have := h d hd
    unfold notB at this
    refine ⟨fun e => by subst e; simp at this, fun xs e => by subst e; simp at this⟩
theorem depthB_ok {ps : List PyData} (h : depthB ps = true) : ∀ d ∈ ps, d.depth ≤ 60 := fun d hd => by
  unfold depthB at h
  rw [List.all_eq_true] at h
  simpa using h d hd
theorem oSortX_ok {ds es : List D} (h : oSortX ds = some es) : ∃ ps, D.pys ds = some ps ∧ PySem.W.AllAlike ps ∧ PySem.W.Sortable ps ∧ (∀ d ∈ ps, d.depth ≤ 60) ∧ ds.length ≤ sizeLine ∧ es = srt leD ds := by
  unfold oSortX at h
  split at h
  · rename_i ps e
    split at h
    · rename_i hc
      cases h
      simp only [Bool.and_eq_true, decide_eq_true_eq] at hc
      exact ⟨ps, e, alikeB_ok hc.1.1.1, sortableB_ok hc.1.1.2, depthB_ok hc.1.2, hc.2, rfl⟩
    · cases h
  · cases h
theorem pys_get : ∀ {ds : List D} {ps : List PyData} {vs : List V}, D.pys ds = some ps → ds.length = vs.length → vs.zip ps = (vs.zip ds).map (fun b => (b.1, (b.2.py).getD .none)) ∧ ∀ b ∈ vs.zip ds, ∃ p, b.2.py = some p
  | [], ps, vs, e, hl => by
    simp only [D.pys, Option.some.injEq] at e
    subst e
    simp
  | d :: ds, ps, [], e, hl => by simp at hl
  | d :: ds, ps, v :: vs, e, hl => by
    simp only [D.pys] at e
    split at e
    · rename_i p ps' e1 e2
      cases e
      obtain ⟨h1, h2⟩ := pys_get e2 (by simpa using hl : ds.length = vs.length)
      refine ⟨by simp [h1, e1], fun b hb => ?_⟩
      simp only [List.zip_cons_cons, List.mem_cons] at hb
      rcases hb with rfl | hb
      · exact ⟨p, e1⟩
      · exact h2 b hb
    · cases e
section
variable {K : PySem.W.Frag} {mg : Str → Option Value}
theorem reps_zip {F : Hp} : ∀ {ds : List D} {vs : List V}, Reps K mg F ds vs → ∀ b ∈ vs.zip ds, Rep K mg F b.2 b.1
  | [], [], _, b, hb => by simp at hb
  | d :: ds, v :: vs, h, b, hb => by
    simp only [Reps] at h
    simp only [List.zip_cons_cons, List.mem_cons] at hb
    rcases hb with rfl | hb
    · exact h.1
    · exact reps_zip h.2 b hb
  | [], _ :: _, h, _, _ => by simp only [Reps] at h
  | _ :: _, [], h, _, _ => by simp only [Reps] at h
theorem reps_of {F : Hp} : ∀ {U : List (V × D)}, (∀ b ∈ U, Rep K mg F b.2 b.1) → Reps K mg F (U.map (·.2)) (U.map (·.1))
  | [], _ => by simp [Reps]
  | u :: U, h => by
    simp only [List.map_cons, Reps]
    exact ⟨h u (by simp), reps_of fun b hb => h b (by simp [hb])⟩
/-- the items in their order, beside what they are -/
theorem sorted_reps {F : Hp} {ds : List D} {vs : List V} {ps : List PyData} (h : Reps K mg F ds vs) (e : D.pys ds = some ps) : Reps K mg F (srt leD ds) (sortedV vs ps) := by
  have hl := h.len
  obtain ⟨z1, z2⟩ := pys_get e hl
  have q1 : (srt (fun a b => leD a.2 b.2) (vs.zip ds)).map (fun b => (b.1, (b.2.py).getD .none)) = (vs.zip ps).mergeSort (PySem.W.dataLe false Prod.snd) := by
    rw [ms_srt (dataLe_tot _), z1]
    refine srt_map (fun b : V × D => (b.1, (b.2.py).getD .none)) fun a ha b hb => ?_
    obtain ⟨p, hp⟩ := z2 a ha
    obtain ⟨p', hp'⟩ := z2 b hb
    simp only [leD, hp, hp', PySem.W.dataLe_eq, Option.getD_some, cond_false]
  have q2 : (srt (fun a b => leD a.2 b.2) (vs.zip ds)).map (·.2) = srt leD ds := by
    have e2 : (vs.zip ds).map (·.2) = ds := zip_snd hl.symm
    have := srt_map (r := fun a b : V × D => leD a.2 b.2) (s := leD) (fun b : V × D => b.2) (l := vs.zip ds) fun a _ b _ => rfl
    rw [this, e2]
  unfold sortedV
  rw [← q1, ← q2, List.map_map]
  refine reps_of fun b hb => reps_zip h b ?_
  exact (srt_perm _ _).mem_iff.mp hb
theorem u_sortX : OpU K mg (fun xs H Q => rSortedL K xs H Q ∨ rSortedDT K xs H Q) gSortX := by
  intro F H σ en L r v Lr en' r' st h nd e Q q
  unfold gSortX at e
  split at e
  · rename_i ks ds e1
    split at e
    · rename_i es e2
      cases e
      obtain ⟨a, kws, rfl, ha, hk, hr⟩ := h.dT st e1
      obtain ⟨ps, p1, p2, p3, p4, p5, rfl⟩ := oSortX_ok e2
      rw [map_tkey hk] at p1 p5 q
      refine .inr ⟨a, kws, ps, rfl, ha, fun bs kb => Reps.dp (mg := mg) (keys_reps kb) p1, p2, p3, p4, by simpa using p5, fun p bs hp kb => ?_⟩
      obtain ⟨F1, st1, x1, r1⟩ := keys_frozen kb st
      obtain ⟨z1, z2, z3, z4⟩ := lay_list st1 hp (owns_sh (sorted_reps r1 p1)) (by simpa using st1.nd)
      exact q _ _ _ _ _ z1 z2 z3 ((x1.mem (fun a h => by simp [h]) fun a h => h).trans (z4.mem (fun a h => by simpa using h) fun a h => h))
    · cases e
  · split at e
    · rename_i en1 k ds e1
      split at e
      · rename_i es e2
        cases e
        obtain ⟨F1, L1, st1, ⟨a, vs, rfl, ⟨s1, s2⟩, rp⟩, x1⟩ := h.els st nd e1
        obtain ⟨ps, p1, p2, p3, p4, p5, rfl⟩ := oSortX_ok e2
        refine .inl ⟨a, vs, ps, rfl, s1.any, Reps.dp (rp.mono st1.sub) p1, p2, p3, p4, by rw [← rp.len]; exact p5, fun p hp => ?_⟩
        obtain ⟨z1, z2, z3, z4⟩ := lay_list st1 hp (owns_sh (sorted_reps rp p1)) (by simpa using st1.nd)
        exact q _ _ _ _ _ z1 z2 z3 (x1.trans (z4.mem (fun a h => by simpa using h) fun a h => h))
      · cases e
    · cases e
/-- list(d) -/
def gListT : En → R → Option (En × R) := fun en r => match r.dT en with
  | some (ks, _) => some (en, .val (.lst ((ks.map tkeyD).map W.sh)))
  | none => none
def rListT : List V → Hp → VK → Prop := fun xs H Q => ∃ d kvs, xs = [V.ref d] ∧ Rd H d (.dT kvs) ∧ ∀ p bs, H p = none → IsKeys H kvs bs → Q (.ref p) (upd H p (.lst (bs.map V.ref)))
theorem u_listT : OpU K mg rListT gListT := by
  intro F H σ en L r v Lr en' r' st h nd e Q q
  unfold gListT at e
  split at e
  · rename_i ks ds e1
    cases e
    obtain ⟨a, kws, rfl, ha, hk, hr⟩ := h.dT st e1
    rw [map_tkey hk] at q
    refine ⟨a, kws, rfl, ha, fun p bs hp kb => ?_⟩
    obtain ⟨F1, st1, x1, r1⟩ := keys_frozen kb st
    obtain ⟨z1, z2, z3, z4⟩ := lay_list st1 hp (owns_sh r1) (by simpa using st1.nd)
    exact q _ _ _ _ _ z1 z2 z3 ((x1.mem (fun a h => by simp [h]) fun a h => h).trans (z4.mem (fun a h => by simpa using h) fun a h => h))
  · cases e
end
section
variable {X : Cx} {e : Expr} {f : FE} {p pos : Pos}
def fSortX (f : FE) : FE := fU gSortX f
theorem c_sortX (hu : X.A.units + 65 < cLine) (hc : X.calm = true) (hm : X.mg "sorted" = none) (he : SE X e f) (hg : Gl X "sorted" := by rfl) (hs : starEach [e] X.env = [(false, eval e X.env)] := by rfl) : SE X (.Call (.Name "sorted" p) [e] [] pos) (fSortX f) :=
  se_callB (call_or (cr_sortedL (by omega)) (cr_sortedDT hc (by omega))) (u_sortX) hg hm b_sorted he (by decide) (by decide) hs
def fListT (f : FE) : FE := fU gListT f
theorem c_listT (hc : X.calm = true) (hm : X.mg "list" = none) (he : SE X e f) (hg : Gl X "list" := by rfl) (hs : starEach [e] X.env = [(false, eval e X.env)] := by rfl) : SE X (.Call (.Name "list" p) [e] [] pos) (fListT f) :=
  se_callTy (call_list_dT hc) (u_listT) hg hm b_list he (by decide) (by decide) hs
end
end Pu

/-! Pu22: a dict with tuple keys, walked: it is locked for good. -/
namespace Pu
open PySem PySem.Spec PyProof.Rows L2
def R.lock (en : En) : R → Option (En × List (List Key))
  | .val (.dT ks _) => some (en, ks)
  | .val (.sh (.lT ks _)) => some (en, ks)
  | .pl i p => match en.get i p with
    | some (.dT ks ds) => some (en.put i p (.sh (.lT ks ds)), ks)
    | some (.sh (.lT ks _)) => some (en, ks)
    | _ => none
  | _ => none
section
variable {K : PySem.W.Frag} {mg : Str → Option Value} {σ : L2.St} {F H : Hp} {en en' : En} {L Lr : List Addr}
theorem upd_subN {F : Hp} {a : Addr} {o : HO} (h : F a = none) : Same F (upd F a o) := fun b u e => by
  by_cases hb : b = a
  · subst hb; rw [h] at e; cases e
  · rw [upd_ne hb]; exact e
theorem RR.lock {r : R} {v : V} {ks : List (List Key)} (st : StOk K mg F H σ en L) (h : RR K mg F H σ en L r v Lr) (nd : (L ++ Lr).Nodup) (e : r.lock en = some (en', ks)) :
    ∃ a kws, v = .ref a ∧ kws.map (·.1) = ks ∧ ((∃ od, F a = some (.frz od (.dT kws)) ∧ StOk K mg F H σ en' L) ∨
      (H a = some (.dT kws) ∧ ∀ od, ∃ L', StOk K mg (upd F a (.frz od (.dT kws))) (upd H a (.frz od (.dT kws))) σ en' L' ∧ Ext F H (L ++ Lr) (upd F a (.frz od (.dT kws))) (upd H a (.frz od (.dT kws))) L')) := by
  have upd2 : ∀ {a : Addr} {u : HO}, Same (upd F a u) (upd H a u) := fun {a u} b w e => by
    by_cases hb : b = a
    · subst hb; rw [upd_same] at e ⊢; exact e
    · rw [upd_ne hb] at e ⊢; exact st.sub _ _ e
  have ext : ∀ {a : Addr} {u : HO} {M M' : List Addr}, a ∈ M → (∀ b ∈ M', b ∈ M) → F a = none → Ext F H M (upd F a u) (upd H a u) M' := fun {a u M M'} hm hs hf =>
    ⟨fun b o e n => by rw [upd_ne (fun z => n (by rw [z]; exact hm))]; exact e, fun b e => by
      by_cases hb : b = a
      · subst hb; rw [upd_same]; simp
      · rw [upd_ne hb]; exact e, upd_subN hf, fun b e => by
      by_cases hb : b = a
      · subst hb; exact .inr (.inl hm)
      · rw [upd_ne hb] at e; exact .inl e, fun b hb => .inl (hs b hb)⟩
  cases r with
  | val w =>
    simp only [RR] at h
    unfold R.lock at e
    split at e
    · rename_i ks' ds' h0
      cases h0
      cases e
      simp only [Own] at h
      obtain ⟨a, kws, rfl, h1, h2, rfl, h3, h4⟩ := h
      refine ⟨a, kws, rfl, h3, .inr ⟨h1, fun od => ⟨L, ⟨upd2, st.nd, st.own.stay ⟨upd_subN h2, fun b hb => ?_, fun b hb => ?_⟩⟩, ext (by simp) (fun b hb => by simp [hb]) h2⟩⟩⟩
      · have hb' : b ≠ a := fun z => (nd_app nd).2.2 b hb (by simp [z])
        rw [upd_ne hb']; exact (st.cell b hb).2
      · have hb' : b ≠ a := fun z => (nd_app nd).2.2 b hb (by simp [z])
        rw [upd_ne hb']
    · rename_i ks' ds' h0
      cases h0
      cases e
      simp only [Own, Rep] at h
      obtain ⟨⟨a, od, kws, rfl, h1, h2, h3⟩, _⟩ := h
      exact ⟨a, kws, rfl, h2, .inl ⟨od, h1, st⟩⟩
    · rename_i h0; cases h0
    · cases e
  | pl i p =>
    obtain ⟨rfl, w, La, Lm, Lb, P⟩ := RR.part st h
    have g := P.1
    simp only [R.lock, g] at e
    split at e
    · rename_i ks' ds' h0
      cases h0
      cases e
      have o := P.2.2.1
      simp only [Own] at o
      obtain ⟨a, kws, rfl, h1, h2, rfl, h3, h4⟩ := o
      have eL := P.2.1
      have n3 := nodup3 (by rw [← eL]; exact st.nd : (La ++ ([a] ++ Lb)).Nodup)
      have hne : ∀ b ∈ La ++ Lb, b ≠ a := fun b hb z => n3.2 b hb (by simp [z])
      have cl : ∀ b ∈ La ++ Lb, F b = none := fun b hb => (st.cell b (by rw [eL]; simp only [List.mem_append] at hb ⊢; rcases hb with z | z <;> simp [z])).2
      refine ⟨a, kws, rfl, h3, .inr ⟨h1, fun od => ⟨La ++ ([] ++ Lb), ⟨upd2, by simpa using n3.1, P.2.2.2 _ _ _ _ ⟨upd_subN h2, fun b hb => ?_, fun b hb => upd_ne (hne b hb)⟩ ?_⟩, ext (by rw [eL]; simp) (fun b hb => ?_) h2⟩⟩⟩
      · rw [upd_ne (hne b hb)]; exact cl b hb
      · simp only [Own, Rep, and_true]
        exact ⟨a, od, kws, rfl, upd_same, h3, h4.mono (upd_subN h2)⟩
      · rw [eL]
        simp only [List.nil_append, List.mem_append] at hb ⊢
        rcases hb with z | z <;> simp [z]
    · rename_i ks' ds' h0
      cases h0
      cases e
      have o := P.2.2.1
      simp only [Own, Rep] at o
      obtain ⟨⟨a, od, kws, rfl, h1, h2, h3⟩, _⟩ := o
      exact ⟨a, kws, rfl, h2, .inl ⟨od, h1, st⟩⟩
    · cases e
theorem iter_keysT {F : Hp} {d : Addr} {od : Obj} {kws : List (List Key × V)} {ks : List (List Key)} (h : F d = some (.frz od (.dT kws))) (hk : kws.map (·.1) = ks) : IterOk K mg F (Itkt d od kws) (ks.map tkeyD) := by
  subst hk
  intro i H s
  refine ⟨fun hi => ⟨s _ _ h, by simpa using hi⟩, fun x hx => ⟨⟨s _ _ h, ?_⟩, fun y H' hy => ?_⟩⟩
  · have := (List.getElem?_eq_some_iff.mp hx).1
    simpa using this
  · obtain ⟨rfl, k, v, q, h1, rfl, h2⟩ := hy
    simp only [List.map_map, List.getElem?_map, h1, Option.map_some, Function.comp_apply, Option.some.injEq] at hx
    subst hx
    exact .inr (.inr ⟨q, _, h2, rfl, rep_tkeyD upd_same⟩)
end
def iKeys (f : FE) : FI := fun en => match f en with
  | none => none
  | some (en1, r) => match r.lock en1 with
    | none => none
    | some (en2, ks) => some (en2, ks.map tkeyD)
section
variable {X : Cx} {tg e : Expr} {f : FE}
theorem si_keys (he : SE X e f) : SI X tg e (iKeys f) := by
  refine ⟨fun pins s σ H R I h => ?_⟩
  obtain ⟨F, en, L, en', ds, st, e0, k⟩ := h
  unfold iKeys at e0
  split at e0
  · cases e0
  rename_i en1 r e1
  split at e0
  · cases e0
  rename_i en2 ks e2
  cases e0
  refine thn (he.run pins s σ H (fun v H1 => ∃ F1 L1 Lr, StOk X.K X.mg F1 H1 σ en1 L1 ∧ RR X.K X.mg F1 H1 σ en1 L1 r v Lr ∧ (L1 ++ Lr).Nodup ∧ Ext F H L F1 H1 (L1 ++ Lr)) I ⟨F, en, L, en1, r, st, e1, fun v F1 H1 L1 Lr a b c d => ⟨F1, L1, Lr, a, b, c, d⟩⟩) fun u s1 ⟨x, H1, I1, rx, F1, L1, Lr, st1, rr, nd, x1⟩ => ?_
  obtain ⟨a, kws, rfl, hk, z⟩ := rr.lock st1 nd e2
  obtain rfl : u = Value.ref a := rx
  rcases z with ⟨od, hf, st2⟩ | ⟨ha, z⟩
  · have hd := st1.sub _ _ hf
    obtain ⟨hs, hgd, hx, es, ep, hdt, hsz, ent⟩ := I1.frzT hd
    refine iter_keys hs hgd hx hdt (pi_one (tk := s1.toks) I1 _ (turn_keysT _ hdt) ⟨_, Heap.get?_push_size _ rfl, rfl, ?_⟩ (k _ F1 H1 L1 st2 (drop_temp x1) (iter_keysT hf hk)))
    rw [hsz] <;> rfl
  · obtain ⟨od, I2⟩ := I1.lock ha (by simp [Mut])
    obtain ⟨L', st2, x2⟩ := z od
    have hd : upd H1 a (.frz od (.dT kws)) a = some (.frz od (.dT kws)) := upd_same
    obtain ⟨hs, hgd, hx, es, ep, hdt, hsz, ent⟩ := I2.frzT hd
    refine iter_keys hs hgd hx hdt (pi_one (tk := s1.toks) I2 _ (turn_keysT _ hdt) ⟨_, Heap.get?_push_size _ rfl, rfl, ?_⟩ (k _ _ _ L' st2 (x1.trans x2) (iter_keysT upd_same hk)))
    rw [hsz] <;> rfl
def iOr (f g : FI) : FI := fun en => match f en with
  | some x => some x
  | none => g en
theorem si_or {f g : FI} (h1 : SI X tg e f) (h2 : SI X tg e g) : SI X tg e (iOr f g) := pi_imp (pi_or2 h1 h2) fun σ H R q => by
  obtain ⟨F, en, L, en', ds, st, e0, k⟩ := q
  unfold iOr at e0
  split at e0
  · rename_i e1
    cases e0
    exact .inl ⟨F, en, L, en', ds, st, e1, k⟩
  · exact .inr ⟨F, en, L, en', ds, st, e0, k⟩
end
end Pu

/-! Pu23: dict([(key, value)]), the key a tuple. -/
namespace Pu
open PySem PySem.Spec PyProof.Rows L2
def rDict1T (K : PySem.W.Frag) : List V → Hp → VK → Prop := fun xs H Q => ∃ (a p b : Addr) (k : List Key) (v : V), xs = [.ref a] ∧ SqL K H a [V.ref p] ∧ SqT K H p [V.ref b, v] ∧ H b = some (.tup (k.map kV)) ∧ ∀ d, H d = none → Q (.ref d) (upd H d (.dT [(k, v)]))
section
variable {X : Cx}
theorem call_dict1T (hc : X.calm = true) (hu : X.A.units + 65 < cLine) : CallR X (.type "dict") (rDict1T X.K) := by
  intro pins s σ H vs us Q I r h
  obtain ⟨a, p, b, k, v, rfl, hs, ht, hb, q⟩ := h
  obtain ⟨u, rfl, ru⟩ := vals1 r
  obtain rfl : u = Value.ref a := ru
  obtain ⟨its, rv, pl, hz⟩ := I.list hs
  obtain ⟨u1, rfl, ru1⟩ := vals1 rv
  obtain rfl : u1 = Value.ref p := ru1
  obtain ⟨o, n, ho, hcl, hd, hdat⟩ := pl
  obtain ⟨its2, rv2, tp, hz2⟩ := I.tuple ht
  obtain ⟨ub, y, rfl, rub, ry⟩ := vals2 rv2
  obtain rfl : ub = Value.ref b := rub
  have hk := key_of (P := X.prog) (w := X.w) I.hok hb
  have hkeep : ∀ h' : Heap, (∀ c o, s.heap.get? c = some o → h'.get? c = some o) → (tupleKind (mixKind X.prog X.w)).is h' k b := fun h' kp => by
    have I' : Inv X pins σ H { s with heap := h' } := I.kept (t' := s.toks) kp
    exact key_of (P := X.prog) (w := X.w) I'.hok hb
  have items : PairItems s.heap [Value.ref p].toArray (fun _ => p) [(Value.ref b, y)] := by
    refine ⟨rfl, fun j k' v' e => ?_⟩
    have hj : j = 0 := by
      have := (List.getElem?_eq_some_iff.mp e).1
      simpa using this
    subst hj
    simp only [List.getElem?_cons_zero, Option.some.injEq, Prod.mk.injEq] at e
    obtain ⟨rfl, rfl⟩ := e
    exact ⟨rfl, .inl tp⟩
  refine call_dict_pairsH (knd := tupleKind (mixKind X.prog X.w)) (ps := [(k, b, y)]) (PairArg.list a [Value.ref p].toArray (fun _ => p) [(Value.ref b, y)]) (I.ok.hd hc) (tupleKind_room_in1 (A := X.A.in1) (by show X.A.units + 1 + 1 < cLine; omega))
    ⟨⟨o, n, ho, hcl, hd, hdat⟩, items⟩ ⟨rfl, fun i key v' e => ?_⟩ (fun h' kp x hx => ?_) (by simp [sizeLine_eq]) fun h' tk hd' kp => ?_
  · have hj : i = 0 := by
      have := (List.getElem?_eq_some_iff.mp e).1
      simpa using this
    subst hj
    simp only [PairRel, List.getElem?_cons_zero, Option.some.injEq, Prod.mk.injEq] at e
    obtain ⟨rfl, rfl⟩ := e
    exact ⟨k, b, rfl, rfl⟩
  · simp only [List.mem_singleton] at hx
    subst hx
    exact hkeep h' fun c o e => kp c o (Nat.ne_of_lt (Heap.lt_size e)) (by simp) e
  · have hm : (s.heap.objs.size == sysModules) = false := beq_eq_false_iff_ne.mpr (Nat.ne_of_gt I.big)
    have kp' : ∀ c o, s.heap.get? c = some o → h'.get? c = some o := fun c o e => kp c o (by simp) e
    have e1 : storedAllH ([] : List (List Key × Addr × Value)) [(k, b, y)] = [(k, b, y)] := by
      simp [storedAllH, storedH, atKey]
    rw [e1] at hd'
    obtain ⟨q', es, ep, h1, h2, h3, h4, _, h5⟩ := hd'
    refine ⟨.ref s.heap.objs.size, upd H s.heap.objs.size (.dT [(k, v)]), I.laid (t' := tk) kp' (Nat.le_refl _) ⟨by simp [sizeLine_eq], hm, [(k, b, y)], .cons ⟨rfl, ?_, ry⟩ .nil, q', es, ep, h1, h2, h3, h4, h5⟩, rfl, q _ (I.hok.fresh (Nat.le_refl _))⟩
    have hne : b ≠ s.heap.objs.size := fun z => by
      have := I.hok.fresh (Nat.le_refl s.heap.objs.size)
      rw [z, this] at hb
      cases hb
    show upd H s.heap.objs.size _ b = _
    rw [upd_ne hne]
    exact hb
end
def gDict1T : En → R → Option (En × R) := fun en r => match r.els en with
  | some (en', k, [.tup [kd, d]]) => if k = .t then none else match kd.tkey with
    | some ks => some (en', .val (.dT [ks] [d]))
    | none => none
  | _ => none
section
variable {K : PySem.W.Frag} {mg : Str → Option Value}
theorem u_dict1T : OpU K mg (rDict1T K) gDict1T := by
  intro F H σ en L r v Lr en' r' st h nd e Q q
  unfold gDict1T at e
  split at e
  · rename_i en1 k kd d e1
    split at e
    · cases e
    rename_i hk
    split at e
    · rename_i ks ek
      cases e
      obtain ⟨F1, L1, st1, ⟨a, vs, rfl, ⟨s1, s2⟩, rp⟩, x1⟩ := h.els st nd e1
      obtain ⟨v0, rfl, r0⟩ := reps1 rp
      simp only [Rep] at r0
      obtain ⟨p, us, rfl, t1, t2⟩ := r0
      obtain ⟨vb, y, rfl, r2, r3⟩ := reps2 t2
      obtain ⟨b, rfl, hb⟩ := rep_tkey r2 ek
      refine ⟨a, p, b, ks, y, rfl, s1.lst hk, seqT st1.sub t1.1, st1.sub _ _ hb, fun dd hd => ?_⟩
      obtain ⟨z1, z2⟩ := lay_owned (o := .dT [(ks, y)]) st1 hd
      have own : Own K mg F1 (upd H dd (.dT [(ks, y)])) (.dT [ks] [d]) (.ref dd) [dd] := by
        simp only [Own]
        exact ⟨dd, [(ks, y)], rfl, upd_same, sub_none st1.sub hd, rfl, rfl, by simpa [Reps] using r3⟩
      refine q _ _ _ _ [dd] z1 own ?_ (x1.trans z2)
      refine nd_of st1.nd (by simp) fun c hc hc' => ?_
      simp only [List.mem_singleton] at hc'
      subst hc'
      exact (st1.cell c hc).1.1 hd
    · cases e
  · cases e
end
section
variable {X : Cx} {e : Expr} {f : FE} {p pos : Pos}
def fDict1T (f : FE) : FE := fU gDict1T f
theorem c_dict1T (hu : X.A.units + 65 < cLine) (hc : X.calm = true) (hm : X.mg "dict" = none) (he : SE X e f) (hg : Gl X "dict" := by rfl) (hs : starEach [e] X.env = [(false, eval e X.env)] := by rfl) : SE X (.Call (.Name "dict" p) [e] [] pos) (fDict1T f) :=
  se_callTy (call_dict1T hc hu) (u_dict1T) hg hm b_dict he (by decide) (by decide) hs
end
end Pu

/-! Pu24: constants of the module. -/
namespace Pu
open PySem PySem.Spec PyProof.Rows L2
def Tup0 (K : PySem.W.Frag) (a : Addr) : Prop := ∃ od n sl, K.lookup a = some ⟨.type "tuple", od, .seq #[] n, sl⟩
theorem tup0_mk {K : PySem.W.Frag} {a : Addr} {od : Option Addr} {n : Nat} {sl : Array (Option Value)} (h : K.lookup a = some ⟨.type "tuple", od, .seq #[] n, sl⟩) : Tup0 K a := ⟨_, _, _, h⟩
section
variable {X : Cx} {x : Str} {pos : Pos}
theorem se_globI {i : Int} (hg : Gl X x) (hm : ∃ t, X.mg x = some (.int i t)) (hd : (x == ("__debug__" : Str)) = false := by decide) : SE X (.Name x pos) (fC (.int i)) := by
  obtain ⟨t, hm⟩ := hm
  exact se_of_tC (pe_glob (v := .int i) hg hm ⟨t, rfl⟩ hd) fun _ => rep_v rfl
theorem se_globS {i : Str} (hg : Gl X x) (hm : ∃ t, X.mg x = some (.str i t)) (hd : (x == ("__debug__" : Str)) = false := by decide) : SE X (.Name x pos) (fC (.str i)) := by
  obtain ⟨t, hm⟩ := hm
  exact se_of_tC (pe_glob (v := .str i) hg hm ⟨t, rfl⟩ hd) fun _ => rep_v rfl
theorem se_glob0 (hg : Gl X x) (hm : ∃ a, X.mg x = some (.ref a) ∧ Tup0 X.K a) (hd : (x == ("__debug__" : Str)) = false := by decide) : SE X (.Name x pos) (fC (.tup [])) := by
  obtain ⟨a, hm, od, n, sl, hl⟩ := hm
  refine se_of_tC (pe_glob (v := .ref a) hg hm rfl hd) fun F => ?_
  simp only [Rep]
  exact ⟨a, [], rfl, ⟨.inr ⟨_, #[], n, hl, rfl, rfl, by simp, .nil⟩, .inr ⟨rfl, _, #[], n, hl, rfl, rfl, by simp, .nil⟩⟩, by simp only [Reps]⟩
end
end Pu

/-! Pu25: calls that only look at what they are given: everything that is there is frozen for them, and what they tell has no list, dict or object of the caller in it. -/
namespace Pu
open PySem PySem.Spec PyProof.Rows L2
mutual
def D.tdat : D → Bool
  | .non => true
  | .bl _ => true
  | .int _ => true
  | .str _ => true
  | .tup ds => D.tdats ds
  | _ => false
def D.tdats : List D → Bool
  | [] => true
  | d :: ds => D.tdat d && D.tdats ds
end
mutual
def W.clean : W → Bool
  | .sh d => d.tdat
  | .lst ws => W.cleans ws
  | _ => false
def W.cleans : List W → Bool
  | [] => true
  | w :: ws => W.clean w && W.cleans ws
end
def keepT (F H F' : Hp) : Hp := fun a => match F a with
  | some o => some o
  | none => match H a with
    | none => F' a
    | some (.tup vs) => some (.tup vs)
    | some _ => none
section
variable {K : PySem.W.Frag} {mg : Str → Option Value} {F H F' H' : Hp}
theorem keepT_sub : Same F (keepT F H F') := fun b u e => by
  unfold keepT; rw [e]
theorem keepT_le (s : Same F H) (s1 : Same H F') : Same (keepT F H F') F' := fun b u e => by
  unfold keepT at e
  split at e
  · rename_i o h
    cases e
    exact s1 _ _ (s _ _ h)
  · split at e
    · exact e
    · rename_i vs h
      cases e
      exact s1 _ _ h
    · cases e
theorem keepT_tup {a : Addr} {vs : List V} (s : Same F H) (s1 : Same H F') (h : F' a = some (.tup vs)) : keepT F H F' a = some (.tup vs) := by
  unfold keepT
  split
  · rename_i o e
    rw [← h]
    exact (s1 _ _ (s _ _ e)).symm
  · split
    · exact h
    · rename_i us e
      rw [← h]
      exact (s1 _ _ e).symm
    · rename_i o n e
      have := s1 _ _ e
      rw [h] at this
      cases this
      exact absurd rfl (n vs)
theorem keepT_none {a : Addr} (s : Same F H) (s1 : Same H F') (h : F' a = none) : keepT F H F' a = none := by
  cases q : keepT F H F' a with
  | none => rfl
  | some o =>
    have := keepT_le s s1 _ _ q
    rw [h] at this
    cases this
mutual
theorem Rep.keepT (s : Same F H) (s1 : Same H F') : ∀ {d : D} {v : V}, d.tdat = true → Rep K mg F' d v → Rep K mg (keepT F H F') d v
  | .non, v, _, h => by simpa only [Rep] using h
  | .bl _, v, _, h => by simpa only [Rep] using h
  | .int _, v, _, h => by simpa only [Rep] using h
  | .str _, v, _, h => by simpa only [Rep] using h
  | .tup ds, v, c, h => by
    simp only [D.tdat] at c
    simp only [Rep] at h ⊢
    obtain ⟨a, vs, rfl, h1, h2⟩ := h
    refine ⟨a, vs, rfl, ?_, Reps.keepT s s1 c h2⟩
    rcases h1.2 with z | ⟨rfl, z⟩
    · exact .of (keepT_tup s s1 z)
    · exact ⟨.inr z, .inr ⟨rfl, z⟩⟩
  | .any, v, c, h => by simp [D.tdat] at c
  | .lst _, v, c, h => by simp [D.tdat] at c
  | .frl _, v, c, h => by simp [D.tdat] at c
  | .dT _ _, v, c, h => by simp [D.tdat] at c
  | .dK _ _, v, c, h => by simp [D.tdat] at c
  | .lT _ _, v, c, h => by simp [D.tdat] at c
  | .ins _ _, v, c, h => by simp [D.tdat] at c
theorem Reps.keepT (s : Same F H) (s1 : Same H F') : ∀ {ds : List D} {vs : List V}, D.tdats ds = true → Reps K mg F' ds vs → Reps K mg (keepT F H F') ds vs
  | [], [], _, _ => by simp only [Reps]
  | d :: ds, v :: vs, c, h => by
    simp only [D.tdats, Bool.and_eq_true] at c
    simp only [Reps] at h ⊢
    exact ⟨Rep.keepT s s1 c.1 h.1, Reps.keepT s s1 c.2 h.2⟩
  | [], _ :: _, _, h => by simp only [Reps] at h
  | _ :: _, [], _, h => by simp only [Reps] at h
end
mutual
theorem Own.keepT (s : Same F H) (s1 : Same H F') : ∀ {w : W} {v : V} {L : List Addr}, w.clean = true → Own K mg F' H' w v L → Own K mg (keepT F H F') H' w v L
  | .sh d, v, L, c, h => by
    simp only [W.clean] at c
    simp only [Own] at h ⊢
    exact ⟨h.1.keepT s s1 c, h.2⟩
  | .lst ws, v, L, c, h => by
    simp only [W.clean] at c
    simp only [Own] at h ⊢
    obtain ⟨a, vs, L', h1, h2, h3, h4, h5⟩ := h
    exact ⟨a, vs, L', h1, h2, keepT_none s s1 h3, h4, Owns.keepT s s1 c h5⟩
  | .dT _ _, v, L, c, h => by simp [W.clean] at c
  | .dK _ _, v, L, c, h => by simp [W.clean] at c
  | .ins _ _, v, L, c, h => by simp [W.clean] at c
theorem Owns.keepT (s : Same F H) (s1 : Same H F') : ∀ {ws : List W} {vs : List V} {L : List Addr}, W.cleans ws = true → Owns K mg F' H' ws vs L → Owns K mg (keepT F H F') H' ws vs L
  | [], [], L, _, h => by simpa only [Owns] using h
  | w :: ws, v :: vs, L, c, h => by
    simp only [W.cleans, Bool.and_eq_true] at c
    simp only [Owns] at h ⊢
    obtain ⟨L1, L2, e, h1, h2⟩ := h
    exact ⟨L1, L2, e, h1.keepT s s1 c.1, Owns.keepT s s1 c.2 h2⟩
  | [], _ :: _, _, _, h => by simp only [Owns] at h
  | _ :: _, [], _, _, h => by simp only [Owns] at h
end
/-- a call that looks at vs alone -/
theorem callP_from {σ : L2.St} {en : En} {L Lr : List Addr} {ds : List D} {us : List V} {w : W} {ws' : List W} {g : PF} {Q : VK} {E : XK} (st : StOk K mg F H σ en L) (rp : Reps K mg H ds us) (eg : g (ds.map W.sh) = some (w, ws')) (hc : w.clean = true)
    (q : ∀ v F' H' Lr', StOk K mg F' H' σ en L → RR K mg F' H' σ en L (.val w) v Lr' → (L ++ Lr').Nodup → Ext F H (L ++ Lr) F' H' (L ++ Lr') → Q v H') : spP K mg g us H Q E := by
  refine ⟨H, ds.map W.sh, [], Same.refl H, by simp, owns_sh rp, w, ws', eg, fun v F' H' L' s' nd' ow' x => ?_⟩
  simp only [Owns] at ow'
  obtain ⟨Lw, La, rfl, o1, o2⟩ := ow'
  have hn : ∀ b ∈ Lw, H b = none := fun b hb => (x.newL b (by simp [hb])).elim (fun z => by cases z) id
  have sub := keepT_le st.sub x.sub
  have out : ∀ b ∈ L, keepT F H F' b = none := fun b hb => by
    obtain ⟨h1, h2⟩ := st.cell b hb
    unfold keepT
    rw [h2]
    cases e : H b with
    | none => exact absurd e h1.1
    | some o =>
      cases o
      case tup vs => exact absurd e (h1.2 vs)
      all_goals rfl
  refine q v (keepT F H F') H' Lw ⟨sub.trans s', st.nd, st.own.stay ⟨keepT_sub, out, fun b hb => ?_⟩⟩ (by simp only [RR]; exact o1.keepT st.sub x.sub hc) (nd_of st.nd (nd_app nd').1 fun b hb hb' => ?_) ⟨fun a o e _ => x.kept a o e (by simp), x.there, keepT_sub, fun a e => ?_, fun a ha => ?_⟩
  · obtain ⟨h1, _⟩ := st.cell b hb
    cases e : H b with
    | none => exact absurd e h1.1
    | some o => exact x.kept b o e (by simp)
  · exact (st.cell b hb).1.1 (hn b hb')
  · unfold keepT at e
    split at e
    · rename_i o h; exact .inl (by rw [h]; simp)
    · split at e
      · rename_i h; exact .inr (.inr (.inl h))
      · rename_i vs h; exact .inr (.inr (.inr ⟨vs, h⟩))
      · exact absurd rfl e
  · rcases List.mem_append.mp ha with z | z
    · exact .inl (by simp [z])
    · exact .inr (hn a z)
end
def fCallP (g : PF) (fs : List FE) : FE := fun en => match evs fs en with
  | none => none
  | some (en1, rs) => match rds en1 rs with
    | none => none
    | some ds => match g (ds.map W.sh) with
      | none => none
      | some (w, _) => if w.clean then some (en1, .val w) else none
def fCallKP (g : PF) (is : List Nat) (m : Nat) (fs : List FE) : FE := fun en => match evs fs en with
  | none => none
  | some (en1, rs) => match rds en1 rs with
    | none => none
    | some ds => if ds.length = m then (match g ((pick is ds).map W.sh) with
      | none => none
      | some (w, _) => if w.clean then some (en1, .val w) else none) else none
section
variable {X : Cx}
theorem callP_behind {g : PF} {fs : List FE} {σ : L2.St} {H : Hp} {Q : VK} {E : XK} (h : tS X.K X.mg (fCallP g fs) σ H Q) : tEv X.K X.mg fs σ H fun vs H' => spP X.K X.mg g vs H' Q E := by
  obtain ⟨F, en, L, en', rr, st, ef, k⟩ := h
  unfold fCallP at ef
  split at ef
  · cases ef
  rename_i en1 rs e1
  split at ef
  · cases ef
  rename_i ds e2
  split at ef
  · cases ef
  rename_i w ws' e3
  split at ef
  · rename_i hc
    cases ef
    refine ⟨F, en, L, _, rs, st, e1, fun vs F1 H1 L1 Lr1 st1 rr1 nd1 x1 => ?_⟩
    exact callP_from (Lr := Lr1) st1 (rr1.peek st1 e2) e3 hc fun v F' H' Lr' a b c d => k v F' H' L1 Lr' a b c (x1.trans d)
  · cases ef
variable {k : Nat} {f : Addr} {fd : FuncData} {ps ks : List Str} {x : Str} {p pos : Pos} {e : Expr} {es : List Expr} {kws : List Keyword} {fs gs : List FE} {g : PF} {is : List Nat} {n m : Nat} {E : XK}
theorem se_callP (G : FnOk X.prog X.w X.K X.mg X.base CX0 k f fd ps (spP X.K X.mg g)) (hr : Room k X.A) (hg : Gl X x) (hm : X.mg x = some (.ref f)) (hk : PySem.W.keepIn X.K (.ref f) = true) (hb : Binds X.K fd ps []) (ha : SA X (e :: es) fs)
    (hdb : (x == ("__debug__" : Str)) = false := by decide) (he : starEach (e :: es) X.env = (false, eval e X.env) :: starEach es X.env := by rfl) (hpl : (backTo pos (starEach es X.env)).any (·.1) = false := by rfl) : SE X (.Call (.Name x p) (e :: es) [] pos) (fCallP g fs) :=
  pe_imp (pe_call G hr hg hm hk hb .nil pass0 ha hdb he hpl) fun σ H Q q => by
    have z := callP_behind (E := E0) q
    unfold tCall
    simpa only [List.append_nil] using z
theorem callKP_behind (hi : ∀ i ∈ is, i < m) {σ : L2.St} {H : Hp} {Q : VK} (h : tS X.K X.mg (fCallKP g is m fs) σ H Q) : tEv X.K X.mg fs σ H fun vs H' => vs.length = m ∧ spP X.K X.mg g (pick is vs) H' Q E := by
  obtain ⟨F, en, L, en', rr, st, ef, k⟩ := h
  unfold fCallKP at ef
  split at ef
  · cases ef
  rename_i en1 rs e1
  split at ef
  · cases ef
  rename_i ds e2
  split at ef
  · rename_i hl
    split at ef
    · cases ef
    rename_i w ws' e3
    split at ef
    · rename_i hc
      cases ef
      refine ⟨F, en, L, _, rs, st, e1, fun vs F1 H1 L1 Lr1 st1 rr1 nd1 x1 => ?_⟩
      have rp := rr1.peek st1 e2
      have hl2 : vs.length = m := by rw [← rp.len]; exact hl
      exact ⟨hl2, callP_from (Lr := Lr1) st1 (reps_pick rp fun i z => by rw [hl]; exact hi i z) e3 hc fun v F' H' Lr' a b c d => k v F' H' L1 Lr' a b c (x1.trans d)⟩
    · cases ef
  · cases ef
theorem callKP_two (hi : ∀ i ∈ is, i < m) (hm : fs.length + gs.length = m) {σ : L2.St} {H : Hp} {Q : VK} (h : tS X.K X.mg (fCallKP g is m (fs ++ gs)) σ H Q) :
    tCallN fs.length gs.length (spP X.K X.mg g) (fun vs zs => pick is (vs ++ zs)) E (tL X.K X.mg fs) (tL X.K X.mg gs) σ H Q := by
  have z := tL_len (tL_app (tEv_tL (callKP_behind (E := E) hi h)))
  exact tL_mono z fun vs H1 q => tL_mono (tL_len q.2) fun zs H2 q2 => ⟨q.1, q2.1, q2.2.2⟩
theorem se_callKP (G : FnOk X.prog X.w X.K X.mg X.base CX0 k f fd ps (spP X.K X.mg g)) (hr : Room k X.A) (hg : Gl X x) (hm : X.mg x = some (.ref f)) (hk : PySem.W.keepIn X.K (.ref f) = true) (hb : KBp X.K fd ps fs.length ks is)
    (ha : PA X (e :: es) (tL X.K X.mg fs)) (hkw : SK X kws gs) (hi : ∀ i ∈ is, i < fs.length + gs.length) (hl : ks.length = gs.length)
    (hall : (backToKw pos (keywordEach kws X.env)).all (·.1.isSome) = true := by rfl) (hks : (backToKw pos (keywordEach kws X.env)).filterMap (·.1) = ks := by rfl)
    (hdb : (x == ("__debug__" : Str)) = false := by decide) (he : starEach (e :: es) X.env = (false, eval e X.env) :: starEach es X.env := by rfl)
    (hpl : ((backTo pos (starEach (e :: es) X.env)).any (·.1) || (backToKw pos (keywordEach kws X.env)).any (·.1.isNone)) = false := by rfl) :
    SE X (.Call (.Name x p) (e :: es) kws pos) (fCallKP g is (fs.length + gs.length) (fs ++ gs)) :=
  pe_imp (pe_callN G hr hg hm hk hb pass0 ha hkw hall hks hdb he hpl) fun σ H Q q => by
    rw [hl]
    exact callKP_two hi rfl q
theorem se_callKP0 (G : FnOk X.prog X.w X.K X.mg X.base CX0 k f fd ps (spP X.K X.mg g)) (hr : Room k X.A) (hg : Gl X x) (hm : X.mg x = some (.ref f)) (hk : PySem.W.keepIn X.K (.ref f) = true) (hb : KBp X.K fd ps 0 ks is)
    (hkw : SK X kws gs) (hi : ∀ i ∈ is, i < gs.length) (hl : ks.length = gs.length)
    (hall : (backToKw pos (keywordEach kws X.env)).all (·.1.isSome) = true := by rfl) (hks : (backToKw pos (keywordEach kws X.env)).filterMap (·.1) = ks := by rfl)
    (hdb : (x == ("__debug__" : Str)) = false := by decide) (hpl : ((backTo pos (starEach [] X.env)).any (·.1) || (backToKw pos (keywordEach kws X.env)).any (·.1.isNone)) = false := by rfl) :
    SE X (.Call (.Name x p) [] kws pos) (fCallKP g is gs.length gs) :=
  pe_imp (pe_callN0 (E := E0) G hr hg hm hk hb pass0 hkw hall hks hdb hpl) fun σ H Q q => by
    rw [hl]
    exact callKP_two (fs := []) hi (by simp) q
end
def fMethP (c : Str) (g : PF) (fo : FE) (fs : List FE) : FE := fCallP g (fCk c fo :: fs)
section
variable {X : Cx} {o e : Expr} {es : List Expr} {fo : FE} {fs : List FE} {c m : Str} {C f : Addr} {k : Nat} {g : PF} {pos apos : Pos} {pl : Sem Bool}
theorem se_methP (hC : X.mg c = some (.ref C)) (sc : SlX.SCls X.K C) (hm : Meth X.K C m f) (G : FnR X.prog X.w X.K X.mg X.base CX0 k f (spP X.K X.mg g)) (hr : Room k X.A) (ho : SE X o fo) (ha : SA X (e :: es) fs)
    (hst : starEach (e :: es) X.env = (false, eval e X.env) :: starEach es X.env := by rfl) (hpl : (backTo pos (starEach es X.env)).any (·.1) = false := by rfl)
    (ht : eval (.Call (.Attribute o m apos) (e :: es) [] pos) X.env = (do
      let ov ← eval o X.env
      standAt apos.atName
      let (f, first) ← holding [ov] (getMethod ov m pl)
      callWith pos f first (backTo pos (starEach (e :: es) X.env)) (backToKw pos (keywordEach [] X.env))) := by rfl) : SE X (.Call (.Attribute o m apos) (e :: es) [] pos) (fMethP c g fo fs) :=
  pe_imp (SlX.pe_methSl (pl := pl) ho sc hm G hr pass0 ha hst hpl ht) fun σ H Q q => by
    have z := tS_ck hC (tEv_cons (callP_behind (E := E0) q))
    obtain ⟨F, en, L, en1, r, st, e1, kk⟩ := z
    refine ⟨F, en, L, en1, r, st, e1, fun v F1 H1 L1 Lr st1 rr nd x => ?_⟩
    obtain ⟨a, dx, os, rfl, hs, z2⟩ := kk v F1 H1 L1 Lr st1 rr nd x
    exact ⟨a, dx, os, rfl, hs, z2⟩
theorem se_methP0 (hC : X.mg c = some (.ref C)) (sc : SlX.SCls X.K C) (hm : Meth X.K C m f) (G : FnR X.prog X.w X.K X.mg X.base CX0 k f (spP X.K X.mg g)) (hr : Room k X.A) (ho : SE X o fo)
    (ht : eval (.Call (.Attribute o m apos) [] [] pos) X.env = (do
      let ov ← eval o X.env
      standAt apos.atName
      let (f, first) ← holding [ov] (getMethod ov m pl)
      callWith pos f first (backTo pos (starEach [] X.env)) (backToKw pos (keywordEach [] X.env))) := by rfl) : SE X (.Call (.Attribute o m apos) [] [] pos) (fMethP c g fo []) :=
  pe_imp (SlX.pe_methSl0 (pl := pl) ho sc hm G hr pass0 ht) fun σ H Q q => by
    have z := tS_ck hC (tEv_cons (callP_behind (E := E0) q))
    obtain ⟨F, en, L, en1, r, st, e1, kk⟩ := z
    refine ⟨F, en, L, en1, r, st, e1, fun v F1 H1 L1 Lr st1 rr nd x => ?_⟩
    obtain ⟨a, dx, os, rfl, hs, z2⟩ := kk v F1 H1 L1 Lr st1 rr nd x
    exact ⟨a, dx, os, rfl, hs, tEv_nil z2⟩
end
end Pu

/-! Pu26: xs.extend(t), t a tuple. -/
namespace Pu
open PySem PySem.Spec PyProof.Rows L2
def rExtendT (K : PySem.W.Frag) : V → List V → Hp → VK → Prop := fun x vs H Q => ∃ l b xs zs, x = .ref l ∧ vs = [.ref b] ∧ H l = some (.lst xs) ∧ SqT K H b zs ∧ xs.length + zs.length ≤ sizeLine ∧ Q .non (upd H l (.lst (xs ++ zs)))
theorem mt_extendT {X : Cx} : MtM X "list.extend" (rExtendT X.K) := by
  intro pins s σ H x vs v us Q I rx rv h
  obtain ⟨l, b, xs, zs, rfl, rfl, hH, hB, hz, q⟩ := h
  cases rx
  obtain ⟨u, rfl, ru⟩ := rv.one
  cases ru
  obtain ⟨z, its, n, r, hl, e⟩ := I.lstM hH
  obtain ⟨its2, r2, tp, hz2⟩ := I.tuple hB
  obtain ⟨ob, hb, hbc, n2, hbd⟩ := tp
  have l2 : its2.length = zs.length := r2.length.symm
  have hsz : its.toArray.size + its2.toArray.size ≤ sizeLine := by rw [List.size_toArray, List.size_toArray]; omega
  have hlong : ¬ (!its.toArray.isEmpty && Builtin.List.listTooLong (its.toArray.size + its2.toArray.size)) = true := by
    rw [notLongL hsz, Bool.and_false]
    exact Bool.false_ne_true
  refine wpAny_call_entry F.slot_list_extend ⟨_, e, rfl⟩ F.entry_list_extend ?_ (F.args_list_extend_2 _ _)
  show wpAny _ _ (Builtin.List.listExtendWith (.ref l) (.ref b) .none) _ _ s
  unfold Builtin.List.listExtendWith
  refine wpAny_bind (wpAny_typeOf (T := "tuple") ⟨ob, hb, hbc⟩ ?_)
  have ht : (Value.type "tuple" == Value.type "tuple") = true := by rfl
  rw [if_pos (by rw [ht]; simp)]
  refine wpAny_bind (listItems_at hb hbd ?_)
  refine wpAny_bind (listItems_at e rfl ?_)
  rw [if_neg hlong]
  refine wpAny_bind (listUpdate_at e rfl ?_ (by rw [List.size_toArray]; omega) (by rw [Array.size_append]; omega))
  refine wpAny_pure ⟨_, rfl, .non, _, I.lset (its' := its ++ its2) hH e (by simp) (r.append r2) ?_, rfl, q⟩
  rw [List.length_append]
  omega
def mExtT : FM := fun ws w => match w with
  | .sh (.tup ds) => if ws.length + ds.length ≤ sizeLine then some (ws ++ ds.map W.sh, .sh .non) else none
  | _ => none
def mExt2 : FM := fun ws w => match mExt ws w with
  | some r => some r
  | none => mExtT ws w
section
variable {K : PySem.W.Frag} {mg : Str → Option Value}
theorem mut_extT : MutOk K mg (rExtendT K) mExtT := by
  intro F H a ws w ws' z xs v L' Lw Q e o ow s ha nd na
  unfold mExtT at e
  split at e
  · rename_i ds
    split at e
    · rename_i hl
      cases e
      simp only [Own, Rep] at ow
      obtain ⟨⟨b, ys, rfl, hb, rp⟩, rfl⟩ := ow
      refine ⟨xs ++ ys, .non, L' ++ [], [], o.append (owns_sh rp), own_sh (rep_v rfl), by simpa using nd, fun b hb => by simpa using hb, fun q => ⟨a, b, xs, ys, rfl, rfl, ha, seqT s hb.1, by rw [← o.len, ← rp.len]; exact hl, q⟩⟩
    · cases e
  · cases e
theorem mut_ext2 : MutOk K mg (fun x vs H Q => rExtend x vs H Q ∨ rExtendT K x vs H Q) mExt2 := by
  intro F H a ws w ws' z xs v L' Lw Q e o ow s ha nd na
  unfold mExt2 at e
  split at e
  · rename_i r hr
    cases e
    obtain ⟨xs', y, Ln, Lz, h1, h2, h3, h4, h5⟩ := mut_ext F H a ws w ws' z xs v L' Lw Q hr o ow s ha nd na
    exact ⟨xs', y, Ln, Lz, h1, h2, h3, h4, fun q => .inl (h5 q)⟩
  · obtain ⟨xs', y, Ln, Lz, h1, h2, h3, h4, h5⟩ := mut_extT (mg := mg) F H a ws w ws' z xs v L' Lw Q e o ow s ha nd na
    exact ⟨xs', y, Ln, Lz, h1, h2, h3, h4, fun q => .inr (h5 q)⟩
end
theorem mt_ext2 {X : Cx} : MtM X "list.extend" (fun x vs H Q => rExtend x vs H Q ∨ rExtendT X.K x vs H Q) := fun pins s σ H x vs v us Q I rx rv h => h.elim (mt_extend pins s σ H x vs v us Q I rx rv) (mt_extendT pins s σ H x vs v us Q I rx rv)
section
variable {X : Cx} {o e : Expr} {fe : FE} {i : Nat} {apos cpos : Pos}
theorem se_ext2N (hb : HBase X o "extend") (hf : HFew X [e] cpos) (hl : (apos.endLine == cpos.line) = true) (hs : HStar X e) (ho : PE X o (tVar i)) (he : SE X e fe) : SE X (.Call (.Attribute o "extend" apos) [e] [] cpos) (fMutN i mExt2 fe) :=
  pe_imp (pe_bm PySem.F.plainAttrs_list PySem.F.slot_list_extend PySem.F.type_list_extend mt_ext2 ho (pa_cons he pa_nil hs) hb hf hl hs rfl) fun _ _ _ q => mutN_ok mut_ext2 q
end
end Pu

/-! Pu27: an expression that only looks: everything that is there is frozen for it. -/
namespace Pu
open PySem PySem.Spec PyProof.Rows L2
def frzE (en : En) : En := en.map fun w => .sh w.d
def fPure (f : FE) : FE := fun en => match f (frzE en) with
  | some (_, .val w) => if w.clean then some (en, .val w) else none
  | _ => none
section
variable {K : PySem.W.Frag} {mg : Str → Option Value} {F H : Hp}
theorem frz_own (s : Same F H) : ∀ {en : En} {σ : L2.St} {L : List Addr}, OwnsO K mg F H en σ L → OwnsO K mg H H (frzE en) σ []
  | [], [], L, h => by simp only [frzE, List.map_nil, OwnsO]
  | w :: ws, some v :: vs, L, h => by
    simp only [OwnsO] at h
    obtain ⟨L1, L2, rfl, h1, h2⟩ := h
    have ih := frz_own s h2
    simp only [frzE, List.map_cons, OwnsO] at ih ⊢
    exact ⟨[], [], rfl, own_sh (h1.seen (seen_H s)), ih⟩
  | w :: ws, none :: vs, L, h => by
    simp only [OwnsO] at h
    obtain ⟨rfl, h2⟩ := h
    have ih := frz_own s h2
    simp only [frzE, List.map_cons, OwnsO, W.d] at ih ⊢
    exact ⟨trivial, ih⟩
  | [], _ :: _, _, h => by simp only [OwnsO] at h
  | _ :: _, [], _, h => by simp only [OwnsO] at h
theorem pure_ok {f : FE} {σ : L2.St} {Q : VK} (h : tS K mg (fPure f) σ H Q) : tS K mg f σ H Q := by
  obtain ⟨F, en, L, en', r, st, e, k⟩ := h
  unfold fPure at e
  split at e
  · rename_i en1 w e1
    split at e
    · rename_i hc
      cases e
      refine ⟨H, frzE en, [], en1, .val w, ⟨Same.refl H, by simp, frz_own st.sub st.own⟩, e1, fun v F' H' L' Lr st' rr nd x => ?_⟩
      simp only [RR] at rr
      have hn : ∀ b ∈ Lr, H b = none := fun b hb => (x.newL b (by simp [hb])).elim (fun z => by cases z) id
      have sub := keepT_le st.sub x.sub
      have out : ∀ b ∈ L, keepT F H F' b = none := fun b hb => by
        obtain ⟨h1, h2⟩ := st.cell b hb
        unfold keepT
        rw [h2]
        cases e : H b with
        | none => exact absurd e h1.1
        | some o =>
          cases o
          case tup vs => exact absurd e (h1.2 vs)
          all_goals rfl
      refine k v (keepT F H F') H' L Lr ⟨sub.trans st'.sub, st.nd, st.own.stay ⟨keepT_sub, out, fun b hb => ?_⟩⟩ (by simp only [RR]; exact rr.keepT st.sub x.sub hc) (nd_of st.nd (nd_app nd).2.1 fun b hb hb' => ?_) ⟨fun a o e _ => x.kept a o e (by simp), x.there, keepT_sub, fun a e => ?_, fun a ha => ?_⟩
      · obtain ⟨h1, _⟩ := st.cell b hb
        cases e : H b with
        | none => exact absurd e h1.1
        | some o => exact x.kept b o e (by simp)
      · exact (st.cell b hb).1.1 (hn b hb')
      · unfold keepT at e
        split at e
        · rename_i o h; exact .inl (by rw [h]; simp)
        · split at e
          · rename_i h; exact .inr (.inr (.inl h))
          · rename_i vs h; exact .inr (.inr (.inr ⟨vs, h⟩))
          · exact absurd rfl e
      · rcases List.mem_append.mp ha with z | z
        · exact .inl z
        · exact .inr (hn a z)
    · cases e
  · cases e
end
theorem se_pure {X : Cx} {e : Expr} {f : FE} (h : SE X e f) : SE X e (fPure f) := pe_imp h fun _ _ _ q => pure_ok q
end Pu

/-! Pu28: enumerate of a tuple. -/
namespace Pu
open PySem PySem.Spec PyProof.Rows L2
theorem meets_enum_newB {v : Value} {o : Obj} {H : Heap → Prop} (B : Begins v o H) :
    PySem.Meets (PySem.Builtin.«enumerate.__new__» ⟨[.type "enumerate", v], []⟩) (fun _ R s => H s.heap ∧
      R (.ok (.ret (.ref (s.heap.push o).objs.size))) { s with heap := (s.heap.push o).push { cls := .type "enumerate", data := .fields #[.none, .bool false, .ref s.heap.objs.size, rawInt 0, .none, .none] } }) :=
  .of_wp fun prog w A R s h => by
    obtain ⟨hp, g, d, tk, os⟩ := s; obtain ⟨h1, h⟩ := h
    have hsub := sub_enumerate
    have q1 : ∀ {A' : Around} {E : Value → Shared → Prop} {Q : Value → Shared → Prop}, Q (.ref hp.objs.size) ⟨hp.push o, g, d, tk, os⟩ → wpAny (model prog w) A' (pyIter v) Q E ⟨hp, g, d, tk, os⟩ :=
      fun q => B.iter prog w _ _ ⟨hp, g, d, tk, os⟩ _ h1 q
    wp_walk using q1
    refine wpAny_stack_any fun st => wpAny_pure ?_
    split
    · rename_i c _ _ _ _ _
      cases (c == Value.type "enumerate")
      · wp_walk using q1
        exact ⟨_, rfl, h⟩
      · wp_walk using q1
        exact ⟨_, rfl, h⟩
    · wp_walk using q1
      exact ⟨_, rfl, h⟩
theorem call_enum_B {prog : Program} {w : World} {A : Around} {E : Value → Shared → Prop} {s : Shared} {v : Value} {o : Obj} {H : Heap → Prop} {Q : Value → Shared → Prop} (B : Begins v o H) (h1 : H s.heap)
    (h : ∀ h', IsEnum h' (s.heap.objs.size + 1) s.heap.objs.size 0 .none → h'.get? s.heap.objs.size = some o → h'.objs.size = s.heap.objs.size + 2 →
      (∀ b o, s.heap.get? b = some o → h'.get? b = some o) → Q (.ref (s.heap.objs.size + 1)) { s with heap := h' }) :
    wpAny (model prog w) A (call (.type "enumerate") [v]) Q E s := by
  refine callType_new F.called_enumerate (by decide) (F.typeCall_enumerate_1 _) (F.newCall_enumerate_1 _) (fun obj => F.args_object_init_2 obj _) F.entry_enumerate_new
    (meets_enum_newB B) ⟨h1, ?_⟩
  have hz : (s.heap.push o).objs.size = s.heap.objs.size + 1 := Heap.size_push ..
  show _ ∧ _
  rw [hz]
  have he : IsEnum ((s.heap.push o).push { cls := .type "enumerate", data := .fields #[.none, .bool false, .ref s.heap.objs.size, rawInt 0, .none, .none] }) (s.heap.objs.size + 1) s.heap.objs.size 0 .none := by
    have := Heap.get?_push_size (s.heap.push o) (o := { cls := .type "enumerate", data := .fields #[.none, .bool false, .ref s.heap.objs.size, rawInt 0, .none, .none] }) rfl
    rw [hz] at this; exact this
  refine ⟨⟨_, he, rfl⟩, h _ he (Heap.get?_push_of_some _ (Heap.get?_push_size _ B.free)) (by rw [Heap.size_push, hz]) fun b o x => Heap.get?_push_of_some _ (Heap.get?_push_of_some _ x)⟩
theorem pyNext_enum_endT {prog : Program} {w : World} {A : Around} {E : Value → Shared → Prop} {s : Shared} {e it l : Addr} {i : Nat} {items : Array Value} {old : Value} {Q : Option Value → Shared → Prop} (hh : A.handled = none)
    (he : IsEnum s.heap e it i old) (hit : s.heap.IsTupleIter it l i) (hl : s.heap.IsTuple l items) (hx : items[i]? = none)
    (hQ : ∀ h', Heap.ExtBut it s.heap h' → Q none { s with heap := h' }) : wpAny (model prog w) A (pyNext (.ref e)) Q E s := by
  have hT : s.TypeIs (.ref e) "enumerate" := ⟨_, he, rfl⟩
  unfold pyNext
  refine wpAny_bind (wpAny_attempt (wpAny_callSpecial?_slot (name := Str.ofString "__next__") hT F.slot_enumerate_next
    (wpAny_call_entry F.slot_enumerate_next hT F.entry_enumerate_next ?_ (F.args_enumerate_next_1 _))))
  show wpAny _ _ (field (.ref e) 2 >>= _) _ _ _
  refine wpAny_bind (wpAny_field he rfl (x := .ref it) rfl ?_)
  refine wpAny_bind (wpAny_nextOf_tuple_end hh hit hl hx fun h' x he' hx' => ?_)
  obtain ⟨o, ho, hc⟩ := hx'
  refine wpAny_bind (wpAny_isInstance (T := "StopIteration") (b := true) ⟨o, ho, hc⟩ isSubtype_stop ?_)
  exact wpAny_pure (hQ _ he')
/-- the tuple at a, each item in a new pair -/
def IteT (K : PySem.W.Frag) (a : Addr) : It :=
  ⟨fun i H => ∃ (xs : List V) (x : V), SqT K H a xs ∧ xs[i]? = some x, fun i H v H' => ∃ T x, v = .ref T ∧ H T = none ∧ H' = upd H T (.tup [.int (i : Nat), x]) ∧ ∀ xs, SqT K H a xs → xs[i]? = some x, fun i H => ∃ xs : List V, SqT K H a xs ∧ xs.length ≤ i⟩
theorem turn_enumT {P : Program} {w : World} {K : PySem.W.Frag} {elts : List Expr} {kk : Nat} {tpos : Pos} (a e it : Addr) :
    Turn P w K (.Tuple elts kk tpos) (IteT K a) [e, it] e (fun i h => (∃ old, IsEnum h e it ((i : Nat) : Int) old) ∧ h.IsTupleIter it a i ∧ e ≠ it) where
  mem := by simp
  obj := fun i h st b hb => by
    obtain ⟨⟨old, he⟩, ⟨o, ho, hc, hd⟩, _⟩ := st
    have e' : b = e ∨ b = it := by simpa using hb
    rcases e' with z | z
    · rw [z]; exact ⟨_, he, fun v q => nomatch q⟩
    · rw [z]; exact ⟨o, ho, fun v q => by rw [hd] at q; cases q⟩
  keep := fun i h h' st k => let ⟨⟨old, he⟩, hi, hne⟩ := st; ⟨⟨old, k e (by simp) _ he⟩, hi.at fun o q => k it (by simp) o q, hne⟩
  item := by
    intro X hP hw hK hc i pins s σ H E I hf st hg
    subst hP hw hK
    obtain ⟨⟨old, he⟩, hit, hne⟩ := st
    obtain ⟨xs, x, hq, hx⟩ := hg
    obtain ⟨its, rv, p, hz⟩ := I.tuple hq
    obtain ⟨u, hu, ru⟩ := rv.get hx
    have hel : e < s.heap.objs.size := Heap.lt_size he
    have hit0 := hit
    obtain ⟨oi, gi, _⟩ := hit
    obtain ⟨oa, ga, ca, _⟩ := id p
    have hai : a ≠ it := fun z => by
      subst z
      rw [ga] at gi
      cases gi
      obtain ⟨_, q, c, _⟩ := hit0
      rw [ga] at q
      cases q
      rw [ca] at c
      simp at c
    have hlt : i < its.toArray.size := by
      have := (List.getElem?_eq_some_iff.mp hu).1
      simpa using this
    have hea : e ≠ a := fun z => by
      subst z
      rw [he] at ga
      cases ga
      simp at ca
    refine wpAny_pyNext_enum_itemD (Draws.tuple (show X.A.in1.handled = none from I.ok.hd hc) it a hai its.toArray) he ⟨hit0, show s.heap.IsTuple a its.toArray from p⟩ hlt hne (by simp [hne, hea]) fun x' h' tk hx' ho hst' hT hsz hk => ?_
    have eu : x' = u := by
      rw [show its.toArray[i]? = some u by simpa using hu] at hx'
      exact (Option.some.inj hx').symm
    subst eu
    obtain ⟨hit', _⟩ := hst'
    refine ⟨_, rfl, wpAny_letOwnedTupleGo_enum (s := { s with heap := h', toks := tk + 1 }) ho fun h'' he' sb => ?_⟩
    have hT2 : h''.get? s.heap.objs.size = some { cls := .type "tuple", data := .seq #[.int i tk, x'] } := (sb.2 _ (Nat.ne_of_gt hel)).trans hT
    have new : ObjOk X.prog X.w (upd H s.heap.objs.size (.tup [.int (i : Nat), x])) h'' s.heap.objs.size (.tup [.int (i : Nat), x]) :=
      ⟨by show 2 ≤ sizeLine; decide, [.int i tk, x'], .cons ⟨_, rfl⟩ (.cons ru .nil), ⟨_, hT2, rfl, _, rfl⟩⟩
    have hil : it < s.heap.objs.size := by obtain ⟨_, q, _⟩ := hit0; exact Heap.lt_size q
    have I1 : Inv X pins σ (upd H s.heap.objs.size (.tup [.int (i : Nat), x])) { s with heap := h'', toks := tk + 1 } :=
      I.turnedNew (ch := [e, it]) (fun b ob hb q => (sb.2 b (fun z => hb (by simp [z]))).trans (hk b ob (fun z => hb (by simp [z])) (fun z => hb (by simp [z])) q)) hf (Nat.le_refl _) new
    refine ⟨.ref s.heap.objs.size, _, I1, rfl, ⟨_, x, rfl, I.hok.fresh (Nat.le_refl _), rfl, fun ys hy => by rw [I.tuple_inj hy hq]; exact hx⟩, ⟨⟨x', ?_⟩, hit'.at fun o q => (sb.2 it (Ne.symm hne)).trans q, hne⟩, fun b hb => ?_⟩
    · have e1 : ((i + 1 : Nat) : Int) = (i : Int) + 1 := by omega
      rw [e1]; exact he'
    · have hb' : b < s.heap.objs.size := by
        have e' : b = e ∨ b = it := by simpa using hb
        rcases e' with z | z
        · rw [z]; exact hel
        · rw [z]; exact hil
      rw [upd_ne (Nat.ne_of_lt hb')]
      exact (hf b hb).1
  done := by
    intro X hP hw hK hc i pins s σ H E I hf st hg
    subst hP hw hK
    obtain ⟨⟨old, he⟩, hit, hne⟩ := st
    obtain ⟨xs, hq, hx⟩ := hg
    obtain ⟨its, rv, p, hz⟩ := I.tuple hq
    obtain ⟨f0, f1, f2, f3, f4, f5⟩ := hf it (by simp)
    have hl := rv.length
    exact pyNext_enum_endT (I.ok.hd hc) he hit (show s.heap.IsTuple a its.toArray from p) (by simp; omega) fun h' eb => ⟨rfl, I.turned (t' := s.toks) (fun b o hb q => eb b o hb q) f0 f1 f3 f4 f5⟩
  self := fun A i s Q E st h => let ⟨⟨_, he⟩, _⟩ := st; wpAny_pyIter_enum he h
def iEnA (K : PySem.W.Frag) (ta : TA) : TI := fun σ H R => ta σ H fun vs H1 => ∃ a xs, vs = [.ref a] ∧ ((SqL K H1 a xs ∧ R (Ite K a) H1) ∨ (SqT K H1 a xs ∧ R (IteT K a) H1))
theorem pi_enA {X : Cx} {e : Expr} {ta : TA} {p pos tpos : Pos} {elts : List Expr} {kk : Nat} (hg : Gl X "enumerate") (hm : X.mg "enumerate" = none) (ha : PA X [e] ta) (hs : starEach [e] X.env = [(false, eval e X.env)] := by rfl) :
    PI X (.Tuple elts kk tpos) (.Call (.Name "enumerate" p) [e] [] pos) (iEnA X.K ta) := by
  refine ⟨fun pins s σ H R I h => ?_⟩
  refine Call_ (ld_blt I hg hm boot_enumerate (PyProof.Rows.callWith_type1 (thn (ha.run pos pins s σ H _ I h) fun us s1 ⟨vs, H1, I1, r1, q1⟩ => ?_) hs rfl))
  obtain ⟨a, xs, ex, q⟩ := q1
  subst ex
  cases r1 with
  | cons r rr =>
    cases rr
    cases r
    have fin : ∀ {h' : Heap} (hk : ∀ b o, s1.heap.get? b = some o → h'.get? b = some o), Inv X pins σ H1 { s1 with heap := h' } := fun hk => I1.kept (t' := s1.toks) hk
    have fp : ∀ b ∈ [s1.heap.objs.size + 1, s1.heap.objs.size], s1.heap.objs.size ≤ b := fun b hb => by
      have e' : b = s1.heap.objs.size + 1 ∨ b = s1.heap.objs.size := by simpa using hb
      rcases e' with z | z
      · rw [z]; exact Nat.le_add_right _ _
      · rw [z]; exact Nat.le_refl _
    rcases q with ⟨hq, q⟩ | ⟨hq, q⟩
    · obtain ⟨its, rv, p', hz⟩ := I1.list hq
      refine call_enumerate_list p'.isList fun h' he hit hsz hk => wpAny_pyIter_enum he ?_
      exact ⟨s1.heap.objs.size + 1, [s1.heap.objs.size + 1, s1.heap.objs.size], _, _, H1, rfl, fin hk, turn_enum a (s1.heap.objs.size + 1) s1.heap.objs.size, ⟨⟨.none, he⟩, hit, Nat.succ_ne_self _⟩, fun b hb => I1.fpOk (fp b hb) (I1.hok.fresh (fp b hb)), q⟩
    · obtain ⟨its, rv, p', hz⟩ := I1.tuple hq
      refine call_enum_B (begins_tuple a its.toArray) (show s1.heap.IsTuple a its.toArray from p') fun h' he hit hsz hk => wpAny_pyIter_enum he ?_
      exact ⟨s1.heap.objs.size + 1, [s1.heap.objs.size + 1, s1.heap.objs.size], _, _, H1, rfl, fin hk, turn_enumT a (s1.heap.objs.size + 1) s1.heap.objs.size, ⟨⟨.none, he⟩, ⟨_, hit, rfl, rfl⟩, Nat.succ_ne_self _⟩, fun b hb => I1.fpOk (fp b hb) (I1.hok.fresh (fp b hb)), q⟩
def iEnumA (f : FE) : FI := fun en => match f en with
  | none => none
  | some (en1, r) => match r.fz en1 with
    | none => none
    | some (en2, .tup ds) => some (en2, enumD 0 ds)
    | some (en2, d) => match d.litems with
      | none => none
      | some ds => some (en2, enumD 0 ds)
section
variable {X : Cx} {e : Expr} {f : FE} {p pos tpos : Pos} {elts : List Expr} {kk : Nat}
theorem si_enumA (hg : Gl X "enumerate") (hm : X.mg "enumerate" = none) (he : SE X e f) (hs : starEach [e] X.env = [(false, eval e X.env)] := by rfl) : SI X (.Tuple elts kk tpos) (.Call (.Name "enumerate" p) [e] [] pos) (iEnumA f) :=
  pi_imp (pi_enA hg hm (pa_cons he pa_nil hs) hs) fun σ H R q => by
    obtain ⟨F, en, L, en', ds, st, e, k⟩ := q
    unfold iEnumA at e
    split at e
    · cases e
    rename_i en1 r e1
    split at e
    · cases e
    · rename_i en2 ds' e2
      cases e
      refine ⟨F, en, L, en1, r, st, e1, fun v F1 H1 L1 Lr st1 rr nd x => ?_⟩
      obtain ⟨F2, L2, st2, rp, x2⟩ := rr.fz st1 nd e2
      simp only [Rep] at rp
      obtain ⟨a, vs, rfl, ha, hr⟩ := rp
      have hq : ∀ {G : Hp}, Same F2 G → SqT X.K G a vs := fun sg => seqT sg ha.1
      refine ⟨a, vs, rfl, .inr ⟨hq st2.sub, k _ F2 H1 L2 st2 (x.trans x2) fun i H2 s2 => ⟨fun hi => ⟨vs, hq s2, by rw [← hr.len, ← enumD_len ds' 0]; exact hi⟩, fun d hd => ?_⟩⟩⟩
      obtain ⟨y, g1, g2⟩ := enumD_get ds' 0 i d hd
      obtain ⟨z, h1, h2⟩ := reps_at hr g1
      refine ⟨⟨vs, z, hq s2, h1⟩, fun x H' hy => .inr ?_⟩
      obtain ⟨T, w, rfl, hT, rfl, hw⟩ := hy
      have hwz := hw vs (hq s2)
      rw [h1] at hwz
      cases hwz
      refine .inl ⟨T, _, hT, rfl, ?_⟩
      rw [g2]
      exact rep_tup s2 hT (by simp only [Reps]; exact ⟨rep_v (by simp [D.v]), h2, trivial⟩)
    rename_i en2 d _ e2
    split at e
    · cases e
    rename_i ds' e3
    cases e
    refine ⟨F, en, L, en1, r, st, e1, fun v F1 H1 L1 Lr st1 rr nd x => ?_⟩
    obtain ⟨F2, L2, st2, rp, x2⟩ := rr.fz st1 nd e2
    obtain ⟨a, vs, rfl, ha, hr⟩ := rep_litems rp e3
    refine ⟨a, vs, rfl, .inl ⟨st2.sub.seq ha, k _ F2 H1 L2 st2 (x.trans x2) fun i H2 s2 => ⟨fun hi => ⟨vs, s2.seq ha, by rw [← hr.len, ← enumD_len ds' 0]; exact hi⟩, fun d hd => ?_⟩⟩⟩
    obtain ⟨y, g1, g2⟩ := enumD_get ds' 0 i d hd
    obtain ⟨z, h1, h2⟩ := reps_at hr g1
    refine ⟨⟨vs, z, s2.seq ha, h1⟩, fun x H' hy => .inr ?_⟩
    obtain ⟨T, w, rfl, hT, rfl, hw⟩ := hy
    have hwz := hw vs (s2.seq ha)
    rw [h1] at hwz
    cases hwz
    refine .inl ⟨T, _, hT, rfl, ?_⟩
    rw [g2]
    exact rep_tup s2 hT (by simp only [Reps]; exact ⟨rep_v (by simp [D.v]), h2, trivial⟩)
end
end Pu

/-! Pu29: a tuple among the keys of a dict. -/
namespace Pu
open PySem PySem.Spec PyProof.Rows L2
def hasK {κ : Type} [DecidableEq κ] (ks : List κ) (k : κ) : Bool := ks.any fun z => decide (z = k)
theorem valV_some {κ : Type} [DecidableEq κ] (kws : List (κ × V)) (k : κ) : (valV kws k).isSome = hasK (kws.map (·.1)) k := by
  induction kws with
  | nil => rfl
  | cons x xs ih =>
    unfold valV hasK at ih ⊢
    rw [List.find?_cons]
    by_cases h : x.1 = k
    · simp [h]
    · rw [decide_eq_false h]
      simpa [h] using ih
def gDInB (neg : Bool) : En → List R → Option (En × R)
  | en, [r1, r2] => match r1.d en, r2.dT en with
    | some d, some (ks, _) => match d.tkey with
      | some k => some (en, .val (.sh (.bl (if neg then !hasK ks k else hasK ks k))))
      | none => none
    | _, _ => none
  | _, _ => none
section
variable {X : Cx} {o i : Expr} {fo fi : FE} {pos : Pos}
theorem op_din (neg : Bool) : OpN X.K X.mg (r2N fun y x H Q => ∃ a ov, x = .ref a ∧ DGet H a y ov ∧ Q (.bl (if neg then !ov.isSome else ov.isSome)) H) (gDInB neg) := by
  intro F H σ en L rs vs Lr en' r' st rr hs nd e Q q
  unfold gDInB at e
  split at e
  · rename_i r1 r2
    split at e
    · rename_i d ks ds e1 e2
      split at e
      · rename_i k ek
        cases e
        obtain ⟨v1, v2, A, B, rfl, rfl, h1, h2⟩ := rrs2 rr
        obtain ⟨a, kws, rfl, ha, hk, hr⟩ := h2.dT st e2
        obtain ⟨b, rfl, hb⟩ := rep_tkey (h1.peek st e1) ek
        refine ⟨_, _, rfl, a, valV kws k, rfl, .inr ⟨kws, k, b, ha, rfl, hb, rfl⟩, ?_⟩
        rw [valV_some, hk]
        exact q _ F H L [] st (by simp only [RR]; exact own_sh (rep_v (by simp [D.v]))) (by simpa using st.nd) (Ext.refl.mem (fun a h => h) fun a h => by
          have h' : a ∈ L := by simpa using h
          simp [h'])
      · cases e
    · cases e
  · cases e
theorem se_dinT (hu : X.A.units + 1 < cLine) (hi : SE X i fi) (ho : SE X o fo) (hm : behindInMarks .In o = false := by rfl) : SE X (.Compare i [.In] [o] pos) (fN (gDInB false) [fi, fo]) :=
  pe_imp (pe_cmp (pc_din hu hi ho) hm) fun σ H Q q => tEv_two (op_behind (op_din false) q)
theorem se_dnotinT (hu : X.A.units + 1 < cLine) (hi : SE X i fi) (ho : SE X o fo) (hm : behindInMarks .NotIn o = false := by rfl) : SE X (.Compare i [.NotIn] [o] pos) (fN (gDInB true) [fi, fo]) :=
  pe_imp (pe_cmp (pc_dnotin hu hi ho) hm) fun σ H Q q => tEv_two (op_behind (op_din true) q)
theorem st_dinT (hu : X.A.units + 1 < cLine) (hi : SE X i fi) (ho : SE X o fo) (hm : behindInMarks .In o = false := by rfl) : ST X (.Compare i [.In] [o] pos) (fTb (fN (gDInB false) [fi, fo])) :=
  pt_imp (pt_cmp (pc_din hu hi ho) hm) fun σ H Q q => tEv_two (op_behind (op_din false) (tTb q))
theorem st_dnotinT (hu : X.A.units + 1 < cLine) (hi : SE X i fi) (ho : SE X o fo) (hm : behindInMarks .NotIn o = false := by rfl) : ST X (.Compare i [.NotIn] [o] pos) (fTb (fN (gDInB true) [fi, fo])) :=
  pt_imp (pt_cmp (pc_dnotin hu hi ho) hm) fun σ H Q q => tEv_two (op_behind (op_din true) (tTb q))
end
end Pu

namespace Pu
open PySem
def l_law_cells_1 : FS := (sSeq (sAsg (fMod (fInt (fVar 3)) (fVar 1)) (gN 5))
  (sAsg (fAdd (fIx (fVar 2) (fVar 5)) (fMul (fVar 4) (fAdd (fVar 3) (fC (.int 2))))) (gSetI (fVar 2) (fVar 5))))
def b_law_cells : FS := (sSeq (sAsg (fOrV (fList (fN gSlHi [(fVar 0), (fVar 1)])) (fLst [(fC (.int 0))])) (gN 2))
  (sSeq (sFor (iEnumA (fSl2 (fVar 0) (fVar 1) (fC (.int 63)))) (gTupT 2 (gsCons (gN 3) (gsCons (gN 4) gsNil))) l_law_cells_1)
  (sRet [0, 1] (fVar 2))))
def m_law_cells : PF := fnP 6 2 [0, 1] b_law_cells
def e_law_same_1 (self : PF) : FE := (fCallP self [(fVar 2), (fVar 3)])
def b_law_same (self : PF) : FS := (sSeq (sIf (fTr (fIsi ["list", "tuple"] (fVar 1))) (sSeq (sIf (fOrT (fTb (fN (gS oNe) [(fIsi ["list"] (fVar 0)), (fIsi ["list"] (fVar 1))])) (fTb (fN (gS oNe) [(fIsi ["tuple"] (fVar 0)), (fIsi ["tuple"] (fVar 1))]))) (sRet [0, 1] (fC (.bl false))) sNil)
  (sRet [0, 1] (fAndV (fN (gS oEq) [(fLen (fVar 0)), (fLen (fVar 1))]) (fAll (fComp [2, 3] (iZipL (fVar 0) (fVar 1)) (gTupT 2 (gsCons (gN 2) (gsCons (gN 3) gsNil))) tYesE (e_law_same_1 self)))))) sNil)
  (sSeq (sIf (fOrT (fTb (fN (gS oIsN) [(fVar 1), (fC .non)])) (fTr (fIsi ["bool", "str"] (fVar 1)))) (sRet [0, 1] (fAndV (fN (gS oEq) [(fVar 0), (fVar 1)]) (fAndV (fN (gS oEq) [(fIsi ["bool"] (fVar 0)), (fIsi ["bool"] (fVar 1))]) (fN (gS oEq) [(fN (gS oIsN) [(fVar 0), (fC .non)]), (fN (gS oIsN) [(fVar 1), (fC .non)])])))) sNil)
  (sRet [0, 1] (fAndV (fIsi ["int"] (fVar 0)) (fAndV (fNotV (fIsi ["bool"] (fVar 0))) (fN (gS oEq) [(fVar 0), (fVar 1)]))))))
def m_law_same : Nat → PF
  | 0 => fun _ => none
  | n + 1 => fnP 4 2 [0, 1] (b_law_same (m_law_same n))
def b_Tree_nodes : FS := (sRet [0] (fSortX (fFld "Tree" 2 (fVar 0))))
def m_Tree_nodes : PF := fnP 1 1 [0] b_Tree_nodes
def b_Tree_grown (self : PF) : FS := (sSeq (sIf (fTr (fIsi ["str"] (fVar 1))) (sSeq (sAsg (fTup [(fLen (fFld "Tree" 0 (fVar 0))), (fAdd (fLen (fFld "Tree" 0 (fVar 0))) (fC (.int 1)))]) (gN 3))
  (sSeq (sExpr (fMutP mApp (fFld "Tree" 0 (fVar 0)) (qV 1)))
  (sSeq (sDPutP (fTup []) (fFld "Tree" 2 (fVar 0)) (qV 3))
  (sRet [0, 1] (fVar 3))))) sNil)
  (sSeq (sAsg (fTup [(fMeth "Tree" self (fVar 0) [(fIx (fVar 1) (fC (.int 0)))]), (fMeth "Tree" self (fVar 0) [(fIx (fVar 1) (fC (.int 1)))])]) (gN 2))
  (sSeq (sAsg (fTup [(fIx (fIx (fVar 2) (fC (.int 0))) (fC (.int 0))), (fIx (fIx (fVar 2) (fC (.int 1))) (fC (.int 1)))]) (gN 3))
  (sSeq (sDPutP (fVar 2) (fFld "Tree" 2 (fVar 0)) (qV 3))
  (sRet [0, 1] (fVar 3))))))
def m_Tree_grown : Nat → PF
  | 0 => fun _ => none
  | n + 1 => fnP 4 2 [0, 1] (b_Tree_grown (m_Tree_grown n))
def e_tupled_1 (self : PF) : FE := (fCallP self [(fVar 1)])
def b_tupled (self : PF) : FS := (sRet [0] (fIf (fTr (fIsi ["list", "tuple"] (fVar 0))) (fTuple (fComp [1] (iSeq (fVar 0)) (gN 1) tYesE (e_tupled_1 self))) (fVar 0)))
def m_tupled : Nat → PF
  | 0 => fun _ => none
  | n + 1 => fnP 2 1 [0] (b_tupled (m_tupled n))
def b_Tree_init : FS := (sSeq (sFld "Tree" 0 0 (fLst []))
  (sSeq (sFld "Tree" 0 2 fNewT)
  (sFld "Tree" 0 1 (fMeth "Tree" (m_Tree_grown 40) (fVar 0) [(fCallP (m_tupled 40) [(fVar 1)])]))))
def m_Tree_init : PF := fnP 2 2 [0, 1] b_Tree_init
def b_nodes_in : FS := (sRet [0] (fMethP "Tree" m_Tree_nodes (fMake "Tree" m_Tree_init [(fVar 0)]) []))
def m_nodes_in : PF := fnP 1 1 [0] b_nodes_in
def t_depth_of_1 : FT := (fAndT (fTb (fN (gS oLeI) [(fIx (fVar 2) (fC (.int 0))), (fIx (fVar 1) (fC (.int 0)))])) (fTb (fN (gS oLeI) [(fIx (fVar 1) (fC (.int 1))), (fIx (fVar 2) (fC (.int 1)))])))
def b_depth_of : FS := (sRet [0, 1] (fSub (fLen (fComp [2] (iSeq (fCallP m_nodes_in [(fVar 0)])) (gN 2) t_depth_of_1 (fVar 2))) (fC (.int 1))))
def m_depth_of : PF := fnP 3 2 [0, 1] b_depth_of
def e_is_allowed_1 : FE := (fChain oLtI oLtI (fVar 5) (fVar 7) (fVar 6))
def b_is_allowed : FS := (sSeq (sAsg (fVar 2) (gTupT 2 (gsCons (gN 3) (gsCons (gN 4) gsNil))))
  (sSeq (sIf (fTb (fN (gS oEq) [(fLen (fVar 4)), (fC (.int 0))])) (sRet [0, 1, 2] (fC (.bl true))) sNil)
  (sSeq (sPar (gsCons (gN 5) (gsCons (gN 6) gsNil)) [(fCallP m_depth_of [(fVar 0), (fVar 3)]), (fCallP m_depth_of [(fVar 0), (fVar 4)])])
  (sRet [0, 1, 2] (fOrV (fN gIn [(fVar 5), (fVar 1)]) (fNotV (fAny (fComp [7] (iSeq (fVar 1)) (gN 7) tYesE e_is_allowed_1))))))))
def m_is_allowed : PF := fnP 8 3 [0, 1, 2] b_is_allowed
def e_law_lists_1 (self : PF) : FE := (fCallP self [(fVar 1)])
def b_law_lists (self : PF) : FS := (sRet [0] (fIf (fTr (fIsi ["list", "tuple"] (fVar 0))) (fComp [1] (iSeq (fVar 0)) (gN 1) tYesE (e_law_lists_1 self)) (fVar 0)))
def m_law_lists : Nat → PF
  | 0 => fun _ => none
  | n + 1 => fnP 2 1 [0] (b_law_lists (m_law_lists n))
def l_law_hand_right_1 : FS := (sSeq (sAsg (fLst [(fCallP m_is_allowed [(fVar 0), (fVar 3), (fVar 4)])]) (gN 2))
  (sSeq (sExpr (fMutN 2 mApp (fCallKP m_is_allowed [2, 1, 0] 3 [(fCallP (m_law_lists 40) [(fVar 4)]), (fList (fVar 3)), (fCallP (m_law_lists 40) [(fVar 0)])])))
  (sIf (fNotT (fTr (fPure (fCallP (m_law_same 40) [(fVar 2), (fLst [(fVar 5), (fVar 5)])])))) (sRet [] (fC (.bl false))) sNil)))
def e_law_hand_right_1 : FE := (fCallP m_is_allowed [(fVar 8), (fTup [(fC (.int 1))]), (fTup [(fTup [(fC (.int 0)), (fC (.int 4))]), (fTup [(fC (.int 3)), (fC (.int 4))])])])
def b_law_hand_right : FS := (sSeq (sAsg (fTup [(fTup [(fC (.str "a")), (fC (.str "b"))]), (fTup [(fTup [(fC (.str "c")), (fC (.str "d"))]), (fC (.str "e"))])]) (gN 0))
  (sSeq (sAsg (fLst [(fTup [(fTup [(fC (.int 1))]), (fTup [(fTup [(fC (.int 0)), (fC (.int 5))]), (fTup [(fC (.int 3)), (fC (.int 4))])]), (fC (.bl false))]), (fTup [(fTup [(fC (.int 1))]), (fTup [(fTup [(fC (.int 0)), (fC (.int 5))]), (fTup [(fC (.int 2)), (fC (.int 5))])]), (fC (.bl true))]), (fTup [(fTup [(fC (.int 1))]), (fTup [(fTup [(fC (.int 0)), (fC (.int 5))]), (fTup [])]), (fC (.bl true))])]) (gN 1))
  (sSeq (sAsg (fAdd (fVar 1) (fLst [(fTup [(fTup [(fC (.int 1))]), (fTup [(fTup [(fC (.int 0)), (fC (.int 5))]), (fTup [(fC (.int 2)), (fC (.int 4))])]), (fC (.bl false))]), (fTup [(fTup [(fC (.int 0)), (fC (.int 1))]), (fTup [(fTup [(fC (.int 0)), (fC (.int 5))]), (fTup [(fC (.int 3)), (fC (.int 4))])]), (fC (.bl true))])])) (gN 1))
  (sSeq (sAsg (fAdd (fVar 1) (fLst [(fTup [(fTup [(fC (.int 2))]), (fTup [(fTup [(fC (.int 0)), (fC (.int 5))]), (fTup [(fC (.int 2)), (fC (.int 4))])]), (fC (.bl true))])])) (gN 1))
  (sSeq (sAsg (fAdd (fVar 1) (fLst [(fTup [(fTup [(fC (.int 2))]), (fTup [(fTup [(fC (.int 0)), (fC (.int 5))]), (fTup [(fC (.int 2)), (fC (.int 3))])]), (fC (.bl false))]), (fTup [(fTup [(fC (.int 2))]), (fTup [(fTup [(fC (.int 2)), (fC (.int 5))]), (fTup [(fC (.int 2)), (fC (.int 3))])]), (fC (.bl false))])])) (gN 1))
  (sSeq (sAsg (fAdd (fVar 1) (fLst [(fTup [(fTup [(fC (.int 2))]), (fTup [(fTup [(fC (.int 2)), (fC (.int 4))]), (fTup [(fC (.int 2)), (fC (.int 3))])]), (fC (.bl true))])])) (gN 1))
  (sSeq (sAsg (fAdd (fVar 1) (fLst [(fTup [(fTup [(fC (.int 1)), (fC (.int 2))]), (fTup [(fTup [(fC (.int 2)), (fC (.int 5))]), (fTup [(fC (.int 2)), (fC (.int 3))])]), (fC (.bl true))]), (fTup [(fTup []), (fTup [(fTup [(fC (.int 0)), (fC (.int 5))]), (fTup [(fC (.int 2)), (fC (.int 3))])]), (fC (.bl true))])])) (gN 1))
  (sSeq (sAsg (fAdd (fVar 1) (fLst [(fTup [(fTup [(fC (.int 0))]), (fTup [(fTup [(fC (.int 2)), (fC (.int 5))]), (fTup [(fC (.int 2)), (fC (.int 3))])]), (fC (.bl true))])])) (gN 1))
  (sSeq (sAsg (fAdd (fVar 1) (fLst [(fTup [(fTup [(fC (.int 3)), (fC (.int 9))]), (fTup [(fTup [(fC (.int 0)), (fC (.int 5))]), (fTup [(fC (.int 2)), (fC (.int 3))])]), (fC (.bl true))]), (fTup [(fTup [(fC (.int 0)), (fC (.int 2))]), (fTup [(fTup [(fC (.int 2)), (fC (.int 5))]), (fTup [(fC (.int 3)), (fC (.int 4))])]), (fC (.bl false))])])) (gN 1))
  (sSeq (sAsg (fAdd (fVar 1) (fLst [(fTup [(fTup [(fC (.int 1)), (fC (.int 3))]), (fTup [(fTup [(fC (.int 2)), (fC (.int 5))]), (fTup [(fC (.int 3)), (fC (.int 4))])]), (fC (.bl true))])])) (gN 1))
  (sSeq (sFor (iSeq (fVar 1)) (gTupT 3 (gsCons (gN 3) (gsCons (gN 4) (gsCons (gN 5) gsNil)))) l_law_hand_right_1)
  (sSeq (sPar (gsCons (gN 6) (gsCons (gN 7) gsNil)) [(fTup [(fTup [(fTup [(fC (.str "a")), (fC (.str "b"))]), (fC (.str "c"))]), (fC (.str "d"))]), (fTup [(fTup [(fC (.str "a")), (fC (.str "b"))]), (fTup [(fC (.str "c")), (fC (.str "d"))])])])
  (sSeq (sAsg (fComp [8] (iSeq (fTup [(fVar 6), (fVar 7), (fVar 6)])) (gN 8) tYesE e_law_hand_right_1) (gN 2))
  (sSeq (sAsg (fAdd (fVar 2) (fLst [(fCallP m_is_allowed [(fC (.str "box")), (fTup [(fC (.int 0)), (fC (.int 1))]), (fTup [(fTup [(fC (.int 0)), (fC (.int 1))]), (fTup [])])]), (fCallP m_is_allowed [(fTup [(fC (.str "b")), (fC (.str "a"))]), (fTup [(fC (.int 1))]), (fTup [(fTup [(fC (.int 0)), (fC (.int 2))]), (fTup [(fC (.int 0)), (fC (.int 1))])])])])) (gN 2))
  (sRet [] (fCallP (m_law_same 40) [(fVar 2), (fLst [(fC (.bl true)), (fC (.bl false)), (fC (.bl true)), (fC (.bl true)), (fC (.bl true))])]))))))))))))))))
def m_law_hand_right : PF := fnP 9 0 [] b_law_hand_right
def b_law_leaves (self : PF) : FS := (sRet [0] (fIf (fTr (fIsi ["str"] (fVar 0))) (fLst [(fVar 0)]) (fAdd (fCallP self [(fIx (fVar 0) (fC (.int 0)))]) (fCallP self [(fIx (fVar 0) (fC (.int 1)))]))))
def m_law_leaves : Nat → PF
  | 0 => fun _ => none
  | n + 1 => fnP 1 1 [0] (b_law_leaves (m_law_leaves n))
def l_law_spans_1 : FS := (sDPutN (fN gDGet [(fVar 5), (fVar 6)]) 4 (fVar 6))
def b_law_spans (self : PF) : FS := (sSeq (sAsg (fAdd (fVar 1) (fLen (fCallP (m_law_leaves 40) [(fVar 0)]))) (gN 2))
  (sSeq (sIf (fTr (fIsi ["str"] (fVar 0))) (sRet [0, 1] (fDict1T (fLst [(fTup [(fTup [(fVar 1), (fVar 2)]), (fLst [])])]))) sNil)
  (sSeq (sAsg (fAdd (fVar 1) (fLen (fCallP (m_law_leaves 40) [(fIx (fVar 0) (fC (.int 0)))]))) (gN 3))
  (sSeq (sAsg (fCall self [(fIx (fVar 0) (fC (.int 0))), (fVar 1)]) (gN 4))
  (sSeq (sAsg (fCall self [(fIx (fVar 0) (fC (.int 1))), (fVar 3)]) (gN 5))
  (sSeq (sFor (iSeq (fListT (fVar 5))) (gN 6) l_law_spans_1)
  (sSeq (sDPutN (fLst [(fTup [(fVar 1), (fVar 3)]), (fTup [(fVar 3), (fVar 2)])]) 4 (fTup [(fVar 1), (fVar 2)]))
  (sRet [0, 1] (fVar 4)))))))))
def m_law_spans : Nat → PF
  | 0 => fun _ => none
  | n + 1 => fnP 7 2 [0, 1] (b_law_spans (m_law_spans n))
def l_law_under_1 : FS := (sSeq (sAsg (fPop (fVar 3)) (gN 4))
  (sSeq (sExpr (fMutN 2 mApp (fVar 4)))
  (sAsg (fAdd (fVar 3) (fN gDGet [(fVar 0), (fVar 4)])) (gN 3))))
def t_law_under_1 : FT := (fTb (fN (gS oNe) [(fVar 3), (fLst [])]))
def b_law_under : FS := (sSeq (sPar (gsCons (gN 2) (gsCons (gN 3) gsNil)) [(fLst []), (fLst [(fVar 1)])])
  (sSeq (whD t_law_under_1 l_law_under_1 400)
  (sRet [0, 1] (fSortX (fVar 2)))))
def m_law_under : PF := fnP 5 2 [0, 1] b_law_under
def e_law_pieces_1 : FE := (fTup [(fVar 4), (fVar 5)])
def t_law_pieces_1 : FT := (fTb (fN (gS oNe) [(fVar 5), (fVar 4)]))
def l_law_pieces_1 : FS := (sAsg (fAdd (fVar 3) (fComp [5] (iSeq (fCallP m_law_under [(fVar 1), (fVar 4)])) (gN 5) t_law_pieces_1 e_law_pieces_1)) (gN 3))
def b_law_pieces : FS := (sSeq (sAsg (fCall (m_law_spans 40) [(fVar 0), (fC (.int 0))]) (gN 1))
  (sSeq (sAsg (fTup [(fC (.int 0)), (fLen (fCallP (m_law_leaves 40) [(fVar 0)]))]) (gN 2))
  (sSeq (sAsg (fLst [(fTup [(fVar 2), (fTup [])])]) (gN 3))
  (sSeq (sFor (iKeys (fVar 1)) (gN 4) l_law_pieces_1)
  (sRet [0] (fSortX (fVar 3)))))))
def m_law_pieces : PF := fnP 6 1 [0] b_law_pieces
def b_law_take : FS := (sSeq (sIf (fTb (fN (gS oGtI) [(fIx (fVar 0) (fC (.int 0))), (fC (.int 0))])) (sSeq (sAsg (fMod (fInt (fIx (fVar 0) (fC (.int 0)))) (fVar 1)) (gN 5))
  (sSeq (sAsg (fDiv (fIx (fVar 0) (fC (.int 0))) (fVar 1)) (gSetI (fVar 0) (fC (.int 0))))
  (sRet [0, 1] (fVar 5)))) sNil)
  (sSeq (sAsg (fAdd (fIx (fVar 0) (fC (.int 2))) (fC (.int 1))) (gSetI (fVar 0) (fC (.int 2))))
  (sSeq (sAsg (fMod (fInt (fMul (fAdd (fIx (fVar 0) (fC (.int 1))) (fMul (fC (.int 48271)) (fIx (fVar 0) (fC (.int 2))))) (fAdd (fC (.int 39373)) (fIx (fVar 0) (fC (.int 2)))))) (fC (.int 2147483647))) (gN 2))
  (sSeq (sAsg (fAdd (fMod (fInt (fVar 2)) (fC (.int 40009))) (fC (.int 7))) (gN 3))
  (sSeq (sAsg (fMod (fInt (fMul (fAdd (fAdd (fVar 2) (fIx (fVar 0) (fC (.int 2)))) (fDiv (fIx (fVar 0) (fC (.int 1))) (fC (.int 1000003)))) (fVar 3))) (fC (.int 2147483629))) (gN 4))
  (sRet [0, 1] (fMod (fInt (fDiv (fMod (fInt (fAdd (fMul (fVar 4) (fC (.int 48271))) (fVar 2))) (fC (.int 2147483587))) (fC (.int 64)))) (fVar 1))))))))
def m_law_take : PF := fnP 6 2 [0, 1] b_law_take
def b_law_shape (self : PF) : FS := (sSeq (sIf (fTb (fN (gS oEq) [(fLen (fVar 1)), (fC (.int 1))])) (sRet [0, 1] (fIx (fVar 1) (fC (.int 0)))) sNil)
  (sSeq (sAsg (fAdd (fC (.int 1)) (fCall m_law_take [(fVar 0), (fSub (fLen (fVar 1)) (fC (.int 1)))])) (gN 2))
  (sSeq (sAsg (fCall self [(fVar 0), (fN gSlHi [(fVar 1), (fVar 2)])]) (gN 3))
  (sRet [0, 1] (fTup [(fVar 3), (fCall self [(fVar 0), (fN gSlLo [(fVar 1), (fVar 2)])])])))))
def m_law_shape : Nat → PF
  | 0 => fun _ => none
  | n + 1 => fnP 4 2 [0, 1] (b_law_shape (m_law_shape n))
def l_law_words_1 : FS := (sExpr (fMutN 4 mApp (fMutN 3 mPopAt (fCall m_law_take [(fVar 0), (fLen (fVar 3))]))))
def b_law_words : FS := (sSeq (sPar (gsCons (gN 3) (gsCons (gN 4) gsNil)) [(fLst [(fC (.str "a")), (fC (.str "ab")), (fC (.str "b")), (fC (.str "c")), (fC (.str "cc")), (fC (.str "d")), (fC (.str "e")), (fC (.str "f")), (fC (.str "g")), (fC (.str "key")), (fC (.str "m")), (fC (.str "n")), (fC (.str "x")), (fC (.str "y")), (fC (.str "z")), (fC (.str "zzzzzzzz"))]), (fLst [])])
  (sSeq (sFor (iRange1 (fVar 1)) (gN 2) l_law_words_1)
  (sRet [0, 1] (fVar 4))))
def m_law_words : PF := fnP 5 2 [0, 1] b_law_words
def b_law_tale : FS := (sRet [0, 1] (fCall (m_law_shape 40) [(fVar 0), (fCall m_law_words [(fVar 0), (fAdd (fC (.int 1)) (fCall m_law_take [(fVar 0), (fVar 1)]))])]))
def m_law_tale : PF := fnP 2 2 [0, 1] b_law_tale
def b_law_of : FS := (sRet [0, 1] (fIx (fVar 1) (fCall m_law_take [(fVar 0), (fLen (fVar 1))])))
def m_law_of : PF := fnP 2 2 [0, 1] b_law_of
def t_law_few_1 : FT := (fTb (fN (gS oEq) [(fCall m_law_take [(fVar 0), (fVar 2)]), (fC (.int 0))]))
def b_law_few : FS := (sRet [0, 1, 2] (fTuple (fComp [3] (iSeq (fVar 1)) (gN 3) t_law_few_1 (fVar 3))))
def m_law_few : PF := fnP 4 3 [0, 1, 2] b_law_few
def b_law_floors : FS := (sSeq (sAsg (fCall m_law_of [(fVar 0), (fLst [(fLst []), (fLst [(fC (.int 0)), (fC (.int 1)), (fC (.int 2)), (fC (.int 3)), (fC (.int 4)), (fC (.int 5))]), (fLst [(fC (.int 1)), (fC (.int 2)), (fC (.int 3))]), (fLst [(fC (.int 0)), (fC (.int 2)), (fC (.int 4)), (fC (.int 6))]), (fLst [(fC (.int 1)), (fC (.int 2)), (fC (.int 3)), (fC (.int 4)), (fC (.int 9)), (fC (.int 40))])])]) (gN 1))
  (sRet [0] (fIf (fTb (fN (gS oGtI) [(fCall m_law_take [(fVar 0), (fC (.int 4))]), (fC (.int 0))])) (fCall m_law_few [(fVar 0), (fVar 1), (fC (.int 2))]) (fTup [(fAdd (fC (.int 1)) (fCall m_law_take [(fVar 0), (fC (.int 4))]))]))))
def m_law_floors : PF := fnP 2 1 [0] b_law_floors
def t_law_deep_1 : FT := (fAndT (fTb (fN (gS oLeI) [(fIx (fVar 2) (fC (.int 0))), (fIx (fVar 1) (fC (.int 0)))])) (fTb (fN (gS oLeI) [(fIx (fVar 1) (fC (.int 1))), (fIx (fVar 2) (fC (.int 1)))])))
def b_law_deep : FS := (sRet [0, 1] (fSub (fLen (fComp [2] (iKeys (fCall (m_law_spans 40) [(fVar 0), (fC (.int 0))])) (gN 2) t_law_deep_1 (fVar 2))) (fC (.int 1))))
def m_law_deep : PF := fnP 3 2 [0, 1] b_law_deep
def t_law_is_let_1 : FT := (fTb (fChain oLtI oLtI (fVar 3) (fVar 5) (fVar 4)))
def b_law_is_let : FS := (sSeq (sIf (fTb (fN (gS oEq) [(fIx (fVar 2) (fC (.int 1))), (fTup [])])) (sRet [0, 1, 2] (fC (.bl true))) sNil)
  (sSeq (sPar (gsCons (gN 3) (gsCons (gN 4) gsNil)) [(fCallP m_law_deep [(fVar 0), (fIx (fVar 2) (fC (.int 0)))]), (fCallP m_law_deep [(fVar 0), (fIx (fVar 2) (fC (.int 1)))])])
  (sRet [0, 1, 2] (fOrV (fN gIn [(fVar 3), (fVar 1)]) (fN (gS oEq) [(fComp [5] (iSeq (fVar 1)) (gN 5) t_law_is_let_1 (fVar 5)), (fLst [])])))))
def m_law_is_let : PF := fnP 6 3 [0, 1, 2] b_law_is_let
def l_law_right_1 : FS := (sSeq (sAsg (fCallP m_law_is_let [(fVar 4), (fVar 5), (fVar 3)]) (gN 6))
  (sSeq (sAsg (fLst [(fCallP m_is_allowed [(fVar 4), (fVar 5), (fVar 3)]), (fCallP m_is_allowed [(fIx (fVar 2) (fC (.int 0))), (fIx (fVar 2) (fC (.int 1))), (fCallP (m_law_lists 40) [(fVar 3)])])]) (gN 7))
  (sIf (fNotT (fTr (fPure (fCallP (m_law_same 40) [(fVar 7), (fLst [(fVar 6), (fVar 6)])])))) (sRet [0] (fC (.bl false))) sNil)))
def l_law_right_2 : FS := (sSeq (sPar (gsCons (gN 4) (gsCons (gN 5) gsNil)) [(fCall m_law_tale [(fVar 0), (fC (.int 8))]), (fCall m_law_floors [(fVar 0)])])
  (sSeq (sAsg (fCallP (m_law_lists 40) [(fLst [(fVar 4), (fVar 5)])]) (gN 2))
  (sSeq (sFor (iSeq (fCallP m_law_pieces [(fVar 4)])) (gN 3) l_law_right_1)
  (sIf (fTb (fN (gS oNe) [(fVar 2), (fCallP (m_law_lists 40) [(fLst [(fVar 4), (fVar 5)])])])) (sRet [0] (fC (.bl false))) sNil))))
def b_law_right : FS := (sSeq (sIf (fNotT (fTr (fCall m_law_hand_right []))) (sRet [0] (fC (.bl false))) sNil)
  (sSeq (sFor (iRange1 (fC (.int 4))) (gN 1) l_law_right_2)
  (sRet [0] (fC (.bl true)))))
def m_law_right : PF := fnP 8 1 [0] b_law_right
def b_law_box : FS := (sSeq (sAsg (fIf (fTb (fN gLt [(fVar 1), (fLen (fVar 0))])) (fIx (fVar 0) (fVar 1)) (fC (.int 0))) (gN 2))
  (sRet [0, 1] (fLst [(fMul (fAbs (fVar 2)) (fInt (fN (gS oGeI) [(fAbs (fVar 2)), (fPow (fC (.int 10)) (fC (.int 18)))]))), (fAdd (fAdd (fMod (fInt (fVar 2)) (fC (.int 2305843009213693951))) (fMul (fC (.int 39373)) (fVar 1))) (fC (.int 543))), (fC (.int 0))])))
def m_law_box : PF := fnP 3 2 [0, 1] b_law_box
def l_law_1 : FS := (sIf (fNotT (fTr (fCall m_law_right [(fCallP m_law_box [(fVar 1), (fVar 2)])]))) (sRet [0] (fC (.bl false))) sNil)
def b_law : FS := (sSeq (sAsg (fCallP m_law_cells [(fVar 0), (fC (.int 3))]) (gN 1))
  (sSeq (sFor (iRange1 (fLen (fVar 1))) (gN 2) l_law_1)
  (sRet [0] (fC (.bl true)))))
def m_law : PF := fnP 3 1 [0] b_law
end Pu

namespace Pu
open PySem L2
theorem R_st_val {en : En} {w : W} : R.st en (.val w) = some (en, .val w) := rfl
theorem R_st_pl {en : En} {i : Nat} : R.st en (.pl i []) = some (en, .pl i []) := rfl
theorem R_st_plc {en : En} {i k : Nat} {p : List Nat} : R.st en (.pl i (k :: p)) = match en.get i (k :: p) with
    | some w => some (en.put i (k :: p) (.sh w.d), .val (.sh w.d))
    | none => none := rfl
theorem R_d_val {en : En} {w : W} : R.d en (.val w) = some w.d := rfl
theorem R_d_pl {en : En} {i : Nat} {p : List Nat} : R.d en (.pl i p) = match en.get i p with
    | some w => some w.d
    | none => none := rfl
def vW (en : En) (i : Nat) : Option W → Option (En × R)
  | some (.sh .any) => none
  | some (.sh d) => some (en, .val (.sh d))
  | some _ => some (en, .pl i [])
  | none => none
theorem fVar_eq (i : Nat) (en : En) : fVar i en = vW en i en[i]? := by
  unfold fVar vW
  cases en[i]? with
  | none => rfl
  | some w =>
    cases w with
    | sh d => cases d <;> rfl
    | _ => rfl
theorem vW_sh {en : En} {i : Nat} {d : D} (h : d ≠ .any) : vW en i (some (.sh d)) = some (en, .val (.sh d)) := by cases d <;> first | rfl | exact absurd rfl h
theorem vW_lst {en : En} {i : Nat} {ws : List W} : vW en i (some (.lst ws)) = some (en, .pl i []) := rfl
theorem vW_dT {en : En} {i : Nat} {ks : List (List Key)} {ds : List D} : vW en i (some (.dT ks ds)) = some (en, .pl i []) := rfl
theorem vW_ins {en : En} {i : Nat} {c : Str} {ws : List W} : vW en i (some (.ins c ws)) = some (en, .pl i []) := rfl
theorem ixN_lit0 {n : Nat} : ixN (n + 1) 0 = some 0 := by unfold ixN; simp; try omega
theorem ixN_lit1 {n : Nat} : ixN (n + 1 + 1) 1 = some 1 := by unfold ixN; simp; try omega
theorem ixN_lit2 {n : Nat} : ixN (n + 1 + 1 + 1) 2 = some 2 := by unfold ixN; simp; try omega
theorem size_ok {n : Nat} (h : n ≤ 1000000) : (n ≤ sizeLine) = True := eq_true (Nat.le_trans h (by decide))
theorem size_ok1 {n : Nat} (h : n < 1000000) : (n < sizeLine) = True := eq_true (Nat.lt_of_lt_of_le h (by decide))
theorem sSeq_nx {f g : FS} {en en1 : En} {r : Option (En × Fl)} (h : f en = some (en1, .nx)) (h2 : g en1 = r) : sSeq f g en = r := by simp only [sSeq, h, h2]
theorem fnP_ret {n np : Nat} {fix : List Nat} {b : FS} {ws : List W} {en' : En} {w : W} (hl : ws.length = np) (h : b (ws ++ List.replicate (n - np) (.sh .any)) = some (en', .ret w)) : fnP n np fix b ws = some (w, outs fix 0 np en') := by
  unfold fnP
  rw [if_pos hl, h]
theorem fnP_nx {n np : Nat} {fix : List Nat} {b : FS} {ws : List W} {en' : En} (hl : ws.length = np) (h : b (ws ++ List.replicate (n - np) (.sh .any)) = some (en', .nx)) : fnP n np fix b ws = some (.sh .non, outs fix 0 np en') := by
  unfold fnP
  rw [if_pos hl, h]
theorem sFor_eq {fi : FI} {g : FG} {b : FS} {en en1 : En} {ds : List D} {r : Option (En × Fl)} (h : fi en = some (en1, ds)) (h2 : forD g b ds en1 = r) : sFor fi g b en = r := by simp only [sFor, h, h2]
def sW (xs : List Str) : List W := xs.map fun x => .sh (.str x)
def sD (xs : List Str) : List D := xs.map D.str
theorem sW_len (xs : List Str) : (sW xs).length = xs.length := by simp [sW]
theorem sD_len (xs : List Str) : (sD xs).length = xs.length := by simp [sD]
theorem sW_ds : ∀ xs : List Str, W.ds (sW xs) = sD xs
  | [] => rfl
  | x :: xs => by
    have := sW_ds xs
    simp only [sW, sD, List.map_cons, W.ds, W.d] at this ⊢
    rw [this]
theorem dsh_ds : ∀ xs : List D, W.ds (xs.map W.sh) = xs
  | [] => rfl
  | x :: xs => by
    have := dsh_ds xs
    simp only [List.map_cons, W.ds, W.d] at this ⊢
    rw [this]
theorem sD_sh (xs : List Str) : (sD xs).map W.sh = sW xs := by simp [sD, sW]
theorem sW_app (xs ys : List Str) : sW (xs ++ ys) = sW xs ++ sW ys := by simp [sW]
theorem sW_erase : ∀ (xs : List Str) (k : Nat), (sW xs).eraseIdx k = sW (xs.eraseIdx k)
  | [], k => by simp [sW]
  | x :: xs, 0 => by simp [sW]
  | x :: xs, k + 1 => by
    have := sW_erase xs k
    simp only [sW, List.map_cons, List.eraseIdx_cons_succ] at this ⊢
    rw [this]
theorem sW_get (xs : List Str) (k : Nat) (h : k < xs.length) : (sW xs)[k]? = some (.sh (.str xs[k])) := by simp [sW, h]
theorem size_le {n : Nat} (h : n ≤ 1000000) : n ≤ sizeLine := Nat.le_trans h (by decide)
theorem size_lt {n : Nat} (h : n < 1000000) : n < sizeLine := Nat.lt_of_lt_of_le h (by decide)
theorem size_le1 {n : Nat} (h : n ≤ 1000000) : n ≤ sizeLine := size_le h
theorem seqIx {r : Int} {n : Nat} (h0 : 0 ≤ r) (h1 : r < n) : seqIndex? r n = some r.toNat := by
  unfold seqIndex?
  simp
  omega
theorem erase_perm {α : Type} : ∀ (l : List α) (k : Nat) (h : k < l.length), (l[k] :: l.eraseIdx k).Perm l
  | x :: l, 0, _ => by simp
  | x :: l, k + 1, h => by
    simp only [List.length_cons, Nat.add_lt_add_iff_right] at h
    simp only [List.getElem_cons_succ, List.eraseIdx_cons_succ]
    exact (List.Perm.swap _ _ _).trans ((erase_perm l k h).cons x)
theorem compD_map {vs : List Nat} {g : FG} {f : FE} {en : En} (o : D → W) : ∀ (ds : List D) (acc : List W), acc.length + ds.length ≤ 1000000 → okV en vs = true →
    (∀ d ∈ ds, ∃ en1 en3 r en4, g (wipeE en vs) (.sh d) = some en1 ∧ en1.length = en.length ∧ f en1 = some (en3, r) ∧ r.tk en3 = some (en4, o d) ∧ en4.length = en.length ∧ restE en4 en vs = en) →
    compD vs g tYesE f ds en acc = some (en, acc ++ ds.map o)
  | [], acc, _, _, _ => by simp [compD]
  | d :: ds, acc, hl, hk, h => by
    obtain ⟨en1, en3, r, en4, h1, h2, h3, h4, h5, h6⟩ := h d (by simp)
    simp only [List.length_cons] at hl
    have ih := compD_map o ds (acc ++ [o d]) (by simp; omega) hk fun x hx => h x (by simp [hx])
    have hs : acc.length < sizeLine := size_lt (by omega)
    simp [compD, hk, h1, h2, tYesE, h3, h4, h5, h6, hs, ih]
theorem compD_filter {vs : List Nat} {g : FG} {t : FT} {f : FE} {en : En} (p : D → Bool) (o : D → W) : ∀ (ds : List D) (acc : List W), acc.length + ds.length ≤ 1000000 → okV en vs = true →
    (∀ d ∈ ds, ∃ en1 en2, g (wipeE en vs) (.sh d) = some en1 ∧ t en1 = some (en2, p d) ∧ en1.length = en.length ∧ en2.length = en.length ∧ restE en2 en vs = en ∧
      ∃ en3 r en4, f en2 = some (en3, r) ∧ r.tk en3 = some (en4, o d) ∧ en4.length = en.length ∧ restE en4 en vs = en) →
    compD vs g t f ds en acc = some (en, acc ++ (ds.filter p).map o)
  | [], acc, _, _, _ => by simp [compD]
  | d :: ds, acc, hl, hk, h => by
    obtain ⟨en1, en2, h1, h2, h7, h8, h9, en3, r, en4, h3, h4, h5, h6⟩ := h d (by simp)
    simp only [List.length_cons] at hl
    have ih := compD_filter p o ds (acc ++ [o d]) (by simp; omega) hk fun x hx => h x (by simp [hx])
    have ih0 := compD_filter p o ds acc (by omega) hk fun x hx => h x (by simp [hx])
    have hs : acc.length < sizeLine := size_lt (by omega)
    cases hp : p d with
    | true =>
      rw [hp] at h2
      simp [compD, hk, h1, h2, h7, h3, h4, h5, h6, hs, ih, hp]
    | false =>
      rw [hp] at h2
      simp [compD, hk, h1, h2, h7, h8, h9, ih0, hp]
theorem isi1 : isiB "tuple" ["list", "tuple"] = some true := by decide +kernel
theorem isi2 : isiB "list" ["list", "tuple"] = some true := by decide +kernel
theorem isi3 : isiB "str" ["list", "tuple"] = some false := by decide +kernel
theorem isi4 : isiB "int" ["list", "tuple"] = some false := by decide +kernel
theorem isi5 : isiB "bool" ["list", "tuple"] = some false := by decide +kernel
theorem isi6 : isiB "NoneType" ["list", "tuple"] = some false := by decide +kernel
theorem isi7 : isiB "str" ["str"] = some true := by decide +kernel
theorem isi8 : isiB "tuple" ["str"] = some false := by decide +kernel
theorem isi9 : isiB "tuple" ["list"] = some false := by decide +kernel
theorem isi10 : isiB "list" ["list"] = some true := by decide +kernel
theorem isi11 : isiB "tuple" ["tuple"] = some true := by decide +kernel
theorem isi12 : isiB "list" ["tuple"] = some false := by decide +kernel
theorem isi13 : isiB "str" ["bool", "str"] = some true := by decide +kernel
theorem isi14 : isiB "bool" ["bool", "str"] = some true := by decide +kernel
theorem isi15 : isiB "int" ["bool", "str"] = some false := by decide +kernel
theorem isi16 : isiB "int" ["int"] = some true := by decide +kernel
theorem isi17 : isiB "int" ["bool"] = some false := by decide +kernel
theorem isi18 : isiB "str" ["bool"] = some false := by decide +kernel
theorem isi19 : isiB "bool" ["bool"] = some true := by decide +kernel
theorem isi20 : isiB "NoneType" ["bool"] = some false := by decide +kernel
def okD : Nat → D → Prop
  | 0, _ => False
  | n + 1, d => match d with
    | .tup ds => ds.length ≤ 10000 ∧ ∀ x ∈ ds, okD n x
    | .lst ds => ds.length ≤ 10000 ∧ ∀ x ∈ ds, okD n x
    | .str x => PyData.strOk x = true
    | .int _ => True
    | .bl _ => True
    | .non => True
    | _ => False
def okT : Nat → D → Prop
  | 0, _ => False
  | n + 1, d => match d with
    | .tup ds => ds.length ≤ 10000 ∧ ∀ x ∈ ds, okT n x
    | .str x => PyData.strOk x = true
    | .int _ => True
    | .bl _ => True
    | .non => True
    | _ => False
def toT : Nat → D → D
  | 0, d => d
  | n + 1, d => match d with
    | .tup ds => .tup (ds.map (toT n))
    | .lst ds => .tup (ds.map (toT n))
    | d => d
def toL : Nat → D → D
  | 0, d => d
  | n + 1, d => match d with
    | .tup ds => .lst (ds.map (toL n))
    | .lst ds => .lst (ds.map (toL n))
    | d => d
def toW : Nat → D → W
  | 0, d => .sh d
  | n + 1, d => match d with
    | .tup ds => .lst (ds.map (toW n))
    | .lst ds => .lst (ds.map (toW n))
    | d => .sh d
theorem okD_ne : ∀ {n : Nat} {d : D}, okD n d → d ≠ .any
  | 0, d, h => by simp [okD] at h
  | n + 1, d, h => by
    intro e
    subst e
    simp [okD] at h
theorem okT_D : ∀ {n : Nat} {d : D}, okT n d → okD n d
  | 0, d, h => by simp [okT] at h
  | n + 1, d, h => by
    cases d <;> simp only [okT, okD] at h ⊢
    all_goals first | exact h | exact ⟨h.1, fun x hx => okT_D (h.2 x hx)⟩
theorem toT_id : ∀ {n : Nat} {d : D}, okT n d → toT n d = d
  | 0, d, h => rfl
  | n + 1, d, h => by
    cases d <;> simp only [okT, toT] at h ⊢
    rename_i ds
    congr 1
    exact (List.map_congr_left fun x hx => toT_id (h.2 x hx)).trans (List.map_id _)
theorem toT_toL : ∀ {n : Nat} {d : D}, okT n d → toT n (toL n d) = d
  | 0, d, h => rfl
  | n + 1, d, h => by
    cases d <;> simp only [okT, toT, toL] at h ⊢
    rename_i ds
    congr 1
    rw [List.map_map]
    exact (List.map_congr_left fun x hx => toT_toL (h.2 x hx)).trans (List.map_id _)
theorem okD_toL : ∀ {n : Nat} {d : D}, okD n d → okD n (toL n d)
  | 0, d, h => by simp [okD] at h
  | n + 1, d, h => by
    cases d <;> simp only [okD, toL] at h ⊢
    all_goals first
      | exact h
      | (refine ⟨by simpa using h.1, fun x hx => ?_⟩
         obtain ⟨y, hy, rfl⟩ := List.mem_map.mp hx
         exact okD_toL (h.2 y hy))
theorem toW_d : ∀ {n : Nat} {d : D}, (toW n d).d = toL n d
  | 0, d => rfl
  | n + 1, d => by
    have go : ∀ ds : List D, W.ds (ds.map (toW n)) = ds.map (toL n) := fun ds => by
      induction ds with
      | nil => rfl
      | cons x xs ih => simp only [List.map_cons, W.ds, ih, toW_d]
    cases d <;> simp only [toW, toL, W.d, go]
theorem okD_py : ∀ {n : Nat} {d : D}, okD n d → ∃ p, d.py = some p ∧ PyData.canLay0 p = true ∧ PyData.depth p ≤ n
  | 0, d, h => by simp [okD] at h
  | n + 1, d, h => by
    have go : ∀ ds : List D, (∀ x ∈ ds, okD n x) → ∃ ps, D.pys ds = some ps ∧ PyData.canLayAll0 ps = true ∧ PyData.depthAll ps ≤ n := fun ds => by
      induction ds with
      | nil => intro _; exact ⟨[], rfl, rfl, by simp [PyData.depthAll]⟩
      | cons x xs ih =>
        intro hx
        obtain ⟨ps, h1, h2, h3⟩ := ih fun y hy => hx y (by simp [hy])
        obtain ⟨p, h4, h5, h6⟩ := okD_py (hx x (by simp))
        refine ⟨p :: ps, by simp [D.pys, h1, h4], by simp [PyData.canLayAll0, h2, h5], ?_⟩
        simp only [PyData.depthAll]
        omega
    cases d <;> simp only [okD] at h
    case tup ds =>
      obtain ⟨ps, h1, h2, h3⟩ := go ds h.2
      exact ⟨.tuple ps, by simp [D.py, h1], by simpa [PyData.canLay0] using h2, by simp only [PyData.depth]; omega⟩
    case lst ds =>
      obtain ⟨ps, h1, h2, h3⟩ := go ds h.2
      exact ⟨.list ps, by simp [D.py, h1], by simpa [PyData.canLay0] using h2, by simp only [PyData.depth]; omega⟩
    case str x => exact ⟨.str x, rfl, by simpa [PyData.canLay0] using h, by simp [PyData.depth]⟩
    case int i => exact ⟨.int i, rfl, rfl, by simp [PyData.depth]⟩
    case bl i => exact ⟨.bool i, rfl, rfl, by simp [PyData.depth]⟩
    case non => exact ⟨.none, rfl, rfl, by simp [PyData.depth]⟩
theorem eqD_refl {n : Nat} {d : D} (h : okD n d) (hn : n ≤ 60) : eqD d d = some true := by
  obtain ⟨p, h1, h2, h3⟩ := okD_py h
  have hs : SeqAt.shaped p = true := by
    unfold SeqAt.shaped
    rw [h2, decide_eq_true (by omega)]
    rfl
  simp [eqD, h1, hs, PySem.SeqAt.eqv_refl p h2]
/-- a value at a name: frozen or an own list -/
def isv (w : W) (d : D) : Prop := w = .sh d ∨ ∃ ws, w = .lst ws ∧ d = .lst (W.ds ws)
theorem isv_d {w : W} {d : D} (h : isv w d) : w.d = d := by
  rcases h with rfl | ⟨ws, rfl, rfl⟩
  · rfl
  · rfl
theorem zip_self : ∀ ds : List D, zipD ds ds = ds.map fun d => .tup [d, d]
  | [] => rfl
  | d :: ds => by simp [zipD, zip_self ds]
theorem bls_true : ∀ ds : List D, D.bls (ds.map fun _ => D.bl true) = some (ds.map fun _ => true)
  | [] => rfl
  | d :: ds => by simp [D.bls, bls_true ds]
theorem ds_bl (ds : List D) : W.ds (ds.map fun _ => W.sh (.bl true)) = ds.map fun _ => D.bl true := by
  induction ds with
  | nil => rfl
  | cons x xs ih => simp only [List.map_cons, W.ds, W.d, ih]
theorem all_true (ds : List D) : (ds.map fun _ => true).all id = true := by simp
theorem eqI (i : Nat) : eqD (.int i) (.int i) = some true := eqD_refl (n := 1) (by simp [okD]) (by omega)
theorem eqB : ∀ b : Bool, eqD (.bl b) (.bl b) = some true := fun b => eqD_refl (n := 1) (by simp [okD]) (by omega)
inductive Tr where
  | leaf (s : Str)
  | node (l r : Tr)
def Tr.D : Tr → D
  | .leaf s => .str s
  | .node l r => .tup [l.D, r.D]
def Tr.leaves : Tr → List Str
  | .leaf s => [s]
  | .node l r => l.leaves ++ r.leaves
def Tr.dep : Tr → Nat
  | .leaf _ => 0
  | .node l r => max l.dep r.dep + 1
theorem Tr.D_ne : ∀ t : Tr, t.D ≠ .any
  | .leaf _ => by simp [Tr.D]
  | .node _ _ => by simp [Tr.D]
theorem Tr.pos : ∀ t : Tr, 0 < t.leaves.length
  | .leaf _ => by simp [Tr.leaves]
  | .node l r => by have := l.pos; simp only [Tr.leaves, List.length_append]; omega
theorem Tr.dep_lt : ∀ t : Tr, t.dep < t.leaves.length
  | .leaf _ => by simp [Tr.leaves, Tr.dep]
  | .node l r => by
    have h1 := l.dep_lt
    have h2 := r.dep_lt
    have h3 := l.pos
    have h4 := r.pos
    simp only [Tr.leaves, Tr.dep, List.length_append]
    omega
theorem Tr.okT : ∀ {n : Nat} (t : Tr), (∀ x ∈ t.leaves, PyData.strOk x = true) → t.dep < n → okT n t.D
  | 0, _, _, h => by omega
  | n + 1, .leaf s, h, _ => by simpa [Tr.D, Pu.okT, Tr.leaves] using h
  | n + 1, .node l r, h, hd => by
    simp only [Tr.dep] at hd
    simp only [Tr.leaves, List.mem_append] at h
    simp only [Tr.D, Pu.okT]
    refine ⟨by simp, fun x hx => ?_⟩
    simp only [List.mem_cons, List.not_mem_nil, or_false] at hx
    rcases hx with rfl | rfl
    · exact l.okT (fun x z => h x (.inl z)) (by omega)
    · exact r.okT (fun x z => h x (.inr z)) (by omega)
theorem shs_sW (xs : List Str) : shs (sW xs) = sW xs := by unfold shs; rw [sW_ds, sD_sh]
theorem shs_sh (xs : List D) : shs (xs.map W.sh) = xs.map W.sh := by unfold shs; rw [dsh_ds]
theorem cut_hi {α : Type} (xs : List α) {k : Int} (h : 0 ≤ k) : cutG xs none (some k) = xs.take k.toNat := by
  unfold cutG HT.sIx
  have h1 : ¬ k < 0 := by omega
  simp only [h1, if_false, List.drop_zero, Nat.sub_zero]
  by_cases h2 : k.toNat ≤ xs.length
  · rw [Nat.min_eq_left h2]
  · rw [Nat.min_eq_right (by omega), List.take_of_length_le (Nat.le_refl _), List.take_of_length_le (by omega)]
theorem cut_lo {α : Type} (xs : List α) {k : Int} (h : 0 ≤ k) : cutG xs (some k) none = xs.drop k.toNat := by
  unfold cutG HT.sIx
  have h1 : ¬ k < 0 := by omega
  simp only [h1, if_false]
  by_cases h2 : k.toNat ≤ xs.length
  · rw [Nat.min_eq_left h2]
    exact List.take_of_length_le (by simp)
  · rw [Nat.min_eq_right (by omega), List.drop_eq_nil_of_le (Nat.le_refl _), List.drop_eq_nil_of_le (by omega)]
    simp
theorem sD_take (xs : List Str) (k : Nat) : (sD xs).take k = sD (xs.take k) := by simp [sD]
theorem sD_drop (xs : List Str) (k : Nat) : (sD xs).drop k = sD (xs.drop k) := by simp [sD]
theorem ixN_in {n : Nat} {r : Int} (h0 : 0 ≤ r) (h1 : r < n) : ixN n r = some r.toNat := by
  unfold ixN
  rw [if_pos h0, if_pos h1]
theorem sW_nil : sW [] = [] := rfl
theorem sD_nil : sD [] = [] := rfl
theorem fls_sD : ∀ xs : List Str, D.fls (sD xs) = some (xs.map V.str)
  | [] => rfl
  | x :: xs => by
    have := fls_sD xs
    simp only [sD, List.map_cons, D.fls, D.fl] at this ⊢
    rw [this]
theorem flat_str (xs : List Str) : (xs.map V.str).all flatV = true := by
  induction xs with
  | nil => rfl
  | cons x xs ih => simp only [List.map_cons, List.all_cons, ih, Bool.and_true]; rfl
theorem str_ne {x y : Str} (h : ¬ x = y) : ¬ x.cps.toList = y.cps.toList := fun e => h (by
  cases x
  cases y
  simp only at e
  rw [Array.toList_inj] at e
  rw [e])
theorem inV_str (x : Str) (xs : List Str) : inV (.str x) (xs.map V.str) = decide (x ∈ xs) := by
  induction xs with
  | nil => simp [inV]
  | cons y ys ih =>
    unfold inV at ih ⊢
    rw [List.map_cons, List.any_cons, ih]
    show ((y == x) || decide (x ∈ ys)) = decide (x ∈ y :: ys)
    by_cases h : x = y
    · subst h; simp
    · have h2 : ¬ y = x := fun z => h z.symm
      simp [h, h2]
theorem insF_str (x : Str) (xs : List Str) : insF (.str x) (sD xs) = some (decide (x ∈ xs)) := by
  have h : flatV (.str x) = true := rfl
  simp only [insF, D.fl, fls_sD, h, flat_str, Bool.true_and, if_true, inV_str]
theorem gIn_str (en : En) (x : Str) (xs : List Str) : gIn en [.val (.sh (.str x)), .val (.sh (.tup (sD xs)))] = some (en, .val (.sh (.bl (decide (x ∈ xs))))) := by
  simp [gIn, gOr, gS, rds, R.d, W.d, oInS, oInF, D.items, insF_str]
theorem ds_sD (xs : List Str) : sD xs = [] ↔ xs = [] := by simp [sD]
theorem eq_nil (xs : List Str) (h : xs.length ≤ 10000) (hs : ∀ x ∈ xs, PyData.strOk x = true) : eqD (.lst (sD xs)) (.lst []) = some (decide (xs = [])) := by
  have h1 : okD 2 (.lst (sD xs)) := by
    simp only [okD]
    refine ⟨by rw [sD_len]; exact h, fun y hy => ?_⟩
    obtain ⟨x, hx, rfl⟩ := List.mem_map.mp hy
    exact hs x hx
  obtain ⟨p, e1, e2, e3⟩ := okD_py h1
  have hsh : SeqAt.shaped p = true := by
    unfold SeqAt.shaped
    rw [e2, decide_eq_true (by omega)]
    rfl
  have h0 : SeqAt.shaped (.list []) = true := by decide
  have e0 : (D.lst []).py = some (.list []) := rfl
  unfold eqD
  rw [e1, e0]
  simp only [hsh, h0, Bool.and_self, if_true]
  cases xs with
  | nil =>
    have e4 : (D.lst (sD [])).py = some (.list []) := rfl
    rw [e4] at e1
    cases e1
    simp [PyData.eqv, PyData.eqvAll]
  | cons x xs =>
    have e4 : (D.lst (sD (x :: xs))).py = match D.pys (sD (x :: xs)) with
      | some ps => some (.list ps)
      | none => none := rfl
    rw [e4] at e1
    have e5 : D.pys (sD (x :: xs)) = match D.pys (sD xs) with
      | some ps => some (.str x :: ps)
      | none => none := by
      simp only [sD, List.map_cons, D.pys, D.py]
      cases D.pys (List.map D.str xs) <;> rfl
    rw [e5] at e1
    cases h9 : D.pys (sD xs) with
    | none => rw [h9] at e1; cases e1
    | some ps =>
      rw [h9] at e1
      cases e1
      simp [PyData.eqv, PyData.eqvAll]
theorem filt_sD (p : D → Bool) (q : Str → Bool) (h : ∀ x, p (.str x) = q x) : ∀ xs : List Str, (sD xs).filter p = sD (xs.filter q)
  | [] => rfl
  | x :: xs => by
    have := filt_sD p q h xs
    simp only [sD, List.map_cons, List.filter_cons, h] at this ⊢
    split
    · simp only [List.map_cons, this]
    · exact this
theorem ds_bls (p : Str → Bool) (xs : List Str) : W.ds (xs.map fun x => W.sh (.bl (p x))) = xs.map fun x => D.bl (p x) := by
  induction xs with
  | nil => rfl
  | cons x xs ih => simp only [List.map_cons, W.ds, W.d, ih]
theorem bls_map (p : Str → Bool) (xs : List Str) : D.bls (xs.map fun x => D.bl (p x)) = some (xs.map p) := by
  induction xs with
  | nil => rfl
  | cons x xs ih => simp only [List.map_cons, D.bls, ih]
theorem any_filter (p : Str → Bool) (xs : List Str) : (xs.map p).any id = !decide (xs.filter p = []) := by
  induction xs with
  | nil => rfl
  | cons x xs ih =>
    simp only [List.map_cons, List.any_cons, ih, id, List.filter_cons]
    cases p x <;> simp
theorem any_filter' (p : Str → Bool) (xs : List Str) : (xs.map p).any (fun x => x) = !decide (xs.filter p = []) := any_filter p xs
def trD (ts : List Tr) : List D := ts.map Tr.D
theorem strs_sD : ∀ xs : List Str, D.strs (sD xs) = some xs
  | [] => rfl
  | x :: xs => by
    have := strs_sD xs
    simp only [sD, List.map_cons, D.strs] at this ⊢
    rw [this]
theorem oSort_sD (xs : List Str) (h : xs.length < 64) : oSort (sD xs) = some (sD (srt leS xs)) := by
  unfold oSort
  rw [sD_len, if_pos h, strs_sD]
  rfl
theorem trD_len (ts : List Tr) : (trD ts).length = ts.length := by simp [trD]
theorem okD_mono : ∀ {n m : Nat} {d : D}, okD n d → n ≤ m → okD m d
  | 0, _, _, h, _ => by simp [okD] at h
  | n + 1, 0, _, _, l => by omega
  | n + 1, m + 1, d, h, l => by
    cases d <;> simp only [okD] at h ⊢
    all_goals first | exact h | exact ⟨h.1, fun x hx => okD_mono (h.2 x hx) (by omega)⟩
theorem okT_mono : ∀ {n m : Nat} {d : D}, okT n d → n ≤ m → okT m d
  | 0, _, _, h, _ => by simp [okT] at h
  | n + 1, 0, _, _, l => by omega
  | n + 1, m + 1, d, h, l => by
    cases d <;> simp only [okT] at h ⊢
    all_goals first | exact h | exact ⟨h.1, fun x hx => okT_mono (h.2 x hx) (by omega)⟩
theorem toT_toL' : ∀ {n m : Nat} {d : D}, okT n d → n ≤ m → toT m (toL n d) = d
  | 0, _, _, h, _ => by simp [okT] at h
  | n + 1, 0, _, _, l => by omega
  | n + 1, m + 1, d, h, l => by
    cases d <;> simp only [okT, toT, toL] at h ⊢
    rename_i ds
    congr 1
    rw [List.map_map]
    exact (List.map_congr_left fun x hx => toT_toL' (h.2 x hx) (by omega)).trans (List.map_id _)
theorem okT_tup {n : Nat} {ds : List D} (h1 : ds.length ≤ 10000) (h2 : ∀ x ∈ ds, okT n x) : okT (n + 1) (.tup ds) := by
  simp only [okT]
  exact ⟨h1, h2⟩
theorem okT_strs {xs : List Str} {n : Nat} (h : ∀ x ∈ xs, PyData.strOk x = true) (l : xs.length ≤ 1000) (hn : 2 ≤ n) : okT n (.tup (sD xs)) := by
  obtain ⟨m, rfl⟩ : ∃ m, n = m + 2 := ⟨n - 2, by omega⟩
  refine okT_tup (n := m + 1) (by rw [sD_len]; omega) fun y hy => ?_
  obtain ⟨x, hx, rfl⟩ := List.mem_map.mp hy
  exact h x hx
theorem toW_lst {n : Nat} {ds : List D} : toW (n + 1) (.lst ds) = .lst (ds.map (toW n)) := by simp only [toW]
theorem toL_lst {n : Nat} {ds : List D} : toL (n + 1) (.lst ds) = .lst (ds.map (toL n)) := by simp only [toL]
theorem toW_tup {n : Nat} {ds : List D} : toW (n + 1) (.tup ds) = .lst (ds.map (toW n)) := by simp only [toW]
theorem toL_tup {n : Nat} {ds : List D} : toL (n + 1) (.tup ds) = .lst (ds.map (toL n)) := by simp only [toL]
theorem okD_lst {n : Nat} {ds : List D} (h1 : ds.length ≤ 10000) (h2 : ∀ x ∈ ds, okD n x) : okD (n + 1) (.lst ds) := by
  simp only [okD]
  exact ⟨h1, h2⟩
theorem toL_ne {n : Nat} {d : D} (h : okD n d) : toL n d ≠ .any := okD_ne (okD_toL h)
def isT0 : Option (W × List W) → Bool
  | some (.sh (.bl true), []) => true
  | _ => false
theorem isT0_eq {r : Option (W × List W)} (h : isT0 r = true) : r = some (.sh (.bl true), []) := by
  unfold isT0 at h
  split at h
  · rfl
  · cases h
def iW (xs : List Int) : List W := xs.map fun x => .sh (.int x)
theorem iW_len (xs : List Int) : (iW xs).length = xs.length := by simp [iW]
theorem iW_get (xs : List Int) (k : Nat) (h : k < xs.length) : (iW xs)[k]? = some (.sh (.int xs[k])) := by simp [iW, h]
theorem iW_set (xs : List Int) (k : Nat) (v : Int) : (iW xs).set k (.sh (.int v)) = iW (xs.set k v) := by simp [iW, List.map_set]
theorem iD_sh (xs : List Int) : (xs.map D.int).map W.sh = iW xs := by simp [iW]
theorem cut_2 {α : Type} (xs : List α) (k : Nat) (h : xs.length ≤ 63) (hk : k ≤ 63) : cutG xs (some (k : Int)) (some 63) = (xs.drop k).take (63 - k) := by
  have e1 : HT.sIx xs.length 0 (some (k : Int)) = min k xs.length := HT.sIx_nat xs.length 0 k
  have e2 : HT.sIx xs.length xs.length (some 63) = min 63 xs.length := HT.sIx_nat xs.length xs.length 63
  unfold cutG
  rw [e1, e2]
  have l : (xs.drop k).length = xs.length - k := List.length_drop
  rw [List.take_of_length_le (l := xs.drop k) (i := 63 - k) (by omega)]
  by_cases h3 : k ≤ xs.length
  · rw [Nat.min_eq_left h3]
    exact List.take_of_length_le (by omega)
  · have z1 : xs.drop k = [] := List.drop_eq_nil_of_le (by omega)
    have z2 : min k xs.length = xs.length := by omega
    rw [z1, z2, List.drop_length]
    simp
theorem fComp_eq {vs : List Nat} {fi : FI} {g : FG} {t : FT} {f : FE} {en en1 en2 : En} {ds : List D} {ws : List W} (h1 : fi en = some (en1, ds)) (h2 : compD vs g t f ds en1 [] = some (en2, ws)) : fComp vs fi g t f en = some (en2, .val (.lst ws)) := by simp only [fComp, h1, h2]
theorem fAll_eq {f : FE} {en en1 : En} {n : Nat} (h : f en = some (en1, .val (.lst (List.replicate n (W.sh (.bl true)))))) (hb : D.bls (W.ds (List.replicate n (W.sh (.bl true)))) = some (List.replicate n true)) (fix : List Nat) : sRet fix (fAll f) en = some (en1, .ret (.sh (.bl true))) := by
  have z : (List.replicate n true).all id = true := by simp
  simp only [sRet, fAll, fU, h, gS1, R.d, W.d, oAll, D.litems, hb, z, R.out]
theorem bls_t : ∀ n : Nat, D.bls (W.ds (List.replicate n (W.sh (.bl true)))) = some (List.replicate n true)
  | 0 => rfl
  | n + 1 => by simp [List.replicate_succ, W.ds, W.d, D.bls, bls_t n]
theorem tdats_all : ∀ {ds : List D}, (∀ d ∈ ds, d.tdat = true) → D.tdats ds = true
  | [], _ => rfl
  | d :: ds, h => by
    have z := tdats_all (ds := ds) fun x hx => h x (by simp [hx])
    simp only [D.tdats, h d (by simp), z, Bool.and_self]
theorem cleans_all : ∀ {ws : List W}, (∀ w ∈ ws, w.clean = true) → W.cleans ws = true
  | [], _ => rfl
  | w :: ws, h => by
    have z := cleans_all (ws := ws) fun x hx => h x (by simp [hx])
    simp only [W.cleans, h w (by simp), z, Bool.and_self]
theorem tdats_sD (xs : List Str) : D.tdats (sD xs) = true := tdats_all fun d hd => by
  obtain ⟨x, _, rfl⟩ := List.mem_map.mp hd
  rfl
theorem cleans_sW (xs : List Str) : W.cleans (sW xs) = true := cleans_all fun d hd => by
  obtain ⟨x, _, rfl⟩ := List.mem_map.mp hd
  rfl
theorem cleans_sh {ds : List D} (h : D.tdats ds = true) : W.cleans (ds.map W.sh) = true := cleans_all fun w hw => by
  obtain ⟨x, hx, rfl⟩ := List.mem_map.mp hw
  have : ∀ {ds : List D}, D.tdats ds = true → ∀ d ∈ ds, d.tdat = true := fun {ds} => by
    induction ds with
    | nil => intro _ d hd; cases hd
    | cons y ys ih =>
      intro h d hd
      simp only [D.tdats, Bool.and_eq_true] at h
      rcases List.mem_cons.mp hd with rfl | hd
      · exact h.1
      · exact ih h.2 d hd
  exact this h x hx
theorem okT_tdat : ∀ {n : Nat} {d : D}, okT n d → d.tdat = true
  | 0, _, h => by simp [okT] at h
  | n + 1, d, h => by
    cases d <;> simp only [okT] at h <;> simp only [D.tdat]
    exact tdats_all fun x hx => okT_tdat (h.2 x hx)
theorem okD_tdat : ∀ {n : Nat} {d : D}, okD n d → (toT n d).tdat = true
  | 0, _, h => by simp [okD] at h
  | n + 1, d, h => by
    cases d <;> simp only [okD] at h <;> simp only [D.tdat, toT]
    all_goals
      refine tdats_all fun x hx => ?_
      obtain ⟨y, hy, rfl⟩ := List.mem_map.mp hx
      exact okD_tdat (h.2 y hy)
theorem okD_clean : ∀ {n : Nat} {d : D}, okD n d → (toW n d).clean = true
  | 0, _, h => by simp [okD] at h
  | n + 1, d, h => by
    cases d <;> simp only [okD] at h <;> simp only [W.clean, D.tdat, toW]
    all_goals
      refine cleans_all fun x hx => ?_
      obtain ⟨y, hy, rfl⟩ := List.mem_map.mp hx
      exact okD_clean (h.2 y hy)
theorem Tr.tdat : ∀ t : Tr, t.D.tdat = true
  | .leaf _ => rfl
  | .node l r => by simp only [Tr.D, D.tdat, D.tdats, l.tdat, r.tdat, Bool.and_self]
theorem forD_nx {g : FG} {body : FS} {d : D} {ds : List D} {en en1 en2 : En} {r : Option (En × Fl)} (h1 : g en (.sh d) = some en1) (h2 : body en1 = some (en2, .nx)) (h3 : forD g body ds en2 = r) : forD g body (d :: ds) en = r := by
  simp only [forD, h1, h2, h3]
theorem forD_ret {g : FG} {body : FS} {d : D} {ds : List D} {en en1 en2 : En} {w : W} (h1 : g en (.sh d) = some en1) (h2 : body en1 = some (en2, .ret w)) : forD g body (d :: ds) en = some (en2, .ret w) := by
  simp only [forD, h1, h2]
theorem sIf_nx {t : FT} {f g : FS} {en en1 : En} {b : Bool} {r : Option (En × Fl)} (h : t en = some (en1, b)) (h2 : (if b = true then f en1 else g en1) = r) : sIf t f g en = r := by
  simp only [sIf, h]
  cases b <;> simpa using h2
theorem okD_tup {n : Nat} {ds : List D} (h1 : ds.length ≤ 10000) (h2 : ∀ x ∈ ds, okD n x) : okD (n + 1) (.tup ds) := by
  simp only [okD]
  exact ⟨h1, h2⟩
theorem okD_non {n : Nat} : okD (n + 1) .non := by simp [okD]
theorem fls_int : ∀ is : List Int, D.fls (is.map D.int) = some (is.map V.int)
  | [] => rfl
  | x :: xs => by
    have := fls_int xs
    simp only [List.map_cons, D.fls, D.fl] at this ⊢
    rw [this]
theorem flat_int (xs : List Int) : (xs.map V.int).all flatV = true := by
  induction xs with
  | nil => rfl
  | cons x xs ih => simp only [List.map_cons, List.all_cons, ih, Bool.and_true]; rfl
theorem inV_int (x : Int) (xs : List Int) : inV (.int x) (xs.map V.int) = decide (x ∈ xs) := by
  induction xs with
  | nil => simp [inV]
  | cons y ys ih =>
    unfold inV at ih ⊢
    rw [List.map_cons, List.any_cons, ih]
    show ((y == x) || decide (x ∈ ys)) = decide (x ∈ y :: ys)
    by_cases h : x = y
    · subst h; simp
    · have h2 : ¬ y = x := fun z => h z.symm
      simp [h, h2]
theorem insF_int (x : Int) (xs : List Int) : insF (.int x) (xs.map D.int) = some (decide (x ∈ xs)) := by
  have h : flatV (.int x) = true := rfl
  simp only [insF, D.fl, fls_int, h, flat_int, Bool.true_and, if_true, inV_int]
theorem okD_ints {n : Nat} {is : List Int} (h : is.length ≤ 10000) : okD (n + 2) (.lst (is.map D.int)) := okD_lst (n := n + 1) (by simpa using h) fun x hx => by
  obtain ⟨i, _, rfl⟩ := List.mem_map.mp hx
  simp [okD]
theorem okD_intsT {n : Nat} {is : List Int} (h : is.length ≤ 10000) : okD (n + 2) (.tup (is.map D.int)) := okD_tup (n := n + 1) (by simpa using h) fun x hx => by
  obtain ⟨i, _, rfl⟩ := List.mem_map.mp hx
  simp [okD]
theorem okT_intsT {n : Nat} {is : List Int} (h : is.length ≤ 10000) : okT (n + 2) (.tup (is.map D.int)) := okT_tup (n := n + 1) (by simpa using h) fun x hx => by
  obtain ⟨i, _, rfl⟩ := List.mem_map.mp hx
  simp [okT]
theorem iW_ds : ∀ xs : List Int, W.ds (iW xs) = xs.map D.int
  | [] => rfl
  | x :: xs => by
    have := iW_ds xs
    simp only [iW, List.map_cons, W.ds, W.d] at this ⊢
    rw [this]
theorem pys_map {β : Type} (f : β → D) (enc : β → PyData) : ∀ {bs : List β}, (∀ b ∈ bs, (f b).py = some (enc b)) → D.pys (bs.map f) = some (bs.map enc)
  | [], _ => rfl
  | b :: bs, h => by
    have z := pys_map f enc (bs := bs) fun x hx => h x (by simp [hx])
    simp only [List.map_cons, D.pys, h b (by simp), z]
/-- sorted, by what the things are -/
theorem oSortX_map {β : Type} (f : β → D) (enc : β → PyData) {bs : List β} (he : ∀ b ∈ bs, (f b).py = some (enc b)) (ha : ∀ b ∈ bs, ∀ c ∈ bs, PySem.W.alike (enc b) (enc c) = true)
    (hs : (∀ b ∈ bs, tupB (enc b) = true) ∨ ∀ b ∈ bs, notB (enc b) = true) (hd : ∀ b ∈ bs, (enc b).depth ≤ 60) (hl : bs.length ≤ 1000000) : oSortX (bs.map f) = some ((srt (PySem.W.dataLe false enc) bs).map f) := by
  unfold oSortX
  rw [pys_map f enc he]
  have h1 : alikeB (bs.map enc) = true := by
    unfold alikeB
    rw [List.all_eq_true]
    intro x hx
    obtain ⟨b, hb, rfl⟩ := List.mem_map.mp hx
    rw [List.all_eq_true]
    intro y hy
    obtain ⟨c, hc, rfl⟩ := List.mem_map.mp hy
    exact ha b hb c hc
  have h2 : sortableB (bs.map enc) = true := by
    unfold sortableB
    rw [Bool.or_eq_true, List.all_eq_true, List.all_eq_true]
    rcases hs with hs | hs
    · refine .inl fun x hx => ?_
      obtain ⟨b, hb, rfl⟩ := List.mem_map.mp hx
      exact hs b hb
    · refine .inr fun x hx => ?_
      obtain ⟨b, hb, rfl⟩ := List.mem_map.mp hx
      exact hs b hb
  have h3 : depthB (bs.map enc) = true := by
    unfold depthB
    rw [List.all_eq_true]
    intro x hx
    obtain ⟨b, hb, rfl⟩ := List.mem_map.mp hx
    simpa using hd b hb
  have h4 : (bs.map f).length ≤ sizeLine := by rw [List.length_map]; exact size_le hl
  simp only [h1, h2, h3, h4, decide_true, Bool.and_self, if_true]
  congr 1
  symm
  refine srt_map f fun a ha b hb => ?_
  simp only [leD, he a ha, he b hb, PySem.W.dataLe_eq, cond_false]
/-! pairs of whole numbers -/
def pD (p : Nat × Nat) : D := .tup [.int (p.1 : Int), .int (p.2 : Int)]
def leP (p q : Nat × Nat) : Bool := decide (p.1 < q.1 ∨ (p.1 = q.1 ∧ p.2 ≤ q.2))
def encP (p : Nat × Nat) : PyData := .tuple [.int (p.1 : Int), .int (p.2 : Int)]
theorem pD_py (p : Nat × Nat) : (pD p).py = some (encP p) := rfl
theorem alikeP (p q : Nat × Nat) : PySem.W.alike (encP p) (encP q) = true := by simp [encP, PySem.W.alike, PySem.W.alikeAll]
theorem depthP (p : Nat × Nat) : (encP p).depth ≤ 60 := by simp [encP, PyData.depth, PyData.depthAll]
theorem dataLeP : PySem.W.dataLe false encP = leP := by
  have := PySem.W.dataLe_ii (fun p : Nat × Nat => (p.1 : Int)) (fun p => (p.2 : Int))
  refine this.trans ?_
  funext p q
  unfold leP
  congr 1
  simp only [Int.ofNat_lt, Int.ofNat_le, Int.ofNat_inj]
theorem oSortX_pairs {ps : List (Nat × Nat)} (h : ps.length ≤ 1000000) : oSortX (ps.map pD) = some ((srt leP ps).map pD) := by
  have := oSortX_map pD encP (bs := ps) (fun p _ => pD_py p) (fun p _ q _ => alikeP p q) (.inl fun p _ => rfl) (fun p _ => depthP p) h
  rw [dataLeP] at this
  exact this
theorem leP_tot (a b : Nat × Nat) (h : leP a b = false) : leP b a = true := by
  simp only [leP, decide_eq_false_iff_not, decide_eq_true_eq] at h ⊢; omega
theorem leP_tr (a b c : Nat × Nat) (h : leP a b = true) (h' : leP b c = true) : leP a c = true := by
  simp only [leP, decide_eq_true_eq] at h h' ⊢; omega
theorem leP_an (a b : Nat × Nat) (h : leP a b = true) (h' : leP b a = true) : a = b := by
  simp only [leP, decide_eq_true_eq] at h h'
  exact Prod.ext (by omega) (by omega)
/-! names -/
def leN (x y : Str) : Bool := PySem.W.dataLe false (fun x : Str => PyData.str x) x y
theorem oSortX_names {xs : List Str} (h : xs.length ≤ 1000000) : oSortX (sD xs) = some (sD (srt leN xs)) :=
  oSortX_map D.str PyData.str (bs := xs) (fun _ _ => rfl) (fun _ _ _ _ => by simp [PySem.W.alike]) (.inr fun _ _ => rfl) (fun _ _ => by simp [PyData.depth]) h
theorem leN_iff (x y : Str) : leN x y = true ↔ x.cps.toList ≤ y.cps.toList := by
  unfold leN
  rw [PySem.W.dataLe_str, decide_eq_true_eq]
theorem leN_tot (a b : Str) (h : leN a b = false) : leN b a = true := by
  rw [leN_iff]
  have h' : ¬ a.cps.toList ≤ b.cps.toList := fun z => by rw [(leN_iff a b).mpr z] at h; cases h
  exact (List.le_total (b.cps.toList) (a.cps.toList)).resolve_right h'
theorem leN_tr (a b c : Str) (h : leN a b = true) (h' : leN b c = true) : leN a c = true := by
  rw [leN_iff] at h h' ⊢
  exact List.le_trans h h'
theorem str_ext {x y : Str} (h : x.cps.toList = y.cps.toList) : x = y := by
  cases x
  cases y
  simp only at h
  rw [Array.toList_inj] at h
  rw [h]
theorem leN_an (a b : Str) (h : leN a b = true) (h' : leN b a = true) : a = b := by
  rw [leN_iff] at h h'
  exact str_ext (List.le_antisymm h h')
def wR (i : Nat) : W → R
  | .sh d => .val (.sh d)
  | _ => .pl i []
theorem vW_w {en : En} {i : Nat} {w : W} (h : w.d ≠ .any) : vW en i (some w) = some (en, wR i w) := by
  cases w with
  | sh d => exact vW_sh (by simpa only [W.d] using h)
  | _ => rfl
theorem wR_st {en : En} {i : Nat} {w : W} : R.st en (wR i w) = some (en, wR i w) := by cases w <;> rfl
theorem wR_d {en : En} {i : Nat} {w : W} (h : en[i]? = some w) : R.d en (wR i w) = some w.d := by
  cases w <;> simp [wR, R.d, En.get, W.get, h]
theorem wR_fz {en : En} {i : Nat} {w : W} (h : en[i]? = some w) : R.fz en (wR i w) = some (en.set i (.sh w.d), w.d) := by
  cases w with
  | sh d =>
    simp only [wR, R.fz, W.d]
    rw [set_get (by simpa only [W.d] using h)]
  | _ => simp [wR, R.fz, En.get, En.put, W.get, W.put, h]
theorem wR_tk {en : En} {i : Nat} {w : W} (h : en[i]? = some w) : R.tk en (wR i w) = some (en.set i (.sh w.d), .sh w.d) := by
  cases w with
  | sh d =>
    simp only [wR, R.tk, W.d]
    rw [set_get (by simpa only [W.d] using h)]
  | _ => simp [wR, R.tk, En.get, En.put, W.get, W.put, h]
theorem toW_ne {n : Nat} {d : D} (h : okD n d) : (toW n d).d ≠ .any := by rw [toW_d]; exact okD_ne (okD_toL h)
def Urn (c : Nat) (u : W) : Prop := ∃ a b t : Int, u = .lst [.sh (.int a), .sh (.int b), .sh (.int t)] ∧ 0 ≤ a ∧ 0 ≤ b ∧ 0 ≤ t ∧ t ≤ c
def drawn (b t low : Int) : Int :=
  (((((b + 48271 * t) * (39373 + t) % 2147483647 + t + b / 1000003) * ((b + 48271 * t) * (39373 + t) % 2147483647 % 40009 + 7)) % 2147483629 * 48271 + (b + 48271 * t) * (39373 + t) % 2147483647) % 2147483587 / 64) % low
theorem take_ok {c : Nat} {u : W} {low : Int} (h : Urn c u) (hc : c < 1000000) (h0 : 0 < low) (h1 : low < 1000000) : ∃ u' r, m_law_take [u, .sh (.int low)] = some (.sh (.int r), [u', .sh (.int low)]) ∧ Urn (c + 1) u' ∧ 0 ≤ r ∧ r < low := by
  obtain ⟨a, b, t, rfl, ha, hb, ht, htc⟩ := h
  by_cases h2 : 0 < a
  · refine ⟨.lst [.sh (.int (a / low)), .sh (.int b), .sh (.int t)], a % low, ?_, ⟨a / low, b, t, rfl, Int.ediv_nonneg ha (by omega), hb, ht, by omega⟩, Int.emod_nonneg _ (by omega), Int.emod_lt_of_pos _ h0⟩
    have h3 : low < 1073741824 := by omega
    simp [m_law_take, b_law_take, ixN, h0, h2, h3, fnP, sSeq, sIf, sAsg, sExpr, sRet, sRetN, sNil, sFor, sPar, sAug, sBk, sCt, gN, gsNil, gsCons, gTupT, gSetI, fC, fVar_eq, vW_sh, vW_lst, vW_ins, vW_dT, evs, fN, fU, gS, gS1, rds, rfz, rtk, R_d_val, R_d_pl, R.fz, R.tk, R_st_val, R_st_pl, R_st_plc, R.out, W.d, W.ds, En.get, En.put, W.get, W.put, oII, tt2, okMul, okDiv, okMod, okPow, oAddI, oSub, oMul, oDiv, oMod, oPow, oLtI, oLeI, oGtI, oGeI, oMax2, oMin2, oNeg, oAddS, oLtS, fAdd, fSub, fMul, fDiv, fMod, fPow, fNeg, fIx, gOr, gAdd, gAddI, fTb, fTr, truthD, fNotT, fAndT, fOrT, fNotV, fAndV, fOrV, fIf, fTup, fLst, gTupD, gLstD, fInt, oInt, fAbs, oAbs, fLen, oLen, fCall, argsOf, putB, outs, gIx, oIxD, gLt, tYesE, fIsi, oNotV, okV, wipeE, restE, W.isSh, W.owned, fMutN, mApp, R.els, D.its, iRange1, iRange2, iSeq, iEnumA, D.walk, fTuple, gTuple, fList, gList, fSorted, gSort, fMutP, qV, qC, slOf, gSl0, gSlLo, gSlHi, gSl2, fSl2, gCatL, gCatT, els2, fPure, frzE, List.map_cons, List.map_nil, fCallP, fCallKP, fMethP, W.clean, W.cleans, D.tdat, D.tdats, size_ok, size_ok1, List.getElem?_cons_zero, List.getElem?_cons_succ, List.getElem?_nil, List.set_cons_zero, List.set_cons_succ, List.length_cons, List.length_nil, List.replicate_succ, List.replicate_zero, List.cons_append, List.nil_append, List.append_nil]
  · have ha0 : a = 0 := by omega
    subst ha0
    refine ⟨.lst [.sh (.int 0), .sh (.int b), .sh (.int (t + 1))], drawn b (t + 1) low, ?_, ⟨0, b, t + 1, rfl, by omega, hb, by omega, by omega⟩, Int.emod_nonneg _ (by omega), Int.emod_lt_of_pos _ h0⟩
    have h3 : -18446744073709551616 < 39373 + (t + 1) := by omega
    have h4 : 39373 + (t + 1) < 18446744073709551616 := by omega
    have h5 : -18446744073709551616 < (b + 48271 * (t + 1)) * (39373 + (t + 1)) % 2147483647 % 40009 + 7 := by omega
    have h6 : (b + 48271 * (t + 1)) * (39373 + (t + 1)) % 2147483647 % 40009 + 7 < 18446744073709551616 := by omega
    simp [m_law_take, b_law_take, drawn, ixN, h0, h2, h3, h4, h5, h6, fnP, sSeq, sIf, sAsg, sExpr, sRet, sRetN, sNil, sFor, sPar, sAug, sBk, sCt, gN, gsNil, gsCons, gTupT, gSetI, fC, fVar_eq, vW_sh, vW_lst, vW_ins, vW_dT, evs, fN, fU, gS, gS1, rds, rfz, rtk, R_d_val, R_d_pl, R.fz, R.tk, R_st_val, R_st_pl, R_st_plc, R.out, W.d, W.ds, En.get, En.put, W.get, W.put, oII, tt2, okMul, okDiv, okMod, okPow, oAddI, oSub, oMul, oDiv, oMod, oPow, oLtI, oLeI, oGtI, oGeI, oMax2, oMin2, oNeg, oAddS, oLtS, fAdd, fSub, fMul, fDiv, fMod, fPow, fNeg, fIx, gOr, gAdd, gAddI, fTb, fTr, truthD, fNotT, fAndT, fOrT, fNotV, fAndV, fOrV, fIf, fTup, fLst, gTupD, gLstD, fInt, oInt, fAbs, oAbs, fLen, oLen, fCall, argsOf, putB, outs, gIx, oIxD, gLt, tYesE, fIsi, oNotV, okV, wipeE, restE, W.isSh, W.owned, fMutN, mApp, R.els, D.its, iRange1, iRange2, iSeq, iEnumA, D.walk, fTuple, gTuple, fList, gList, fSorted, gSort, fMutP, qV, qC, slOf, gSl0, gSlLo, gSlHi, gSl2, fSl2, gCatL, gCatT, els2, fPure, frzE, List.map_cons, List.map_nil, fCallP, fCallKP, fMethP, W.clean, W.cleans, D.tdat, D.tdats, size_ok, size_ok1, List.getElem?_cons_zero, List.getElem?_cons_succ, List.getElem?_nil, List.set_cons_zero, List.set_cons_succ, List.length_cons, List.length_nil, List.replicate_succ, List.replicate_zero, List.cons_append, List.nil_append, List.append_nil]
theorem Urn.mono {c c' : Nat} {u : W} (h : Urn c u) (l : c ≤ c') : Urn c' u := by
  obtain ⟨a, b, t, rfl, h1, h2, h3, h4⟩ := h
  exact ⟨a, b, t, rfl, h1, h2, h3, by omega⟩
/-- the names that are drawn from -/
def pool16 : List Str := ["a", "ab", "b", "c", "cc", "d", "e", "f", "g", "key", "m", "n", "x", "y", "z", "zzzzzzzz"]
theorem words_loop : ∀ (ds : List D) (c : Nat) (u x2 : W) (m : Int) (pool found : List Str), Urn c u → c + ds.length ≤ 1000000 → ds.length ≤ pool.length → pool.length ≤ 1000 → found.length + ds.length ≤ 1000 → (∀ d ∈ ds, d ≠ D.any) → (pool ++ found).Nodup →
    ∃ u' x2' pool' found', forD (gN 2) l_law_words_1 ds [u, .sh (.int m), x2, .lst (sW pool), .lst (sW found)] = some ([u', .sh (.int m), x2', .lst (sW pool'), .lst (sW found')], .nx) ∧ Urn (c + ds.length) u' ∧
      found'.length = found.length + ds.length ∧ (pool' ++ found').Nodup ∧ (∀ x ∈ pool' ++ found', x ∈ pool ++ found)
  | [], c, u, x2, m, pool, found, h, _, _, _, _, _, nd => ⟨u, x2, pool, found, by simp [forD], by simpa using h, by simp, nd, fun _ h => h⟩
  | d :: ds, c, u, x2, m, pool, found, h, hc, hp, hp2, hf, ha, nd => by
    simp only [List.length_cons] at hc hp hf
    obtain ⟨u', r, e, hu', r0, r1⟩ := take_ok (low := (pool.length : Int)) h (by omega) (by omega) (by omega)
    obtain ⟨a, b, t, rfl, _⟩ := id h
    have hk : r.toNat < pool.length := by omega
    have hd : d ≠ .any := ha d (by simp)
    have hnd : (pool.eraseIdx r.toNat ++ (found ++ [pool[r.toNat]])).Nodup := by
      have p1 : (pool.eraseIdx r.toNat ++ (found ++ [pool[r.toNat]])).Perm (pool ++ found) := by
        refine List.Perm.trans ?_ ((erase_perm pool r.toNat hk).append_right found)
        rw [← List.append_assoc]
        exact List.perm_append_comm
      exact p1.nodup_iff.mpr nd
    obtain ⟨u2, x3, p2, f2, e2, hu2, l2, nd2, sub2⟩ := words_loop ds (c + 1) u' (.sh d) m (pool.eraseIdx r.toNat) (found ++ [pool[r.toNat]]) hu' (by omega) (by rw [List.length_eraseIdx]; split <;> omega) (by rw [List.length_eraseIdx]; split <;> omega) (by simp; omega) (fun x hx => ha x (by simp [hx])) hnd
    refine ⟨u2, x3, p2, f2, ?_, by rw [show c + (d :: ds).length = c + 1 + ds.length by simp only [List.length_cons]; omega]; exact hu2, by rw [l2]; simp; omega, nd2, fun x hx => ?_⟩
    · rw [← e2]
      have s1 : -9223372036854775808 ≤ r := by omega
      have s2 : r < 9223372036854775808 := by omega
      have s3 : found.length < sizeLine := size_lt (by omega)
      simp [forD, l_law_words_1, e, mPopAt, sW_len, sW_ds, sD_len, seqIx r0 r1, sW_get _ _ hk, s1, s2, s3, sW_erase, sW_app, fnP, sSeq, sIf, sAsg, sExpr, sRet, sRetN, sNil, sFor, sPar, sAug, sBk, sCt, gN, gsNil, gsCons, gTupT, gSetI, fC, fVar_eq, vW_sh, vW_lst, vW_ins, vW_dT, evs, fN, fU, gS, gS1, rds, rfz, rtk, R_d_val, R_d_pl, R.fz, R.tk, R_st_val, R_st_pl, R_st_plc, R.out, W.d, W.ds, En.get, En.put, W.get, W.put, oII, tt2, okMul, okDiv, okMod, okPow, oAddI, oSub, oMul, oDiv, oMod, oPow, oLtI, oLeI, oGtI, oGeI, oMax2, oMin2, oNeg, oAddS, oLtS, fAdd, fSub, fMul, fDiv, fMod, fPow, fNeg, fIx, gOr, gAdd, gAddI, fTb, fTr, truthD, fNotT, fAndT, fOrT, fNotV, fAndV, fOrV, fIf, fTup, fLst, gTupD, gLstD, fInt, oInt, fAbs, oAbs, fLen, oLen, fCall, argsOf, putB, outs, gIx, oIxD, gLt, tYesE, fIsi, oNotV, okV, wipeE, restE, W.isSh, W.owned, fMutN, mApp, R.els, D.its, iRange1, iRange2, iSeq, iEnumA, D.walk, fTuple, gTuple, fList, gList, fSorted, gSort, fMutP, qV, qC, slOf, gSl0, gSlLo, gSlHi, gSl2, fSl2, gCatL, gCatT, els2, fPure, frzE, List.map_cons, List.map_nil, fCallP, fCallKP, fMethP, W.clean, W.cleans, D.tdat, D.tdats, size_ok, size_ok1, List.getElem?_cons_zero, List.getElem?_cons_succ, List.getElem?_nil, List.set_cons_zero, List.set_cons_succ, List.length_cons, List.length_nil, List.replicate_succ, List.replicate_zero, List.cons_append, List.nil_append, List.append_nil]
      simp [sW]
    · have := sub2 x hx
      simp only [List.mem_append, List.mem_singleton] at this ⊢
      rcases this with z | z | z
      · exact .inl (List.mem_of_mem_eraseIdx z)
      · exact .inr z
      · subst z
        exact .inl (List.getElem_mem hk)
theorem pool16_nd : (pool16 ++ []).Nodup := by decide +kernel
theorem pool16_len : pool16.length = 16 := rfl
theorem words_ok {c m : Nat} {u : W} (h : Urn c u) (hc : c + m ≤ 1000000) (hm : m ≤ 16) : ∃ u' xs, m_law_words [u, .sh (.int m)] = some (.lst (sW xs), [u', .sh (.int m)]) ∧ Urn (c + m) u' ∧ xs.length = m ∧ xs.Nodup ∧ ∀ x ∈ xs, x ∈ pool16 := by
  have hl : ((List.range m).map fun (k : Nat) => D.int (k : Int)).length = m := by simp
  obtain ⟨u', x2, p, f, e, hu, l, nd, sub⟩ := words_loop ((List.range m).map fun (k : Nat) => D.int (k : Int)) c u (.sh .any) m pool16 [] h (by rw [hl]; exact hc) (by rw [hl, pool16_len]; exact hm) (by rw [pool16_len]; omega) (by rw [hl]; simp; omega)
    (fun d hd => by
      simp only [List.mem_map] at hd
      obtain ⟨k, _, rfl⟩ := hd
      simp) pool16_nd
  rw [hl] at hu
  rw [hl] at l
  obtain ⟨a, b, t, rfl, _⟩ := id h
  refine ⟨u', f, ?_, hu, by simpa using l, (List.nodup_append.mp nd).2.1, fun x hx => by simpa using sub x (by simp [hx])⟩
  have s1 : (-4611686018427387904 : Int) ≤ m := by omega
  have s2 : (m : Int) < 4611686018427387904 := by omega
  refine fnP_ret (en' := [u', .sh (.int m), x2, .lst (sW p), .sh .any]) rfl (sSeq_nx (en1 := [.lst [.sh (.int a), .sh (.int b), .sh (.int t)], .sh (.int m), .sh .any, .lst (sW pool16), .lst (sW [])]) ?_ (sSeq_nx (sFor_eq ?_ e) ?_))
  · simp [sW, pool16, fnP, sSeq, sIf, sAsg, sExpr, sRet, sRetN, sNil, sFor, sPar, sAug, sBk, sCt, gN, gsNil, gsCons, gTupT, gSetI, fC, fVar_eq, vW_sh, vW_lst, vW_ins, vW_dT, evs, fN, fU, gS, gS1, rds, rfz, rtk, R_d_val, R_d_pl, R.fz, R.tk, R_st_val, R_st_pl, R_st_plc, R.out, W.d, W.ds, En.get, En.put, W.get, W.put, oII, tt2, okMul, okDiv, okMod, okPow, oAddI, oSub, oMul, oDiv, oMod, oPow, oLtI, oLeI, oGtI, oGeI, oMax2, oMin2, oNeg, oAddS, oLtS, fAdd, fSub, fMul, fDiv, fMod, fPow, fNeg, fIx, gOr, gAdd, gAddI, fTb, fTr, truthD, fNotT, fAndT, fOrT, fNotV, fAndV, fOrV, fIf, fTup, fLst, gTupD, gLstD, fInt, oInt, fAbs, oAbs, fLen, oLen, fCall, argsOf, putB, outs, gIx, oIxD, gLt, tYesE, fIsi, oNotV, okV, wipeE, restE, W.isSh, W.owned, fMutN, mApp, R.els, D.its, iRange1, iRange2, iSeq, iEnumA, D.walk, fTuple, gTuple, fList, gList, fSorted, gSort, fMutP, qV, qC, slOf, gSl0, gSlLo, gSlHi, gSl2, fSl2, gCatL, gCatT, els2, fPure, frzE, List.map_cons, List.map_nil, fCallP, fCallKP, fMethP, W.clean, W.cleans, D.tdat, D.tdats, size_ok, size_ok1, List.getElem?_cons_zero, List.getElem?_cons_succ, List.getElem?_nil, List.set_cons_zero, List.set_cons_succ, List.length_cons, List.length_nil, List.replicate_succ, List.replicate_zero, List.cons_append, List.nil_append, List.append_nil]
  · simp [s1, s2, fnP, sSeq, sIf, sAsg, sExpr, sRet, sRetN, sNil, sFor, sPar, sAug, sBk, sCt, gN, gsNil, gsCons, gTupT, gSetI, fC, fVar_eq, vW_sh, vW_lst, vW_ins, vW_dT, evs, fN, fU, gS, gS1, rds, rfz, rtk, R_d_val, R_d_pl, R.fz, R.tk, R_st_val, R_st_pl, R_st_plc, R.out, W.d, W.ds, En.get, En.put, W.get, W.put, oII, tt2, okMul, okDiv, okMod, okPow, oAddI, oSub, oMul, oDiv, oMod, oPow, oLtI, oLeI, oGtI, oGeI, oMax2, oMin2, oNeg, oAddS, oLtS, fAdd, fSub, fMul, fDiv, fMod, fPow, fNeg, fIx, gOr, gAdd, gAddI, fTb, fTr, truthD, fNotT, fAndT, fOrT, fNotV, fAndV, fOrV, fIf, fTup, fLst, gTupD, gLstD, fInt, oInt, fAbs, oAbs, fLen, oLen, fCall, argsOf, putB, outs, gIx, oIxD, gLt, tYesE, fIsi, oNotV, okV, wipeE, restE, W.isSh, W.owned, fMutN, mApp, R.els, D.its, iRange1, iRange2, iSeq, iEnumA, D.walk, fTuple, gTuple, fList, gList, fSorted, gSort, fMutP, qV, qC, slOf, gSl0, gSlLo, gSlHi, gSl2, fSl2, gCatL, gCatT, els2, fPure, frzE, List.map_cons, List.map_nil, fCallP, fCallKP, fMethP, W.clean, W.cleans, D.tdat, D.tdats, size_ok, size_ok1, List.getElem?_cons_zero, List.getElem?_cons_succ, List.getElem?_nil, List.set_cons_zero, List.set_cons_succ, List.length_cons, List.length_nil, List.replicate_succ, List.replicate_zero, List.cons_append, List.nil_append, List.append_nil]
  · simp [fnP, sSeq, sIf, sAsg, sExpr, sRet, sRetN, sNil, sFor, sPar, sAug, sBk, sCt, gN, gsNil, gsCons, gTupT, gSetI, fC, fVar_eq, vW_sh, vW_lst, vW_ins, vW_dT, evs, fN, fU, gS, gS1, rds, rfz, rtk, R_d_val, R_d_pl, R.fz, R.tk, R_st_val, R_st_pl, R_st_plc, R.out, W.d, W.ds, En.get, En.put, W.get, W.put, oII, tt2, okMul, okDiv, okMod, okPow, oAddI, oSub, oMul, oDiv, oMod, oPow, oLtI, oLeI, oGtI, oGeI, oMax2, oMin2, oNeg, oAddS, oLtS, fAdd, fSub, fMul, fDiv, fMod, fPow, fNeg, fIx, gOr, gAdd, gAddI, fTb, fTr, truthD, fNotT, fAndT, fOrT, fNotV, fAndV, fOrV, fIf, fTup, fLst, gTupD, gLstD, fInt, oInt, fAbs, oAbs, fLen, oLen, fCall, argsOf, putB, outs, gIx, oIxD, gLt, tYesE, fIsi, oNotV, okV, wipeE, restE, W.isSh, W.owned, fMutN, mApp, R.els, D.its, iRange1, iRange2, iSeq, iEnumA, D.walk, fTuple, gTuple, fList, gList, fSorted, gSort, fMutP, qV, qC, slOf, gSl0, gSlLo, gSlHi, gSl2, fSl2, gCatL, gCatT, els2, fPure, frzE, List.map_cons, List.map_nil, fCallP, fCallKP, fMethP, W.clean, W.cleans, D.tdat, D.tdats, size_ok, size_ok1, List.getElem?_cons_zero, List.getElem?_cons_succ, List.getElem?_nil, List.set_cons_zero, List.set_cons_succ, List.length_cons, List.length_nil, List.replicate_succ, List.replicate_zero, List.cons_append, List.nil_append, List.append_nil]
theorem pool16_ok : ∀ x ∈ pool16, PyData.strOk x = true := by decide +kernel
theorem tupled_ok : ∀ {n : Nat} {d : D}, okD n d → m_tupled n [.sh d] = some (.sh (toT n d), [.sh d])
  | 0, d, h => by simp [okD] at h
  | n + 1, d, h => by
    have hd := okD_ne h
    have main : ∀ ds : List D, ds.length ≤ 10000 → (∀ x ∈ ds, okD n x) → ∀ e : D, e ≠ .any → compD [1] (gN 1) tYesE (e_tupled_1 (m_tupled n)) ds [.sh e, .sh .any] [] = some ([.sh e, .sh .any], [] ++ ds.map fun x => .sh (toT n x)) := fun ds hl hx e he => by
      refine compD_map _ ds [] (by simp; omega) (by simp [fnP, sSeq, sIf, sAsg, sExpr, sRet, sRetN, sNil, sFor, sPar, sAug, sBk, sCt, gN, gsNil, gsCons, gTupT, gSetI, fC, fVar_eq, vW_sh, vW_lst, vW_ins, vW_dT, evs, fN, fU, gS, gS1, rds, rfz, rtk, R_d_val, R_d_pl, R.fz, R.tk, R_st_val, R_st_pl, R_st_plc, R.out, W.d, W.ds, En.get, En.put, W.get, W.put, oII, tt2, okMul, okDiv, okMod, okPow, oAddI, oSub, oMul, oDiv, oMod, oPow, oLtI, oLeI, oGtI, oGeI, oMax2, oMin2, oNeg, oAddS, oLtS, fAdd, fSub, fMul, fDiv, fMod, fPow, fNeg, fIx, gOr, gAdd, gAddI, fTb, fTr, truthD, fNotT, fAndT, fOrT, fNotV, fAndV, fOrV, fIf, fTup, fLst, gTupD, gLstD, fInt, oInt, fAbs, oAbs, fLen, oLen, fCall, argsOf, putB, outs, gIx, oIxD, gLt, tYesE, fIsi, oNotV, okV, wipeE, restE, W.isSh, W.owned, fMutN, mApp, R.els, D.its, iRange1, iRange2, iSeq, iEnumA, D.walk, fTuple, gTuple, fList, gList, fSorted, gSort, fMutP, qV, qC, slOf, gSl0, gSlLo, gSlHi, gSl2, fSl2, gCatL, gCatT, els2, fPure, frzE, List.map_cons, List.map_nil, fCallP, fCallKP, fMethP, W.clean, W.cleans, D.tdat, D.tdats, size_ok, size_ok1, List.getElem?_cons_zero, List.getElem?_cons_succ, List.getElem?_nil, List.set_cons_zero, List.set_cons_succ, List.length_cons, List.length_nil, List.replicate_succ, List.replicate_zero, List.cons_append, List.nil_append, List.append_nil]) fun x hm => ?_
      have hx1 := okD_ne (hx x hm)
      refine ⟨[.sh e, .sh x], [.sh e, .sh x], .val (.sh (toT n x)), [.sh e, .sh x], by simp [fnP, sSeq, sIf, sAsg, sExpr, sRet, sRetN, sNil, sFor, sPar, sAug, sBk, sCt, gN, gsNil, gsCons, gTupT, gSetI, fC, fVar_eq, vW_sh, vW_lst, vW_ins, vW_dT, evs, fN, fU, gS, gS1, rds, rfz, rtk, R_d_val, R_d_pl, R.fz, R.tk, R_st_val, R_st_pl, R_st_plc, R.out, W.d, W.ds, En.get, En.put, W.get, W.put, oII, tt2, okMul, okDiv, okMod, okPow, oAddI, oSub, oMul, oDiv, oMod, oPow, oLtI, oLeI, oGtI, oGeI, oMax2, oMin2, oNeg, oAddS, oLtS, fAdd, fSub, fMul, fDiv, fMod, fPow, fNeg, fIx, gOr, gAdd, gAddI, fTb, fTr, truthD, fNotT, fAndT, fOrT, fNotV, fAndV, fOrV, fIf, fTup, fLst, gTupD, gLstD, fInt, oInt, fAbs, oAbs, fLen, oLen, fCall, argsOf, putB, outs, gIx, oIxD, gLt, tYesE, fIsi, oNotV, okV, wipeE, restE, W.isSh, W.owned, fMutN, mApp, R.els, D.its, iRange1, iRange2, iSeq, iEnumA, D.walk, fTuple, gTuple, fList, gList, fSorted, gSort, fMutP, qV, qC, slOf, gSl0, gSlLo, gSlHi, gSl2, fSl2, gCatL, gCatT, els2, fPure, frzE, List.map_cons, List.map_nil, fCallP, fCallKP, fMethP, W.clean, W.cleans, D.tdat, D.tdats, size_ok, size_ok1, List.getElem?_cons_zero, List.getElem?_cons_succ, List.getElem?_nil, List.set_cons_zero, List.set_cons_succ, List.length_cons, List.length_nil, List.replicate_succ, List.replicate_zero, List.cons_append, List.nil_append, List.append_nil], rfl, ?_, rfl, rfl, by simp [fnP, sSeq, sIf, sAsg, sExpr, sRet, sRetN, sNil, sFor, sPar, sAug, sBk, sCt, gN, gsNil, gsCons, gTupT, gSetI, fC, fVar_eq, vW_sh, vW_lst, vW_ins, vW_dT, evs, fN, fU, gS, gS1, rds, rfz, rtk, R_d_val, R_d_pl, R.fz, R.tk, R_st_val, R_st_pl, R_st_plc, R.out, W.d, W.ds, En.get, En.put, W.get, W.put, oII, tt2, okMul, okDiv, okMod, okPow, oAddI, oSub, oMul, oDiv, oMod, oPow, oLtI, oLeI, oGtI, oGeI, oMax2, oMin2, oNeg, oAddS, oLtS, fAdd, fSub, fMul, fDiv, fMod, fPow, fNeg, fIx, gOr, gAdd, gAddI, fTb, fTr, truthD, fNotT, fAndT, fOrT, fNotV, fAndV, fOrV, fIf, fTup, fLst, gTupD, gLstD, fInt, oInt, fAbs, oAbs, fLen, oLen, fCall, argsOf, putB, outs, gIx, oIxD, gLt, tYesE, fIsi, oNotV, okV, wipeE, restE, W.isSh, W.owned, fMutN, mApp, R.els, D.its, iRange1, iRange2, iSeq, iEnumA, D.walk, fTuple, gTuple, fList, gList, fSorted, gSort, fMutP, qV, qC, slOf, gSl0, gSlLo, gSlHi, gSl2, fSl2, gCatL, gCatT, els2, fPure, frzE, List.map_cons, List.map_nil, fCallP, fCallKP, fMethP, W.clean, W.cleans, D.tdat, D.tdats, size_ok, size_ok1, List.getElem?_cons_zero, List.getElem?_cons_succ, List.getElem?_nil, List.set_cons_zero, List.set_cons_succ, List.length_cons, List.length_nil, List.replicate_succ, List.replicate_zero, List.cons_append, List.nil_append, List.append_nil]⟩
      simp [e_tupled_1, hx1, tupled_ok (hx x hm), okD_tdat (hx x hm), fnP, sSeq, sIf, sAsg, sExpr, sRet, sRetN, sNil, sFor, sPar, sAug, sBk, sCt, gN, gsNil, gsCons, gTupT, gSetI, fC, fVar_eq, vW_sh, vW_lst, vW_ins, vW_dT, evs, fN, fU, gS, gS1, rds, rfz, rtk, R_d_val, R_d_pl, R.fz, R.tk, R_st_val, R_st_pl, R_st_plc, R.out, W.d, W.ds, En.get, En.put, W.get, W.put, oII, tt2, okMul, okDiv, okMod, okPow, oAddI, oSub, oMul, oDiv, oMod, oPow, oLtI, oLeI, oGtI, oGeI, oMax2, oMin2, oNeg, oAddS, oLtS, fAdd, fSub, fMul, fDiv, fMod, fPow, fNeg, fIx, gOr, gAdd, gAddI, fTb, fTr, truthD, fNotT, fAndT, fOrT, fNotV, fAndV, fOrV, fIf, fTup, fLst, gTupD, gLstD, fInt, oInt, fAbs, oAbs, fLen, oLen, fCall, argsOf, putB, outs, gIx, oIxD, gLt, tYesE, fIsi, oNotV, okV, wipeE, restE, W.isSh, W.owned, fMutN, mApp, R.els, D.its, iRange1, iRange2, iSeq, iEnumA, D.walk, fTuple, gTuple, fList, gList, fSorted, gSort, fMutP, qV, qC, slOf, gSl0, gSlLo, gSlHi, gSl2, fSl2, gCatL, gCatT, els2, fPure, frzE, List.map_cons, List.map_nil, fCallP, fCallKP, fMethP, W.clean, W.cleans, D.tdat, D.tdats, size_ok, size_ok1, List.getElem?_cons_zero, List.getElem?_cons_succ, List.getElem?_nil, List.set_cons_zero, List.set_cons_succ, List.length_cons, List.length_nil, List.replicate_succ, List.replicate_zero, List.cons_append, List.nil_append, List.append_nil]
    have go : ∀ ds : List D, W.ds (ds.map fun x => W.sh (toT n x)) = ds.map (toT n) := fun ds => by
      induction ds with
      | nil => rfl
      | cons x xs ih => simp only [List.map_cons, W.ds, W.d, ih]
    cases d <;> simp only [okD] at h
    case tup ds =>
      have := main ds h.1 h.2 (.tup ds) (by simp)
      simp [m_tupled, b_tupled, oIsi, D.tyn, isi1, fComp, this, toT, go, fnP, sSeq, sIf, sAsg, sExpr, sRet, sRetN, sNil, sFor, sPar, sAug, sBk, sCt, gN, gsNil, gsCons, gTupT, gSetI, fC, fVar_eq, vW_sh, vW_lst, vW_ins, vW_dT, evs, fN, fU, gS, gS1, rds, rfz, rtk, R_d_val, R_d_pl, R.fz, R.tk, R_st_val, R_st_pl, R_st_plc, R.out, W.d, W.ds, En.get, En.put, W.get, W.put, oII, tt2, okMul, okDiv, okMod, okPow, oAddI, oSub, oMul, oDiv, oMod, oPow, oLtI, oLeI, oGtI, oGeI, oMax2, oMin2, oNeg, oAddS, oLtS, fAdd, fSub, fMul, fDiv, fMod, fPow, fNeg, fIx, gOr, gAdd, gAddI, fTb, fTr, truthD, fNotT, fAndT, fOrT, fNotV, fAndV, fOrV, fIf, fTup, fLst, gTupD, gLstD, fInt, oInt, fAbs, oAbs, fLen, oLen, fCall, argsOf, putB, outs, gIx, oIxD, gLt, tYesE, fIsi, oNotV, okV, wipeE, restE, W.isSh, W.owned, fMutN, mApp, R.els, D.its, iRange1, iRange2, iSeq, iEnumA, D.walk, fTuple, gTuple, fList, gList, fSorted, gSort, fMutP, qV, qC, slOf, gSl0, gSlLo, gSlHi, gSl2, fSl2, gCatL, gCatT, els2, fPure, frzE, List.map_cons, List.map_nil, fCallP, fCallKP, fMethP, W.clean, W.cleans, D.tdat, D.tdats, size_ok, size_ok1, List.getElem?_cons_zero, List.getElem?_cons_succ, List.getElem?_nil, List.set_cons_zero, List.set_cons_succ, List.length_cons, List.length_nil, List.replicate_succ, List.replicate_zero, List.cons_append, List.nil_append, List.append_nil]
    case lst ds =>
      have := main ds h.1 h.2 (.lst ds) (by simp)
      simp [m_tupled, b_tupled, oIsi, D.tyn, isi2, fComp, this, toT, go, fnP, sSeq, sIf, sAsg, sExpr, sRet, sRetN, sNil, sFor, sPar, sAug, sBk, sCt, gN, gsNil, gsCons, gTupT, gSetI, fC, fVar_eq, vW_sh, vW_lst, vW_ins, vW_dT, evs, fN, fU, gS, gS1, rds, rfz, rtk, R_d_val, R_d_pl, R.fz, R.tk, R_st_val, R_st_pl, R_st_plc, R.out, W.d, W.ds, En.get, En.put, W.get, W.put, oII, tt2, okMul, okDiv, okMod, okPow, oAddI, oSub, oMul, oDiv, oMod, oPow, oLtI, oLeI, oGtI, oGeI, oMax2, oMin2, oNeg, oAddS, oLtS, fAdd, fSub, fMul, fDiv, fMod, fPow, fNeg, fIx, gOr, gAdd, gAddI, fTb, fTr, truthD, fNotT, fAndT, fOrT, fNotV, fAndV, fOrV, fIf, fTup, fLst, gTupD, gLstD, fInt, oInt, fAbs, oAbs, fLen, oLen, fCall, argsOf, putB, outs, gIx, oIxD, gLt, tYesE, fIsi, oNotV, okV, wipeE, restE, W.isSh, W.owned, fMutN, mApp, R.els, D.its, iRange1, iRange2, iSeq, iEnumA, D.walk, fTuple, gTuple, fList, gList, fSorted, gSort, fMutP, qV, qC, slOf, gSl0, gSlLo, gSlHi, gSl2, fSl2, gCatL, gCatT, els2, fPure, frzE, List.map_cons, List.map_nil, fCallP, fCallKP, fMethP, W.clean, W.cleans, D.tdat, D.tdats, size_ok, size_ok1, List.getElem?_cons_zero, List.getElem?_cons_succ, List.getElem?_nil, List.set_cons_zero, List.set_cons_succ, List.length_cons, List.length_nil, List.replicate_succ, List.replicate_zero, List.cons_append, List.nil_append, List.append_nil]
    all_goals simp [m_tupled, b_tupled, oIsi, D.tyn, isi3, isi4, isi5, isi6, toT, fnP, sSeq, sIf, sAsg, sExpr, sRet, sRetN, sNil, sFor, sPar, sAug, sBk, sCt, gN, gsNil, gsCons, gTupT, gSetI, fC, fVar_eq, vW_sh, vW_lst, vW_ins, vW_dT, evs, fN, fU, gS, gS1, rds, rfz, rtk, R_d_val, R_d_pl, R.fz, R.tk, R_st_val, R_st_pl, R_st_plc, R.out, W.d, W.ds, En.get, En.put, W.get, W.put, oII, tt2, okMul, okDiv, okMod, okPow, oAddI, oSub, oMul, oDiv, oMod, oPow, oLtI, oLeI, oGtI, oGeI, oMax2, oMin2, oNeg, oAddS, oLtS, fAdd, fSub, fMul, fDiv, fMod, fPow, fNeg, fIx, gOr, gAdd, gAddI, fTb, fTr, truthD, fNotT, fAndT, fOrT, fNotV, fAndV, fOrV, fIf, fTup, fLst, gTupD, gLstD, fInt, oInt, fAbs, oAbs, fLen, oLen, fCall, argsOf, putB, outs, gIx, oIxD, gLt, tYesE, fIsi, oNotV, okV, wipeE, restE, W.isSh, W.owned, fMutN, mApp, R.els, D.its, iRange1, iRange2, iSeq, iEnumA, D.walk, fTuple, gTuple, fList, gList, fSorted, gSort, fMutP, qV, qC, slOf, gSl0, gSlLo, gSlHi, gSl2, fSl2, gCatL, gCatT, els2, fPure, frzE, List.map_cons, List.map_nil, fCallP, fCallKP, fMethP, W.clean, W.cleans, D.tdat, D.tdats, size_ok, size_ok1, List.getElem?_cons_zero, List.getElem?_cons_succ, List.getElem?_nil, List.set_cons_zero, List.set_cons_succ, List.length_cons, List.length_nil, List.replicate_succ, List.replicate_zero, List.cons_append, List.nil_append, List.append_nil]
theorem same_ok : ∀ {n : Nat} {d : D}, okD n d → n ≤ 60 → ∀ {w1 w2 : W}, isv w1 d → isv w2 d → m_law_same n [w1, w2] = some (.sh (.bl true), [.sh d, .sh d])
  | 0, d, h, _, _, _, _, _ => by simp [okD] at h
  | n + 1, d, h, hn, w1, w2, v1, v2 => by
    have hd := okD_ne h
    have hq := eqD_refl h hn
    have main : ∀ ds : List D, ds.length ≤ 10000 → (∀ x ∈ ds, okD n x) → ∀ e : D, e ≠ .any → compD [2, 3] (gTupT 2 (gsCons (gN 2) (gsCons (gN 3) gsNil))) tYesE (e_law_same_1 (m_law_same n)) (ds.map fun d => .tup [d, d]) [.sh e, .sh e, .sh .any, .sh .any] [] =
        some ([.sh e, .sh e, .sh .any, .sh .any], ds.map fun _ => .sh (.bl true)) := fun ds hl hx e he => by
      have z := compD_map (vs := [2, 3]) (g := gTupT 2 (gsCons (gN 2) (gsCons (gN 3) gsNil))) (f := e_law_same_1 (m_law_same n)) (en := [.sh e, .sh e, .sh .any, .sh .any]) (fun _ => .sh (.bl true)) (ds.map fun d => .tup [d, d]) [] (by simp; omega) (by simp [fnP, sSeq, sIf, sAsg, sExpr, sRet, sRetN, sNil, sFor, sPar, sAug, sBk, sCt, gN, gsNil, gsCons, gTupT, gSetI, fC, fVar_eq, vW_sh, vW_lst, vW_ins, vW_dT, evs, fN, fU, gS, gS1, rds, rfz, rtk, R_d_val, R_d_pl, R.fz, R.tk, R_st_val, R_st_pl, R_st_plc, R.out, W.d, W.ds, En.get, En.put, W.get, W.put, oII, tt2, okMul, okDiv, okMod, okPow, oAddI, oSub, oMul, oDiv, oMod, oPow, oLtI, oLeI, oGtI, oGeI, oMax2, oMin2, oNeg, oAddS, oLtS, fAdd, fSub, fMul, fDiv, fMod, fPow, fNeg, fIx, gOr, gAdd, gAddI, fTb, fTr, truthD, fNotT, fAndT, fOrT, fNotV, fAndV, fOrV, fIf, fTup, fLst, gTupD, gLstD, fInt, oInt, fAbs, oAbs, fLen, oLen, fCall, argsOf, putB, outs, gIx, oIxD, gLt, tYesE, fIsi, oNotV, okV, wipeE, restE, W.isSh, W.owned, fMutN, mApp, R.els, D.its, iRange1, iRange2, iSeq, iEnumA, D.walk, fTuple, gTuple, fList, gList, fSorted, gSort, fMutP, qV, qC, slOf, gSl0, gSlLo, gSlHi, gSl2, fSl2, gCatL, gCatT, els2, fPure, frzE, List.map_cons, List.map_nil, fCallP, fCallKP, fMethP, W.clean, W.cleans, D.tdat, D.tdats, size_ok, size_ok1, List.getElem?_cons_zero, List.getElem?_cons_succ, List.getElem?_nil, List.set_cons_zero, List.set_cons_succ, List.length_cons, List.length_nil, List.replicate_succ, List.replicate_zero, List.cons_append, List.nil_append, List.append_nil]) fun y hy => by
        obtain ⟨x, hm, rfl⟩ := List.mem_map.mp hy
        have hx1 := okD_ne (hx x hm)
        have e1 := same_ok (hx x hm) (by omega) (.inl rfl : isv (.sh x) x) (.inl rfl : isv (.sh x) x)
        refine ⟨[.sh e, .sh e, .sh x, .sh x], [.sh e, .sh e, .sh x, .sh x], .val (.sh (.bl true)), [.sh e, .sh e, .sh x, .sh x], by simp [fnP, sSeq, sIf, sAsg, sExpr, sRet, sRetN, sNil, sFor, sPar, sAug, sBk, sCt, gN, gsNil, gsCons, gTupT, gSetI, fC, fVar_eq, vW_sh, vW_lst, vW_ins, vW_dT, evs, fN, fU, gS, gS1, rds, rfz, rtk, R_d_val, R_d_pl, R.fz, R.tk, R_st_val, R_st_pl, R_st_plc, R.out, W.d, W.ds, En.get, En.put, W.get, W.put, oII, tt2, okMul, okDiv, okMod, okPow, oAddI, oSub, oMul, oDiv, oMod, oPow, oLtI, oLeI, oGtI, oGeI, oMax2, oMin2, oNeg, oAddS, oLtS, fAdd, fSub, fMul, fDiv, fMod, fPow, fNeg, fIx, gOr, gAdd, gAddI, fTb, fTr, truthD, fNotT, fAndT, fOrT, fNotV, fAndV, fOrV, fIf, fTup, fLst, gTupD, gLstD, fInt, oInt, fAbs, oAbs, fLen, oLen, fCall, argsOf, putB, outs, gIx, oIxD, gLt, tYesE, fIsi, oNotV, okV, wipeE, restE, W.isSh, W.owned, fMutN, mApp, R.els, D.its, iRange1, iRange2, iSeq, iEnumA, D.walk, fTuple, gTuple, fList, gList, fSorted, gSort, fMutP, qV, qC, slOf, gSl0, gSlLo, gSlHi, gSl2, fSl2, gCatL, gCatT, els2, fPure, frzE, List.map_cons, List.map_nil, fCallP, fCallKP, fMethP, W.clean, W.cleans, D.tdat, D.tdats, size_ok, size_ok1, List.getElem?_cons_zero, List.getElem?_cons_succ, List.getElem?_nil, List.set_cons_zero, List.set_cons_succ, List.length_cons, List.length_nil, List.replicate_succ, List.replicate_zero, List.cons_append, List.nil_append, List.append_nil], rfl, ?_, rfl, rfl, by simp [fnP, sSeq, sIf, sAsg, sExpr, sRet, sRetN, sNil, sFor, sPar, sAug, sBk, sCt, gN, gsNil, gsCons, gTupT, gSetI, fC, fVar_eq, vW_sh, vW_lst, vW_ins, vW_dT, evs, fN, fU, gS, gS1, rds, rfz, rtk, R_d_val, R_d_pl, R.fz, R.tk, R_st_val, R_st_pl, R_st_plc, R.out, W.d, W.ds, En.get, En.put, W.get, W.put, oII, tt2, okMul, okDiv, okMod, okPow, oAddI, oSub, oMul, oDiv, oMod, oPow, oLtI, oLeI, oGtI, oGeI, oMax2, oMin2, oNeg, oAddS, oLtS, fAdd, fSub, fMul, fDiv, fMod, fPow, fNeg, fIx, gOr, gAdd, gAddI, fTb, fTr, truthD, fNotT, fAndT, fOrT, fNotV, fAndV, fOrV, fIf, fTup, fLst, gTupD, gLstD, fInt, oInt, fAbs, oAbs, fLen, oLen, fCall, argsOf, putB, outs, gIx, oIxD, gLt, tYesE, fIsi, oNotV, okV, wipeE, restE, W.isSh, W.owned, fMutN, mApp, R.els, D.its, iRange1, iRange2, iSeq, iEnumA, D.walk, fTuple, gTuple, fList, gList, fSorted, gSort, fMutP, qV, qC, slOf, gSl0, gSlLo, gSlHi, gSl2, fSl2, gCatL, gCatT, els2, fPure, frzE, List.map_cons, List.map_nil, fCallP, fCallKP, fMethP, W.clean, W.cleans, D.tdat, D.tdats, size_ok, size_ok1, List.getElem?_cons_zero, List.getElem?_cons_succ, List.getElem?_nil, List.set_cons_zero, List.set_cons_succ, List.length_cons, List.length_nil, List.replicate_succ, List.replicate_zero, List.cons_append, List.nil_append, List.append_nil]⟩
        simp [e_law_same_1, hx1, e1, fnP, sSeq, sIf, sAsg, sExpr, sRet, sRetN, sNil, sFor, sPar, sAug, sBk, sCt, gN, gsNil, gsCons, gTupT, gSetI, fC, fVar_eq, vW_sh, vW_lst, vW_ins, vW_dT, evs, fN, fU, gS, gS1, rds, rfz, rtk, R_d_val, R_d_pl, R.fz, R.tk, R_st_val, R_st_pl, R_st_plc, R.out, W.d, W.ds, En.get, En.put, W.get, W.put, oII, tt2, okMul, okDiv, okMod, okPow, oAddI, oSub, oMul, oDiv, oMod, oPow, oLtI, oLeI, oGtI, oGeI, oMax2, oMin2, oNeg, oAddS, oLtS, fAdd, fSub, fMul, fDiv, fMod, fPow, fNeg, fIx, gOr, gAdd, gAddI, fTb, fTr, truthD, fNotT, fAndT, fOrT, fNotV, fAndV, fOrV, fIf, fTup, fLst, gTupD, gLstD, fInt, oInt, fAbs, oAbs, fLen, oLen, fCall, argsOf, putB, outs, gIx, oIxD, gLt, tYesE, fIsi, oNotV, okV, wipeE, restE, W.isSh, W.owned, fMutN, mApp, R.els, D.its, iRange1, iRange2, iSeq, iEnumA, D.walk, fTuple, gTuple, fList, gList, fSorted, gSort, fMutP, qV, qC, slOf, gSl0, gSlLo, gSlHi, gSl2, fSl2, gCatL, gCatT, els2, fPure, frzE, List.map_cons, List.map_nil, fCallP, fCallKP, fMethP, W.clean, W.cleans, D.tdat, D.tdats, size_ok, size_ok1, List.getElem?_cons_zero, List.getElem?_cons_succ, List.getElem?_nil, List.set_cons_zero, List.set_cons_succ, List.length_cons, List.length_nil, List.replicate_succ, List.replicate_zero, List.cons_append, List.nil_append, List.append_nil]
      rw [z, List.map_map, List.nil_append]
      rfl
    have len : ∀ ds : List D, eqD (.int (ds.length : Int)) (.int (ds.length : Int)) = some true := fun ds => eqI _
    have lens : ∀ ds : List W, (W.ds ds).length = ds.length := fun ds => by
      induction ds with
      | nil => rfl
      | cons x xs ih => simp only [W.ds, List.length_cons, ih]
    cases d <;> simp only [okD] at h
    case tup ds =>
      have m := main ds h.1 h.2 (.tup ds) (by simp)
      rcases v1 with rfl | ⟨ws, _, z⟩
      · rcases v2 with rfl | ⟨us, _, z2⟩
        · simp [m_law_same, b_law_same, oIsi, D.tyn, isi1, isi9, isi11, oNe, oEq, eqB, len, fComp, iZipL, m, zip_self, fAll, oAll, D.litems, ds_bl, bls_true, fnP, sSeq, sIf, sAsg, sExpr, sRet, sRetN, sNil, sFor, sPar, sAug, sBk, sCt, gN, gsNil, gsCons, gTupT, gSetI, fC, fVar_eq, vW_sh, vW_lst, vW_ins, vW_dT, evs, fN, fU, gS, gS1, rds, rfz, rtk, R_d_val, R_d_pl, R.fz, R.tk, R_st_val, R_st_pl, R_st_plc, R.out, W.d, W.ds, En.get, En.put, W.get, W.put, oII, tt2, okMul, okDiv, okMod, okPow, oAddI, oSub, oMul, oDiv, oMod, oPow, oLtI, oLeI, oGtI, oGeI, oMax2, oMin2, oNeg, oAddS, oLtS, fAdd, fSub, fMul, fDiv, fMod, fPow, fNeg, fIx, gOr, gAdd, gAddI, fTb, fTr, truthD, fNotT, fAndT, fOrT, fNotV, fAndV, fOrV, fIf, fTup, fLst, gTupD, gLstD, fInt, oInt, fAbs, oAbs, fLen, oLen, fCall, argsOf, putB, outs, gIx, oIxD, gLt, tYesE, fIsi, oNotV, okV, wipeE, restE, W.isSh, W.owned, fMutN, mApp, R.els, D.its, iRange1, iRange2, iSeq, iEnumA, D.walk, fTuple, gTuple, fList, gList, fSorted, gSort, fMutP, qV, qC, slOf, gSl0, gSlLo, gSlHi, gSl2, fSl2, gCatL, gCatT, els2, fPure, frzE, List.map_cons, List.map_nil, fCallP, fCallKP, fMethP, W.clean, W.cleans, D.tdat, D.tdats, size_ok, size_ok1, List.getElem?_cons_zero, List.getElem?_cons_succ, List.getElem?_nil, List.set_cons_zero, List.set_cons_succ, List.length_cons, List.length_nil, List.replicate_succ, List.replicate_zero, List.cons_append, List.nil_append, List.append_nil]
        · cases z2
      · cases z
    case lst ds =>
      have m := main ds h.1 h.2 (.lst ds) (by simp)
      rcases v1 with rfl | ⟨ws, rfl, z⟩ <;> rcases v2 with rfl | ⟨us, rfl, z2⟩
      · simp [m_law_same, b_law_same, oIsi, D.tyn, isi2, isi10, isi12, oNe, oEq, eqB, len, fComp, iZipL, m, zip_self, fAll, oAll, D.litems, ds_bl, bls_true, fnP, sSeq, sIf, sAsg, sExpr, sRet, sRetN, sNil, sFor, sPar, sAug, sBk, sCt, gN, gsNil, gsCons, gTupT, gSetI, fC, fVar_eq, vW_sh, vW_lst, vW_ins, vW_dT, evs, fN, fU, gS, gS1, rds, rfz, rtk, R_d_val, R_d_pl, R.fz, R.tk, R_st_val, R_st_pl, R_st_plc, R.out, W.d, W.ds, En.get, En.put, W.get, W.put, oII, tt2, okMul, okDiv, okMod, okPow, oAddI, oSub, oMul, oDiv, oMod, oPow, oLtI, oLeI, oGtI, oGeI, oMax2, oMin2, oNeg, oAddS, oLtS, fAdd, fSub, fMul, fDiv, fMod, fPow, fNeg, fIx, gOr, gAdd, gAddI, fTb, fTr, truthD, fNotT, fAndT, fOrT, fNotV, fAndV, fOrV, fIf, fTup, fLst, gTupD, gLstD, fInt, oInt, fAbs, oAbs, fLen, oLen, fCall, argsOf, putB, outs, gIx, oIxD, gLt, tYesE, fIsi, oNotV, okV, wipeE, restE, W.isSh, W.owned, fMutN, mApp, R.els, D.its, iRange1, iRange2, iSeq, iEnumA, D.walk, fTuple, gTuple, fList, gList, fSorted, gSort, fMutP, qV, qC, slOf, gSl0, gSlLo, gSlHi, gSl2, fSl2, gCatL, gCatT, els2, fPure, frzE, List.map_cons, List.map_nil, fCallP, fCallKP, fMethP, W.clean, W.cleans, D.tdat, D.tdats, size_ok, size_ok1, List.getElem?_cons_zero, List.getElem?_cons_succ, List.getElem?_nil, List.set_cons_zero, List.set_cons_succ, List.length_cons, List.length_nil, List.replicate_succ, List.replicate_zero, List.cons_append, List.nil_append, List.append_nil]
      · cases z2
        simp [m_law_same, b_law_same, oIsi, D.tyn, isi2, isi10, isi12, oNe, oEq, eqB, len, fComp, iZipL, m, zip_self, fAll, oAll, D.litems, ds_bl, bls_true, fnP, sSeq, sIf, sAsg, sExpr, sRet, sRetN, sNil, sFor, sPar, sAug, sBk, sCt, gN, gsNil, gsCons, gTupT, gSetI, fC, fVar_eq, vW_sh, vW_lst, vW_ins, vW_dT, evs, fN, fU, gS, gS1, rds, rfz, rtk, R_d_val, R_d_pl, R.fz, R.tk, R_st_val, R_st_pl, R_st_plc, R.out, W.d, W.ds, En.get, En.put, W.get, W.put, oII, tt2, okMul, okDiv, okMod, okPow, oAddI, oSub, oMul, oDiv, oMod, oPow, oLtI, oLeI, oGtI, oGeI, oMax2, oMin2, oNeg, oAddS, oLtS, fAdd, fSub, fMul, fDiv, fMod, fPow, fNeg, fIx, gOr, gAdd, gAddI, fTb, fTr, truthD, fNotT, fAndT, fOrT, fNotV, fAndV, fOrV, fIf, fTup, fLst, gTupD, gLstD, fInt, oInt, fAbs, oAbs, fLen, oLen, fCall, argsOf, putB, outs, gIx, oIxD, gLt, tYesE, fIsi, oNotV, okV, wipeE, restE, W.isSh, W.owned, fMutN, mApp, R.els, D.its, iRange1, iRange2, iSeq, iEnumA, D.walk, fTuple, gTuple, fList, gList, fSorted, gSort, fMutP, qV, qC, slOf, gSl0, gSlLo, gSlHi, gSl2, fSl2, gCatL, gCatT, els2, fPure, frzE, List.map_cons, List.map_nil, fCallP, fCallKP, fMethP, W.clean, W.cleans, D.tdat, D.tdats, size_ok, size_ok1, List.getElem?_cons_zero, List.getElem?_cons_succ, List.getElem?_nil, List.set_cons_zero, List.set_cons_succ, List.length_cons, List.length_nil, List.replicate_succ, List.replicate_zero, List.cons_append, List.nil_append, List.append_nil]
      · cases z
        simp [m_law_same, b_law_same, oIsi, D.tyn, isi2, isi10, isi12, oNe, oEq, eqB, len, fComp, iZipL, m, zip_self, fAll, oAll, D.litems, ds_bl, bls_true, fnP, sSeq, sIf, sAsg, sExpr, sRet, sRetN, sNil, sFor, sPar, sAug, sBk, sCt, gN, gsNil, gsCons, gTupT, gSetI, fC, fVar_eq, vW_sh, vW_lst, vW_ins, vW_dT, evs, fN, fU, gS, gS1, rds, rfz, rtk, R_d_val, R_d_pl, R.fz, R.tk, R_st_val, R_st_pl, R_st_plc, R.out, W.d, W.ds, En.get, En.put, W.get, W.put, oII, tt2, okMul, okDiv, okMod, okPow, oAddI, oSub, oMul, oDiv, oMod, oPow, oLtI, oLeI, oGtI, oGeI, oMax2, oMin2, oNeg, oAddS, oLtS, fAdd, fSub, fMul, fDiv, fMod, fPow, fNeg, fIx, gOr, gAdd, gAddI, fTb, fTr, truthD, fNotT, fAndT, fOrT, fNotV, fAndV, fOrV, fIf, fTup, fLst, gTupD, gLstD, fInt, oInt, fAbs, oAbs, fLen, oLen, fCall, argsOf, putB, outs, gIx, oIxD, gLt, tYesE, fIsi, oNotV, okV, wipeE, restE, W.isSh, W.owned, fMutN, mApp, R.els, D.its, iRange1, iRange2, iSeq, iEnumA, D.walk, fTuple, gTuple, fList, gList, fSorted, gSort, fMutP, qV, qC, slOf, gSl0, gSlLo, gSlHi, gSl2, fSl2, gCatL, gCatT, els2, fPure, frzE, List.map_cons, List.map_nil, fCallP, fCallKP, fMethP, W.clean, W.cleans, D.tdat, D.tdats, size_ok, size_ok1, List.getElem?_cons_zero, List.getElem?_cons_succ, List.getElem?_nil, List.set_cons_zero, List.set_cons_succ, List.length_cons, List.length_nil, List.replicate_succ, List.replicate_zero, List.cons_append, List.nil_append, List.append_nil]
      · cases z
        injection z2 with z2
        rw [z2] at m
        simp [m_law_same, b_law_same, oIsi, D.tyn, isi2, isi10, isi12, oNe, oEq, eqB, len, fComp, iZipL, z2, m, zip_self, fAll, oAll, D.litems, ds_bl, bls_true, fnP, sSeq, sIf, sAsg, sExpr, sRet, sRetN, sNil, sFor, sPar, sAug, sBk, sCt, gN, gsNil, gsCons, gTupT, gSetI, fC, fVar_eq, vW_sh, vW_lst, vW_ins, vW_dT, evs, fN, fU, gS, gS1, rds, rfz, rtk, R_d_val, R_d_pl, R.fz, R.tk, R_st_val, R_st_pl, R_st_plc, R.out, W.d, W.ds, En.get, En.put, W.get, W.put, oII, tt2, okMul, okDiv, okMod, okPow, oAddI, oSub, oMul, oDiv, oMod, oPow, oLtI, oLeI, oGtI, oGeI, oMax2, oMin2, oNeg, oAddS, oLtS, fAdd, fSub, fMul, fDiv, fMod, fPow, fNeg, fIx, gOr, gAdd, gAddI, fTb, fTr, truthD, fNotT, fAndT, fOrT, fNotV, fAndV, fOrV, fIf, fTup, fLst, gTupD, gLstD, fInt, oInt, fAbs, oAbs, fLen, oLen, fCall, argsOf, putB, outs, gIx, oIxD, gLt, tYesE, fIsi, oNotV, okV, wipeE, restE, W.isSh, W.owned, fMutN, mApp, R.els, D.its, iRange1, iRange2, iSeq, iEnumA, D.walk, fTuple, gTuple, fList, gList, fSorted, gSort, fMutP, qV, qC, slOf, gSl0, gSlLo, gSlHi, gSl2, fSl2, gCatL, gCatT, els2, fPure, frzE, List.map_cons, List.map_nil, fCallP, fCallKP, fMethP, W.clean, W.cleans, D.tdat, D.tdats, size_ok, size_ok1, List.getElem?_cons_zero, List.getElem?_cons_succ, List.getElem?_nil, List.set_cons_zero, List.set_cons_succ, List.length_cons, List.length_nil, List.replicate_succ, List.replicate_zero, List.cons_append, List.nil_append, List.append_nil]
    all_goals
      rcases v1 with rfl | ⟨ws, _, z⟩
      · rcases v2 with rfl | ⟨us, _, z2⟩
        · simp [m_law_same, b_law_same, oIsi, D.tyn, isi3, isi4, isi5, isi6, isi13, isi14, isi15, isi16, isi17, isi18, isi19, isi20, oNe, oEq, eqB, hq, oIsN, isN, fnP, sSeq, sIf, sAsg, sExpr, sRet, sRetN, sNil, sFor, sPar, sAug, sBk, sCt, gN, gsNil, gsCons, gTupT, gSetI, fC, fVar_eq, vW_sh, vW_lst, vW_ins, vW_dT, evs, fN, fU, gS, gS1, rds, rfz, rtk, R_d_val, R_d_pl, R.fz, R.tk, R_st_val, R_st_pl, R_st_plc, R.out, W.d, W.ds, En.get, En.put, W.get, W.put, oII, tt2, okMul, okDiv, okMod, okPow, oAddI, oSub, oMul, oDiv, oMod, oPow, oLtI, oLeI, oGtI, oGeI, oMax2, oMin2, oNeg, oAddS, oLtS, fAdd, fSub, fMul, fDiv, fMod, fPow, fNeg, fIx, gOr, gAdd, gAddI, fTb, fTr, truthD, fNotT, fAndT, fOrT, fNotV, fAndV, fOrV, fIf, fTup, fLst, gTupD, gLstD, fInt, oInt, fAbs, oAbs, fLen, oLen, fCall, argsOf, putB, outs, gIx, oIxD, gLt, tYesE, fIsi, oNotV, okV, wipeE, restE, W.isSh, W.owned, fMutN, mApp, R.els, D.its, iRange1, iRange2, iSeq, iEnumA, D.walk, fTuple, gTuple, fList, gList, fSorted, gSort, fMutP, qV, qC, slOf, gSl0, gSlLo, gSlHi, gSl2, fSl2, gCatL, gCatT, els2, fPure, frzE, List.map_cons, List.map_nil, fCallP, fCallKP, fMethP, W.clean, W.cleans, D.tdat, D.tdats, size_ok, size_ok1, List.getElem?_cons_zero, List.getElem?_cons_succ, List.getElem?_nil, List.set_cons_zero, List.set_cons_succ, List.length_cons, List.length_nil, List.replicate_succ, List.replicate_zero, List.cons_append, List.nil_append, List.append_nil]
        · cases z2
      · cases z
theorem lists_ok : ∀ {n : Nat} {d : D}, okD n d → ∀ {w : W}, isv w d → m_law_lists n [w] = some (toW n d, [.sh d])
  | 0, d, h, _, _ => by simp [okD] at h
  | n + 1, d, h, w, v => by
    have hd := okD_ne h
    have main : ∀ ds : List D, ds.length ≤ 10000 → (∀ x ∈ ds, okD n x) → ∀ e : D, e ≠ .any → compD [1] (gN 1) tYesE (e_law_lists_1 (m_law_lists n)) ds [.sh e, .sh .any] [] = some ([.sh e, .sh .any], [] ++ ds.map (toW n)) := fun ds hl hx e he => by
      refine compD_map _ ds [] (by simp; omega) (by simp [fnP, sSeq, sIf, sAsg, sExpr, sRet, sRetN, sNil, sFor, sPar, sAug, sBk, sCt, gN, gsNil, gsCons, gTupT, gSetI, fC, fVar_eq, vW_sh, vW_lst, vW_ins, vW_dT, evs, fN, fU, gS, gS1, rds, rfz, rtk, R_d_val, R_d_pl, R.fz, R.tk, R_st_val, R_st_pl, R_st_plc, R.out, W.d, W.ds, En.get, En.put, W.get, W.put, oII, tt2, okMul, okDiv, okMod, okPow, oAddI, oSub, oMul, oDiv, oMod, oPow, oLtI, oLeI, oGtI, oGeI, oMax2, oMin2, oNeg, oAddS, oLtS, fAdd, fSub, fMul, fDiv, fMod, fPow, fNeg, fIx, gOr, gAdd, gAddI, fTb, fTr, truthD, fNotT, fAndT, fOrT, fNotV, fAndV, fOrV, fIf, fTup, fLst, gTupD, gLstD, fInt, oInt, fAbs, oAbs, fLen, oLen, fCall, argsOf, putB, outs, gIx, oIxD, gLt, tYesE, fIsi, oNotV, okV, wipeE, restE, W.isSh, W.owned, fMutN, mApp, R.els, D.its, iRange1, iRange2, iSeq, iEnumA, D.walk, fTuple, gTuple, fList, gList, fSorted, gSort, fMutP, qV, qC, slOf, gSl0, gSlLo, gSlHi, gSl2, fSl2, gCatL, gCatT, els2, fPure, frzE, List.map_cons, List.map_nil, fCallP, fCallKP, fMethP, W.clean, W.cleans, D.tdat, D.tdats, size_ok, size_ok1, List.getElem?_cons_zero, List.getElem?_cons_succ, List.getElem?_nil, List.set_cons_zero, List.set_cons_succ, List.length_cons, List.length_nil, List.replicate_succ, List.replicate_zero, List.cons_append, List.nil_append, List.append_nil]) fun x hm => ?_
      have hx1 := okD_ne (hx x hm)
      refine ⟨[.sh e, .sh x], [.sh e, .sh x], .val (toW n x), [.sh e, .sh x], by simp [fnP, sSeq, sIf, sAsg, sExpr, sRet, sRetN, sNil, sFor, sPar, sAug, sBk, sCt, gN, gsNil, gsCons, gTupT, gSetI, fC, fVar_eq, vW_sh, vW_lst, vW_ins, vW_dT, evs, fN, fU, gS, gS1, rds, rfz, rtk, R_d_val, R_d_pl, R.fz, R.tk, R_st_val, R_st_pl, R_st_plc, R.out, W.d, W.ds, En.get, En.put, W.get, W.put, oII, tt2, okMul, okDiv, okMod, okPow, oAddI, oSub, oMul, oDiv, oMod, oPow, oLtI, oLeI, oGtI, oGeI, oMax2, oMin2, oNeg, oAddS, oLtS, fAdd, fSub, fMul, fDiv, fMod, fPow, fNeg, fIx, gOr, gAdd, gAddI, fTb, fTr, truthD, fNotT, fAndT, fOrT, fNotV, fAndV, fOrV, fIf, fTup, fLst, gTupD, gLstD, fInt, oInt, fAbs, oAbs, fLen, oLen, fCall, argsOf, putB, outs, gIx, oIxD, gLt, tYesE, fIsi, oNotV, okV, wipeE, restE, W.isSh, W.owned, fMutN, mApp, R.els, D.its, iRange1, iRange2, iSeq, iEnumA, D.walk, fTuple, gTuple, fList, gList, fSorted, gSort, fMutP, qV, qC, slOf, gSl0, gSlLo, gSlHi, gSl2, fSl2, gCatL, gCatT, els2, fPure, frzE, List.map_cons, List.map_nil, fCallP, fCallKP, fMethP, W.clean, W.cleans, D.tdat, D.tdats, size_ok, size_ok1, List.getElem?_cons_zero, List.getElem?_cons_succ, List.getElem?_nil, List.set_cons_zero, List.set_cons_succ, List.length_cons, List.length_nil, List.replicate_succ, List.replicate_zero, List.cons_append, List.nil_append, List.append_nil], rfl, ?_, rfl, rfl, by simp [fnP, sSeq, sIf, sAsg, sExpr, sRet, sRetN, sNil, sFor, sPar, sAug, sBk, sCt, gN, gsNil, gsCons, gTupT, gSetI, fC, fVar_eq, vW_sh, vW_lst, vW_ins, vW_dT, evs, fN, fU, gS, gS1, rds, rfz, rtk, R_d_val, R_d_pl, R.fz, R.tk, R_st_val, R_st_pl, R_st_plc, R.out, W.d, W.ds, En.get, En.put, W.get, W.put, oII, tt2, okMul, okDiv, okMod, okPow, oAddI, oSub, oMul, oDiv, oMod, oPow, oLtI, oLeI, oGtI, oGeI, oMax2, oMin2, oNeg, oAddS, oLtS, fAdd, fSub, fMul, fDiv, fMod, fPow, fNeg, fIx, gOr, gAdd, gAddI, fTb, fTr, truthD, fNotT, fAndT, fOrT, fNotV, fAndV, fOrV, fIf, fTup, fLst, gTupD, gLstD, fInt, oInt, fAbs, oAbs, fLen, oLen, fCall, argsOf, putB, outs, gIx, oIxD, gLt, tYesE, fIsi, oNotV, okV, wipeE, restE, W.isSh, W.owned, fMutN, mApp, R.els, D.its, iRange1, iRange2, iSeq, iEnumA, D.walk, fTuple, gTuple, fList, gList, fSorted, gSort, fMutP, qV, qC, slOf, gSl0, gSlLo, gSlHi, gSl2, fSl2, gCatL, gCatT, els2, fPure, frzE, List.map_cons, List.map_nil, fCallP, fCallKP, fMethP, W.clean, W.cleans, D.tdat, D.tdats, size_ok, size_ok1, List.getElem?_cons_zero, List.getElem?_cons_succ, List.getElem?_nil, List.set_cons_zero, List.set_cons_succ, List.length_cons, List.length_nil, List.replicate_succ, List.replicate_zero, List.cons_append, List.nil_append, List.append_nil]⟩
      simp [e_law_lists_1, hx1, lists_ok (hx x hm) (.inl rfl : isv (.sh x) x), okD_clean (hx x hm), fnP, sSeq, sIf, sAsg, sExpr, sRet, sRetN, sNil, sFor, sPar, sAug, sBk, sCt, gN, gsNil, gsCons, gTupT, gSetI, fC, fVar_eq, vW_sh, vW_lst, vW_ins, vW_dT, evs, fN, fU, gS, gS1, rds, rfz, rtk, R_d_val, R_d_pl, R.fz, R.tk, R_st_val, R_st_pl, R_st_plc, R.out, W.d, W.ds, En.get, En.put, W.get, W.put, oII, tt2, okMul, okDiv, okMod, okPow, oAddI, oSub, oMul, oDiv, oMod, oPow, oLtI, oLeI, oGtI, oGeI, oMax2, oMin2, oNeg, oAddS, oLtS, fAdd, fSub, fMul, fDiv, fMod, fPow, fNeg, fIx, gOr, gAdd, gAddI, fTb, fTr, truthD, fNotT, fAndT, fOrT, fNotV, fAndV, fOrV, fIf, fTup, fLst, gTupD, gLstD, fInt, oInt, fAbs, oAbs, fLen, oLen, fCall, argsOf, putB, outs, gIx, oIxD, gLt, tYesE, fIsi, oNotV, okV, wipeE, restE, W.isSh, W.owned, fMutN, mApp, R.els, D.its, iRange1, iRange2, iSeq, iEnumA, D.walk, fTuple, gTuple, fList, gList, fSorted, gSort, fMutP, qV, qC, slOf, gSl0, gSlLo, gSlHi, gSl2, fSl2, gCatL, gCatT, els2, fPure, frzE, List.map_cons, List.map_nil, fCallP, fCallKP, fMethP, W.clean, W.cleans, D.tdat, D.tdats, size_ok, size_ok1, List.getElem?_cons_zero, List.getElem?_cons_succ, List.getElem?_nil, List.set_cons_zero, List.set_cons_succ, List.length_cons, List.length_nil, List.replicate_succ, List.replicate_zero, List.cons_append, List.nil_append, List.append_nil]
    cases d <;> simp only [okD] at h
    case tup ds =>
      have := main ds h.1 h.2 (.tup ds) (by simp)
      rcases v with rfl | ⟨ws, _, z⟩
      · simp [m_law_lists, b_law_lists, oIsi, D.tyn, isi1, fComp, this, toW, fnP, sSeq, sIf, sAsg, sExpr, sRet, sRetN, sNil, sFor, sPar, sAug, sBk, sCt, gN, gsNil, gsCons, gTupT, gSetI, fC, fVar_eq, vW_sh, vW_lst, vW_ins, vW_dT, evs, fN, fU, gS, gS1, rds, rfz, rtk, R_d_val, R_d_pl, R.fz, R.tk, R_st_val, R_st_pl, R_st_plc, R.out, W.d, W.ds, En.get, En.put, W.get, W.put, oII, tt2, okMul, okDiv, okMod, okPow, oAddI, oSub, oMul, oDiv, oMod, oPow, oLtI, oLeI, oGtI, oGeI, oMax2, oMin2, oNeg, oAddS, oLtS, fAdd, fSub, fMul, fDiv, fMod, fPow, fNeg, fIx, gOr, gAdd, gAddI, fTb, fTr, truthD, fNotT, fAndT, fOrT, fNotV, fAndV, fOrV, fIf, fTup, fLst, gTupD, gLstD, fInt, oInt, fAbs, oAbs, fLen, oLen, fCall, argsOf, putB, outs, gIx, oIxD, gLt, tYesE, fIsi, oNotV, okV, wipeE, restE, W.isSh, W.owned, fMutN, mApp, R.els, D.its, iRange1, iRange2, iSeq, iEnumA, D.walk, fTuple, gTuple, fList, gList, fSorted, gSort, fMutP, qV, qC, slOf, gSl0, gSlLo, gSlHi, gSl2, fSl2, gCatL, gCatT, els2, fPure, frzE, List.map_cons, List.map_nil, fCallP, fCallKP, fMethP, W.clean, W.cleans, D.tdat, D.tdats, size_ok, size_ok1, List.getElem?_cons_zero, List.getElem?_cons_succ, List.getElem?_nil, List.set_cons_zero, List.set_cons_succ, List.length_cons, List.length_nil, List.replicate_succ, List.replicate_zero, List.cons_append, List.nil_append, List.append_nil]
      · cases z
    case lst ds =>
      have := main ds h.1 h.2 (.lst ds) (by simp)
      rcases v with rfl | ⟨ws, rfl, z⟩
      · simp [m_law_lists, b_law_lists, oIsi, D.tyn, isi2, fComp, this, toW, fnP, sSeq, sIf, sAsg, sExpr, sRet, sRetN, sNil, sFor, sPar, sAug, sBk, sCt, gN, gsNil, gsCons, gTupT, gSetI, fC, fVar_eq, vW_sh, vW_lst, vW_ins, vW_dT, evs, fN, fU, gS, gS1, rds, rfz, rtk, R_d_val, R_d_pl, R.fz, R.tk, R_st_val, R_st_pl, R_st_plc, R.out, W.d, W.ds, En.get, En.put, W.get, W.put, oII, tt2, okMul, okDiv, okMod, okPow, oAddI, oSub, oMul, oDiv, oMod, oPow, oLtI, oLeI, oGtI, oGeI, oMax2, oMin2, oNeg, oAddS, oLtS, fAdd, fSub, fMul, fDiv, fMod, fPow, fNeg, fIx, gOr, gAdd, gAddI, fTb, fTr, truthD, fNotT, fAndT, fOrT, fNotV, fAndV, fOrV, fIf, fTup, fLst, gTupD, gLstD, fInt, oInt, fAbs, oAbs, fLen, oLen, fCall, argsOf, putB, outs, gIx, oIxD, gLt, tYesE, fIsi, oNotV, okV, wipeE, restE, W.isSh, W.owned, fMutN, mApp, R.els, D.its, iRange1, iRange2, iSeq, iEnumA, D.walk, fTuple, gTuple, fList, gList, fSorted, gSort, fMutP, qV, qC, slOf, gSl0, gSlLo, gSlHi, gSl2, fSl2, gCatL, gCatT, els2, fPure, frzE, List.map_cons, List.map_nil, fCallP, fCallKP, fMethP, W.clean, W.cleans, D.tdat, D.tdats, size_ok, size_ok1, List.getElem?_cons_zero, List.getElem?_cons_succ, List.getElem?_nil, List.set_cons_zero, List.set_cons_succ, List.length_cons, List.length_nil, List.replicate_succ, List.replicate_zero, List.cons_append, List.nil_append, List.append_nil]
      · cases z
        simp [m_law_lists, b_law_lists, oIsi, D.tyn, isi2, fComp, this, toW, fnP, sSeq, sIf, sAsg, sExpr, sRet, sRetN, sNil, sFor, sPar, sAug, sBk, sCt, gN, gsNil, gsCons, gTupT, gSetI, fC, fVar_eq, vW_sh, vW_lst, vW_ins, vW_dT, evs, fN, fU, gS, gS1, rds, rfz, rtk, R_d_val, R_d_pl, R.fz, R.tk, R_st_val, R_st_pl, R_st_plc, R.out, W.d, W.ds, En.get, En.put, W.get, W.put, oII, tt2, okMul, okDiv, okMod, okPow, oAddI, oSub, oMul, oDiv, oMod, oPow, oLtI, oLeI, oGtI, oGeI, oMax2, oMin2, oNeg, oAddS, oLtS, fAdd, fSub, fMul, fDiv, fMod, fPow, fNeg, fIx, gOr, gAdd, gAddI, fTb, fTr, truthD, fNotT, fAndT, fOrT, fNotV, fAndV, fOrV, fIf, fTup, fLst, gTupD, gLstD, fInt, oInt, fAbs, oAbs, fLen, oLen, fCall, argsOf, putB, outs, gIx, oIxD, gLt, tYesE, fIsi, oNotV, okV, wipeE, restE, W.isSh, W.owned, fMutN, mApp, R.els, D.its, iRange1, iRange2, iSeq, iEnumA, D.walk, fTuple, gTuple, fList, gList, fSorted, gSort, fMutP, qV, qC, slOf, gSl0, gSlLo, gSlHi, gSl2, fSl2, gCatL, gCatT, els2, fPure, frzE, List.map_cons, List.map_nil, fCallP, fCallKP, fMethP, W.clean, W.cleans, D.tdat, D.tdats, size_ok, size_ok1, List.getElem?_cons_zero, List.getElem?_cons_succ, List.getElem?_nil, List.set_cons_zero, List.set_cons_succ, List.length_cons, List.length_nil, List.replicate_succ, List.replicate_zero, List.cons_append, List.nil_append, List.append_nil]
    all_goals
      rcases v with rfl | ⟨ws, _, z⟩
      · simp [m_law_lists, b_law_lists, oIsi, D.tyn, isi3, isi4, isi5, isi6, toW, fnP, sSeq, sIf, sAsg, sExpr, sRet, sRetN, sNil, sFor, sPar, sAug, sBk, sCt, gN, gsNil, gsCons, gTupT, gSetI, fC, fVar_eq, vW_sh, vW_lst, vW_ins, vW_dT, evs, fN, fU, gS, gS1, rds, rfz, rtk, R_d_val, R_d_pl, R.fz, R.tk, R_st_val, R_st_pl, R_st_plc, R.out, W.d, W.ds, En.get, En.put, W.get, W.put, oII, tt2, okMul, okDiv, okMod, okPow, oAddI, oSub, oMul, oDiv, oMod, oPow, oLtI, oLeI, oGtI, oGeI, oMax2, oMin2, oNeg, oAddS, oLtS, fAdd, fSub, fMul, fDiv, fMod, fPow, fNeg, fIx, gOr, gAdd, gAddI, fTb, fTr, truthD, fNotT, fAndT, fOrT, fNotV, fAndV, fOrV, fIf, fTup, fLst, gTupD, gLstD, fInt, oInt, fAbs, oAbs, fLen, oLen, fCall, argsOf, putB, outs, gIx, oIxD, gLt, tYesE, fIsi, oNotV, okV, wipeE, restE, W.isSh, W.owned, fMutN, mApp, R.els, D.its, iRange1, iRange2, iSeq, iEnumA, D.walk, fTuple, gTuple, fList, gList, fSorted, gSort, fMutP, qV, qC, slOf, gSl0, gSlLo, gSlHi, gSl2, fSl2, gCatL, gCatT, els2, fPure, frzE, List.map_cons, List.map_nil, fCallP, fCallKP, fMethP, W.clean, W.cleans, D.tdat, D.tdats, size_ok, size_ok1, List.getElem?_cons_zero, List.getElem?_cons_succ, List.getElem?_nil, List.set_cons_zero, List.set_cons_succ, List.length_cons, List.length_nil, List.replicate_succ, List.replicate_zero, List.cons_append, List.nil_append, List.append_nil]
      · cases z
theorem of_ok {c : Nat} {u : W} {ds : List D} (h : Urn c u) (hc : c < 1000000) (hn : 0 < ds.length) (hl : ds.length ≤ 1000) : ∃ u' d, m_law_of [u, .lst (ds.map W.sh)] = some (.sh d, [u', .lst (ds.map W.sh)]) ∧ Urn (c + 1) u' ∧ d ∈ ds := by
  obtain ⟨u', r, e, hu', r0, r1⟩ := take_ok (low := (ds.length : Int)) h hc (by omega) (by omega)
  obtain ⟨a, b, t, rfl, _⟩ := id h
  have hk : r.toNat < ds.length := by omega
  have hg : ds[r.toNat]? = some ds[r.toNat] := List.getElem?_eq_getElem hk
  refine ⟨u', ds[r.toNat], ?_, hu', List.getElem_mem hk⟩
  have i1 : ixN (ds.map W.sh).length r = some r.toNat := ixN_in r0 (by simpa using r1)
  have i2 : ixN ds.length r = some r.toNat := ixN_in r0 r1
  simp [m_law_of, b_law_of, dsh_ds, e, i1, i2, hg, fnP, sSeq, sIf, sAsg, sExpr, sRet, sRetN, sNil, sFor, sPar, sAug, sBk, sCt, gN, gsNil, gsCons, gTupT, gSetI, fC, fVar_eq, vW_sh, vW_lst, vW_ins, vW_dT, evs, fN, fU, gS, gS1, rds, rfz, rtk, R_d_val, R_d_pl, R.fz, R.tk, R_st_val, R_st_pl, R_st_plc, R.out, W.d, W.ds, En.get, En.put, W.get, W.put, oII, tt2, okMul, okDiv, okMod, okPow, oAddI, oSub, oMul, oDiv, oMod, oPow, oLtI, oLeI, oGtI, oGeI, oMax2, oMin2, oNeg, oAddS, oLtS, fAdd, fSub, fMul, fDiv, fMod, fPow, fNeg, fIx, gOr, gAdd, gAddI, fTb, fTr, truthD, fNotT, fAndT, fOrT, fNotV, fAndV, fOrV, fIf, fTup, fLst, gTupD, gLstD, fInt, oInt, fAbs, oAbs, fLen, oLen, fCall, argsOf, putB, outs, gIx, oIxD, gLt, tYesE, fIsi, oNotV, okV, wipeE, restE, W.isSh, W.owned, fMutN, mApp, R.els, D.its, iRange1, iRange2, iSeq, iEnumA, D.walk, fTuple, gTuple, fList, gList, fSorted, gSort, fMutP, qV, qC, slOf, gSl0, gSlLo, gSlHi, gSl2, fSl2, gCatL, gCatT, els2, fPure, frzE, List.map_cons, List.map_nil, fCallP, fCallKP, fMethP, W.clean, W.cleans, D.tdat, D.tdats, size_ok, size_ok1, List.getElem?_cons_zero, List.getElem?_cons_succ, List.getElem?_nil, List.set_cons_zero, List.set_cons_succ, List.length_cons, List.length_nil, List.replicate_succ, List.replicate_zero, List.cons_append, List.nil_append, List.append_nil]
theorem ofW_ok {c : Nat} {u : W} {ws : List W} (h : Urn c u) (hc : c < 1000000) (hn : 0 < ws.length) (hl : ws.length ≤ 1000) : ∃ u' x w', m_law_of [u, .lst ws] = some (.sh (W.d x), [u', w']) ∧ Urn (c + 1) u' ∧ x ∈ ws := by
  obtain ⟨u', r, e, hu', r0, r1⟩ := take_ok (low := (ws.length : Int)) h hc (by omega) (by omega)
  obtain ⟨a, b, t, rfl, _⟩ := id h
  have hk : r.toNat < ws.length := by omega
  have hg : ws[r.toNat]? = some ws[r.toNat] := List.getElem?_eq_getElem hk
  have i1 : ixN ws.length r = some r.toNat := ixN_in r0 r1
  have hs : ws.length ≤ sizeLine := size_le (by omega)
  have dl : (W.ds ws).length = ws.length := by rw [ds_map, List.length_map]
  cases hw : ws[r.toNat] with
  | sh d =>
    refine ⟨u', ws[r.toNat], .lst ws, ?_, hu', List.getElem_mem hk⟩
    simp [m_law_of, b_law_of, dl, e, i1, hg, hw, hs, fnP, sSeq, sIf, sAsg, sExpr, sRet, sRetN, sNil, sFor, sPar, sAug, sBk, sCt, gN, gsNil, gsCons, gTupT, gSetI, fC, fVar_eq, vW_sh, vW_lst, vW_ins, vW_dT, evs, fN, fU, gS, gS1, rds, rfz, rtk, R_d_val, R_d_pl, R.fz, R.tk, R_st_val, R_st_pl, R_st_plc, R.out, W.d, W.ds, En.get, En.put, W.get, W.put, oII, tt2, okMul, okDiv, okMod, okPow, oAddI, oSub, oMul, oDiv, oMod, oPow, oLtI, oLeI, oGtI, oGeI, oMax2, oMin2, oNeg, oAddS, oLtS, fAdd, fSub, fMul, fDiv, fMod, fPow, fNeg, fIx, gOr, gAdd, gAddI, fTb, fTr, truthD, fNotT, fAndT, fOrT, fNotV, fAndV, fOrV, fIf, fTup, fLst, gTupD, gLstD, fInt, oInt, fAbs, oAbs, fLen, oLen, fCall, argsOf, putB, outs, gIx, oIxD, gLt, tYesE, fIsi, oNotV, okV, wipeE, restE, W.isSh, W.owned, fMutN, mApp, R.els, D.its, iRange1, iRange2, iSeq, iEnumA, D.walk, fTuple, gTuple, fList, gList, fSorted, gSort, fMutP, qV, qC, slOf, gSl0, gSlLo, gSlHi, gSl2, fSl2, gCatL, gCatT, els2, fPure, frzE, List.map_cons, List.map_nil, fCallP, fCallKP, fMethP, W.clean, W.cleans, D.tdat, D.tdats, size_ok, size_ok1, List.getElem?_cons_zero, List.getElem?_cons_succ, List.getElem?_nil, List.set_cons_zero, List.set_cons_succ, List.length_cons, List.length_nil, List.replicate_succ, List.replicate_zero, List.cons_append, List.nil_append, List.append_nil]
  | _ =>
    refine ⟨u', ws[r.toNat], .lst (ws.set r.toNat (.sh ws[r.toNat].d)), ?_, hu', List.getElem_mem hk⟩
    simp [m_law_of, b_law_of, dl, e, i1, hg, hw, hs, fnP, sSeq, sIf, sAsg, sExpr, sRet, sRetN, sNil, sFor, sPar, sAug, sBk, sCt, gN, gsNil, gsCons, gTupT, gSetI, fC, fVar_eq, vW_sh, vW_lst, vW_ins, vW_dT, evs, fN, fU, gS, gS1, rds, rfz, rtk, R_d_val, R_d_pl, R.fz, R.tk, R_st_val, R_st_pl, R_st_plc, R.out, W.d, W.ds, En.get, En.put, W.get, W.put, oII, tt2, okMul, okDiv, okMod, okPow, oAddI, oSub, oMul, oDiv, oMod, oPow, oLtI, oLeI, oGtI, oGeI, oMax2, oMin2, oNeg, oAddS, oLtS, fAdd, fSub, fMul, fDiv, fMod, fPow, fNeg, fIx, gOr, gAdd, gAddI, fTb, fTr, truthD, fNotT, fAndT, fOrT, fNotV, fAndV, fOrV, fIf, fTup, fLst, gTupD, gLstD, fInt, oInt, fAbs, oAbs, fLen, oLen, fCall, argsOf, putB, outs, gIx, oIxD, gLt, tYesE, fIsi, oNotV, okV, wipeE, restE, W.isSh, W.owned, fMutN, mApp, R.els, D.its, iRange1, iRange2, iSeq, iEnumA, D.walk, fTuple, gTuple, fList, gList, fSorted, gSort, fMutP, qV, qC, slOf, gSl0, gSlLo, gSlHi, gSl2, fSl2, gCatL, gCatT, els2, fPure, frzE, List.map_cons, List.map_nil, fCallP, fCallKP, fMethP, W.clean, W.cleans, D.tdat, D.tdats, size_ok, size_ok1, List.getElem?_cons_zero, List.getElem?_cons_succ, List.getElem?_nil, List.set_cons_zero, List.set_cons_succ, List.length_cons, List.length_nil, List.replicate_succ, List.replicate_zero, List.cons_append, List.nil_append, List.append_nil]
theorem shape_ok : ∀ {n c : Nat} {u : W} {row : List Str}, Urn c u → 0 < row.length → row.length < n → row.length ≤ 1000 → c + row.length ≤ 1000000 →
    ∃ u' t, m_law_shape n [u, .lst (sW row)] = some (.sh (Tr.D t), [u', .lst (sW row)]) ∧ Urn (c + (row.length - 1)) u' ∧ t.leaves = row
  | 0, _, _, _, _, _, h, _, _ => by omega
  | n + 1, c, u, row, h, h0, hl, hm, hc => by
    by_cases h1 : row.length = 1
    · obtain ⟨x, rfl⟩ := List.length_eq_one_iff.mp h1
      obtain ⟨a, b, t, rfl, ha, hb, ht, htc⟩ := id h
      refine ⟨.lst [.sh (.int a), .sh (.int b), .sh (.int t)], .leaf x, ?_, ⟨a, b, t, rfl, ha, hb, ht, by simp; omega⟩, rfl⟩
      simp [m_law_shape, b_law_shape, oEq, eqI, eqD_refl (n := 1) (d := .int 1) (by simp [okD]) (by omega), sW, ixN, Tr.D, fnP, sSeq, sIf, sAsg, sExpr, sRet, sRetN, sNil, sFor, sPar, sAug, sBk, sCt, gN, gsNil, gsCons, gTupT, gSetI, fC, fVar_eq, vW_sh, vW_lst, vW_ins, vW_dT, evs, fN, fU, gS, gS1, rds, rfz, rtk, R_d_val, R_d_pl, R.fz, R.tk, R_st_val, R_st_pl, R_st_plc, R.out, W.d, W.ds, En.get, En.put, W.get, W.put, oII, tt2, okMul, okDiv, okMod, okPow, oAddI, oSub, oMul, oDiv, oMod, oPow, oLtI, oLeI, oGtI, oGeI, oMax2, oMin2, oNeg, oAddS, oLtS, fAdd, fSub, fMul, fDiv, fMod, fPow, fNeg, fIx, gOr, gAdd, gAddI, fTb, fTr, truthD, fNotT, fAndT, fOrT, fNotV, fAndV, fOrV, fIf, fTup, fLst, gTupD, gLstD, fInt, oInt, fAbs, oAbs, fLen, oLen, fCall, argsOf, putB, outs, gIx, oIxD, gLt, tYesE, fIsi, oNotV, okV, wipeE, restE, W.isSh, W.owned, fMutN, mApp, R.els, D.its, iRange1, iRange2, iSeq, iEnumA, D.walk, fTuple, gTuple, fList, gList, fSorted, gSort, fMutP, qV, qC, slOf, gSl0, gSlLo, gSlHi, gSl2, fSl2, gCatL, gCatT, els2, fPure, frzE, List.map_cons, List.map_nil, fCallP, fCallKP, fMethP, W.clean, W.cleans, D.tdat, D.tdats, size_ok, size_ok1, List.getElem?_cons_zero, List.getElem?_cons_succ, List.getElem?_nil, List.set_cons_zero, List.set_cons_succ, List.length_cons, List.length_nil, List.replicate_succ, List.replicate_zero, List.cons_append, List.nil_append, List.append_nil]
    · have hne : eqD (.int (row.length : Int)) (.int 1) = some false := by
        simp [eqD, D.py, SeqAt.shaped, PyData.canLay0, PyData.depth, PyData.eqv]
        omega
      obtain ⟨u1, r, e1, hu1, r0, r1⟩ := take_ok (low := (row.length : Int) - 1) h (by omega) (by omega) (by omega)
      have k0 : 0 ≤ 1 + r := by omega
      have l1 : (row.take (1 + r).toNat).length = (1 + r).toNat := by rw [List.length_take]; omega
      have l2 : (row.drop (1 + r).toNat).length = row.length - (1 + r).toNat := by rw [List.length_drop]
      obtain ⟨u2, t1, e2, hu2, v1⟩ := shape_ok (n := n) (row := row.take (1 + r).toNat) hu1 (by omega) (by omega) (by omega) (by omega)
      obtain ⟨u3, t2, e3, hu3, v2⟩ := shape_ok (n := n) (row := row.drop (1 + r).toNat) hu2 (by omega) (by omega) (by omega) (by omega)
      obtain ⟨a, b, t, rfl, _⟩ := id h
      obtain ⟨a1, b1, t1', rfl, _⟩ := id hu1
      obtain ⟨a2, b2, t2', rfl, _⟩ := id hu2
      refine ⟨u3, .node t1 t2, ?_, ?_, by rw [Tr.leaves, v1, v2, List.take_append_drop]⟩
      · simp [m_law_shape, b_law_shape, oEq, hne, sW_ds, sW_len, sD_len, e1, cut_hi _ k0, cut_lo _ k0, sD_take, sD_drop, sD_sh, shs_sW, e2, e3, Tr.D_ne, Tr.D, fnP, sSeq, sIf, sAsg, sExpr, sRet, sRetN, sNil, sFor, sPar, sAug, sBk, sCt, gN, gsNil, gsCons, gTupT, gSetI, fC, fVar_eq, vW_sh, vW_lst, vW_ins, vW_dT, evs, fN, fU, gS, gS1, rds, rfz, rtk, R_d_val, R_d_pl, R.fz, R.tk, R_st_val, R_st_pl, R_st_plc, R.out, W.d, W.ds, En.get, En.put, W.get, W.put, oII, tt2, okMul, okDiv, okMod, okPow, oAddI, oSub, oMul, oDiv, oMod, oPow, oLtI, oLeI, oGtI, oGeI, oMax2, oMin2, oNeg, oAddS, oLtS, fAdd, fSub, fMul, fDiv, fMod, fPow, fNeg, fIx, gOr, gAdd, gAddI, fTb, fTr, truthD, fNotT, fAndT, fOrT, fNotV, fAndV, fOrV, fIf, fTup, fLst, gTupD, gLstD, fInt, oInt, fAbs, oAbs, fLen, oLen, fCall, argsOf, putB, outs, gIx, oIxD, gLt, tYesE, fIsi, oNotV, okV, wipeE, restE, W.isSh, W.owned, fMutN, mApp, R.els, D.its, iRange1, iRange2, iSeq, iEnumA, D.walk, fTuple, gTuple, fList, gList, fSorted, gSort, fMutP, qV, qC, slOf, gSl0, gSlLo, gSlHi, gSl2, fSl2, gCatL, gCatT, els2, fPure, frzE, List.map_cons, List.map_nil, fCallP, fCallKP, fMethP, W.clean, W.cleans, D.tdat, D.tdats, size_ok, size_ok1, List.getElem?_cons_zero, List.getElem?_cons_succ, List.getElem?_nil, List.set_cons_zero, List.set_cons_succ, List.length_cons, List.length_nil, List.replicate_succ, List.replicate_zero, List.cons_append, List.nil_append, List.append_nil]
      · obtain ⟨a3, b3, t3, rfl, q1, q2, q3, q4⟩ := hu3
        exact ⟨a3, b3, t3, rfl, q1, q2, q3, by omega⟩
theorem leaves_ok : ∀ {n : Nat} (t : Tr), t.dep < n → t.leaves.length ≤ 10000 → m_law_leaves n [.sh t.D] = some (.lst (sW t.leaves), [.sh t.D])
  | 0, _, h, _ => by omega
  | n + 1, .leaf s, _, _ => by simp [m_law_leaves, b_law_leaves, Tr.D, Tr.leaves, oIsi, D.tyn, isi7, sW, fnP, sSeq, sIf, sAsg, sExpr, sRet, sRetN, sNil, sFor, sPar, sAug, sBk, sCt, gN, gsNil, gsCons, gTupT, gSetI, fC, fVar_eq, vW_sh, vW_lst, vW_ins, vW_dT, evs, fN, fU, gS, gS1, rds, rfz, rtk, R_d_val, R_d_pl, R.fz, R.tk, R_st_val, R_st_pl, R_st_plc, R.out, W.d, W.ds, En.get, En.put, W.get, W.put, oII, tt2, okMul, okDiv, okMod, okPow, oAddI, oSub, oMul, oDiv, oMod, oPow, oLtI, oLeI, oGtI, oGeI, oMax2, oMin2, oNeg, oAddS, oLtS, fAdd, fSub, fMul, fDiv, fMod, fPow, fNeg, fIx, gOr, gAdd, gAddI, fTb, fTr, truthD, fNotT, fAndT, fOrT, fNotV, fAndV, fOrV, fIf, fTup, fLst, gTupD, gLstD, fInt, oInt, fAbs, oAbs, fLen, oLen, fCall, argsOf, putB, outs, gIx, oIxD, gLt, tYesE, fIsi, oNotV, okV, wipeE, restE, W.isSh, W.owned, fMutN, mApp, R.els, D.its, iRange1, iRange2, iSeq, iEnumA, D.walk, fTuple, gTuple, fList, gList, fSorted, gSort, fMutP, qV, qC, slOf, gSl0, gSlLo, gSlHi, gSl2, fSl2, gCatL, gCatT, els2, fPure, frzE, List.map_cons, List.map_nil, fCallP, fCallKP, fMethP, W.clean, W.cleans, D.tdat, D.tdats, size_ok, size_ok1, List.getElem?_cons_zero, List.getElem?_cons_succ, List.getElem?_nil, List.set_cons_zero, List.set_cons_succ, List.length_cons, List.length_nil, List.replicate_succ, List.replicate_zero, List.cons_append, List.nil_append, List.append_nil, tdats_sD, cleans_sW, Tr.tdat]
  | n + 1, .node l r, h, hl => by
    simp only [Tr.dep] at h
    simp only [Tr.leaves, List.length_append] at hl
    have e1 := leaves_ok (n := n) l (by omega) (by omega)
    have e2 := leaves_ok (n := n) r (by omega) (by omega)
    have hs : l.leaves.length + r.leaves.length ≤ sizeLine := size_le (by omega)
    simp [m_law_leaves, b_law_leaves, Tr.D, Tr.leaves, oIsi, D.tyn, isi8, ixN, atI, e1, e2, sW_ds, sD_sh, sW_app, sD_len, hs, fnP, sSeq, sIf, sAsg, sExpr, sRet, sRetN, sNil, sFor, sPar, sAug, sBk, sCt, gN, gsNil, gsCons, gTupT, gSetI, fC, fVar_eq, vW_sh, vW_lst, vW_ins, vW_dT, evs, fN, fU, gS, gS1, rds, rfz, rtk, R_d_val, R_d_pl, R.fz, R.tk, R_st_val, R_st_pl, R_st_plc, R.out, W.d, W.ds, En.get, En.put, W.get, W.put, oII, tt2, okMul, okDiv, okMod, okPow, oAddI, oSub, oMul, oDiv, oMod, oPow, oLtI, oLeI, oGtI, oGeI, oMax2, oMin2, oNeg, oAddS, oLtS, fAdd, fSub, fMul, fDiv, fMod, fPow, fNeg, fIx, gOr, gAdd, gAddI, fTb, fTr, truthD, fNotT, fAndT, fOrT, fNotV, fAndV, fOrV, fIf, fTup, fLst, gTupD, gLstD, fInt, oInt, fAbs, oAbs, fLen, oLen, fCall, argsOf, putB, outs, gIx, oIxD, gLt, tYesE, fIsi, oNotV, okV, wipeE, restE, W.isSh, W.owned, fMutN, mApp, R.els, D.its, iRange1, iRange2, iSeq, iEnumA, D.walk, fTuple, gTuple, fList, gList, fSorted, gSort, fMutP, qV, qC, slOf, gSl0, gSlLo, gSlHi, gSl2, fSl2, gCatL, gCatT, els2, fPure, frzE, List.map_cons, List.map_nil, fCallP, fCallKP, fMethP, W.clean, W.cleans, D.tdat, D.tdats, size_ok, size_ok1, List.getElem?_cons_zero, List.getElem?_cons_succ, List.getElem?_nil, List.set_cons_zero, List.set_cons_succ, List.length_cons, List.length_nil, List.replicate_succ, List.replicate_zero, List.cons_append, List.nil_append, List.append_nil, tdats_sD, cleans_sW, Tr.tdat]
theorem few_loop : ∀ (xs ys : List Str) (c : Nat) (u : W) (p : D) (k : Int), Urn c u → c + xs.length ≤ 1000000 → 0 < k → k < 1000000 → ys.length + xs.length ≤ 1000 →
    ∃ u' zs, compD [3] (gN 3) t_law_few_1 (fVar 3) (sD xs) [u, .sh p, .sh (.int k), .sh .any] (sW ys) = some ([u', .sh p, .sh (.int k), .sh .any], sW (ys ++ zs)) ∧ Urn (c + xs.length) u' ∧ zs.Sublist xs
  | [], ys, c, u, p, k, h, _, _, _, _ => ⟨u, [], by simp [compD, sD], by simpa using h, by simp⟩
  | x :: xs, ys, c, u, p, k, h, hc, k0, k1, hl => by
    simp only [List.length_cons] at hc hl
    obtain ⟨u1, r, e, hu1, r0, r1⟩ := take_ok (low := k) h (by omega) k0 k1
    obtain ⟨a, b, t, rfl, _⟩ := id h
    obtain ⟨a1, b1, t1, rfl, _⟩ := id hu1
    have hs : ys.length < sizeLine := size_lt (by omega)
    by_cases hr : r = 0
    · subst hr
      have q : eqD (.int 0) (.int 0) = some true := eqD_refl (n := 1) (by simp [okD]) (by omega)
      obtain ⟨u2, zs, e2, hu2, sub⟩ := few_loop xs (ys ++ [x]) (c + 1) _ p k hu1 (by omega) k0 k1 (by simp; omega)
      refine ⟨u2, x :: zs, ?_, by rw [show c + (x :: xs).length = c + 1 + xs.length by simp only [List.length_cons]; omega]; exact hu2, sub.cons_cons x⟩
      rw [show ys ++ x :: zs = (ys ++ [x]) ++ zs by simp, ← e2]
      simp [compD, sD, t_law_few_1, e, oEq, q, hs, sW_app, sW_len, fnP, sSeq, sIf, sAsg, sExpr, sRet, sRetN, sNil, sFor, sPar, sAug, sBk, sCt, gN, gsNil, gsCons, gTupT, gSetI, fC, fVar_eq, vW_sh, vW_lst, vW_ins, vW_dT, evs, fN, fU, gS, gS1, rds, rfz, rtk, R_d_val, R_d_pl, R.fz, R.tk, R_st_val, R_st_pl, R_st_plc, R.out, W.d, W.ds, En.get, En.put, W.get, W.put, oII, tt2, okMul, okDiv, okMod, okPow, oAddI, oSub, oMul, oDiv, oMod, oPow, oLtI, oLeI, oGtI, oGeI, oMax2, oMin2, oNeg, oAddS, oLtS, fAdd, fSub, fMul, fDiv, fMod, fPow, fNeg, fIx, gOr, gAdd, gAddI, fTb, fTr, truthD, fNotT, fAndT, fOrT, fNotV, fAndV, fOrV, fIf, fTup, fLst, gTupD, gLstD, fInt, oInt, fAbs, oAbs, fLen, oLen, fCall, argsOf, putB, outs, gIx, oIxD, gLt, tYesE, fIsi, oNotV, okV, wipeE, restE, W.isSh, W.owned, fMutN, mApp, R.els, D.its, iRange1, iRange2, iSeq, iEnumA, D.walk, fTuple, gTuple, fList, gList, fSorted, gSort, fMutP, qV, qC, slOf, gSl0, gSlLo, gSlHi, gSl2, fSl2, gCatL, gCatT, els2, fPure, frzE, List.map_cons, List.map_nil, fCallP, fCallKP, fMethP, W.clean, W.cleans, D.tdat, D.tdats, size_ok, size_ok1, List.getElem?_cons_zero, List.getElem?_cons_succ, List.getElem?_nil, List.set_cons_zero, List.set_cons_succ, List.length_cons, List.length_nil, List.replicate_succ, List.replicate_zero, List.cons_append, List.nil_append, List.append_nil]
      simp [sW]
    · have q : eqD (.int r) (.int 0) = some false := by
        simp [eqD, D.py, SeqAt.shaped, PyData.canLay0, PyData.depth, PyData.eqv, hr]
      obtain ⟨u2, zs, e2, hu2, sub⟩ := few_loop xs ys (c + 1) _ p k hu1 (by omega) k0 k1 (by omega)
      refine ⟨u2, zs, ?_, by rw [show c + (x :: xs).length = c + 1 + xs.length by simp only [List.length_cons]; omega]; exact hu2, sub.cons x⟩
      rw [← e2]
      simp [compD, sD, t_law_few_1, e, oEq, q, hs, sW_app, sW_len, fnP, sSeq, sIf, sAsg, sExpr, sRet, sRetN, sNil, sFor, sPar, sAug, sBk, sCt, gN, gsNil, gsCons, gTupT, gSetI, fC, fVar_eq, vW_sh, vW_lst, vW_ins, vW_dT, evs, fN, fU, gS, gS1, rds, rfz, rtk, R_d_val, R_d_pl, R.fz, R.tk, R_st_val, R_st_pl, R_st_plc, R.out, W.d, W.ds, En.get, En.put, W.get, W.put, oII, tt2, okMul, okDiv, okMod, okPow, oAddI, oSub, oMul, oDiv, oMod, oPow, oLtI, oLeI, oGtI, oGeI, oMax2, oMin2, oNeg, oAddS, oLtS, fAdd, fSub, fMul, fDiv, fMod, fPow, fNeg, fIx, gOr, gAdd, gAddI, fTb, fTr, truthD, fNotT, fAndT, fOrT, fNotV, fAndV, fOrV, fIf, fTup, fLst, gTupD, gLstD, fInt, oInt, fAbs, oAbs, fLen, oLen, fCall, argsOf, putB, outs, gIx, oIxD, gLt, tYesE, fIsi, oNotV, okV, wipeE, restE, W.isSh, W.owned, fMutN, mApp, R.els, D.its, iRange1, iRange2, iSeq, iEnumA, D.walk, fTuple, gTuple, fList, gList, fSorted, gSort, fMutP, qV, qC, slOf, gSl0, gSlLo, gSlHi, gSl2, fSl2, gCatL, gCatT, els2, fPure, frzE, List.map_cons, List.map_nil, fCallP, fCallKP, fMethP, W.clean, W.cleans, D.tdat, D.tdats, size_ok, size_ok1, List.getElem?_cons_zero, List.getElem?_cons_succ, List.getElem?_nil, List.set_cons_zero, List.set_cons_succ, List.length_cons, List.length_nil, List.replicate_succ, List.replicate_zero, List.cons_append, List.nil_append, List.append_nil]
theorem few_ok {c : Nat} {u : W} {xs : List Str} {k : Int} (h : Urn c u) (hc : c + xs.length ≤ 1000000) (k0 : 0 < k) (k1 : k < 1000000) (hl : xs.length ≤ 1000) :
    ∃ u' zs, m_law_few [u, .sh (.tup (sD xs)), .sh (.int k)] = some (.sh (.tup (sD zs)), [u', .sh (.tup (sD xs)), .sh (.int k)]) ∧ Urn (c + xs.length) u' ∧ zs.Sublist xs := by
  obtain ⟨u', zs, e, hu, sub⟩ := few_loop xs [] c u (.tup (sD xs)) k h hc k0 k1 (by simpa using hl)
  obtain ⟨a, b, t, rfl, _⟩ := id h
  rw [sW_nil] at e
  refine ⟨u', zs, ?_, hu, sub⟩
  simp [m_law_few, b_law_few, fComp, e, sW_ds, fnP, sSeq, sIf, sAsg, sExpr, sRet, sRetN, sNil, sFor, sPar, sAug, sBk, sCt, gN, gsNil, gsCons, gTupT, gSetI, fC, fVar_eq, vW_sh, vW_lst, vW_ins, vW_dT, evs, fN, fU, gS, gS1, rds, rfz, rtk, R_d_val, R_d_pl, R.fz, R.tk, R_st_val, R_st_pl, R_st_plc, R.out, W.d, W.ds, En.get, En.put, W.get, W.put, oII, tt2, okMul, okDiv, okMod, okPow, oAddI, oSub, oMul, oDiv, oMod, oPow, oLtI, oLeI, oGtI, oGeI, oMax2, oMin2, oNeg, oAddS, oLtS, fAdd, fSub, fMul, fDiv, fMod, fPow, fNeg, fIx, gOr, gAdd, gAddI, fTb, fTr, truthD, fNotT, fAndT, fOrT, fNotV, fAndV, fOrV, fIf, fTup, fLst, gTupD, gLstD, fInt, oInt, fAbs, oAbs, fLen, oLen, fCall, argsOf, putB, outs, gIx, oIxD, gLt, tYesE, fIsi, oNotV, okV, wipeE, restE, W.isSh, W.owned, fMutN, mApp, R.els, D.its, iRange1, iRange2, iSeq, iEnumA, D.walk, fTuple, gTuple, fList, gList, fSorted, gSort, fMutP, qV, qC, slOf, gSl0, gSlLo, gSlHi, gSl2, fSl2, gCatL, gCatT, els2, fPure, frzE, List.map_cons, List.map_nil, fCallP, fCallKP, fMethP, W.clean, W.cleans, D.tdat, D.tdats, size_ok, size_ok1, List.getElem?_cons_zero, List.getElem?_cons_succ, List.getElem?_nil, List.set_cons_zero, List.set_cons_succ, List.length_cons, List.length_nil, List.replicate_succ, List.replicate_zero, List.cons_append, List.nil_append, List.append_nil]
theorem few_loopI : ∀ (xs ys : List Int) (c : Nat) (u : W) (p : D) (k : Int), Urn c u → c + xs.length ≤ 1000000 → 0 < k → k < 1000000 → ys.length + xs.length ≤ 1000 →
    ∃ u' zs, compD [3] (gN 3) t_law_few_1 (fVar 3) (xs.map D.int) [u, .sh p, .sh (.int k), .sh .any] (iW ys) = some ([u', .sh p, .sh (.int k), .sh .any], iW (ys ++ zs)) ∧ Urn (c + xs.length) u' ∧ zs.Sublist xs
  | [], ys, c, u, p, k, h, _, _, _, _ => ⟨u, [], by simp [compD], by simpa using h, by simp⟩
  | x :: xs, ys, c, u, p, k, h, hc, k0, k1, hl => by
    simp only [List.length_cons] at hc hl
    obtain ⟨u1, r, e, hu1, r0, r1⟩ := take_ok (low := k) h (by omega) k0 k1
    obtain ⟨a, b, t, rfl, _⟩ := id h
    obtain ⟨a1, b1, t1, rfl, _⟩ := id hu1
    have hs : ys.length < sizeLine := size_lt (by omega)
    have app : iW (ys ++ [x]) = iW ys ++ [.sh (.int x)] := by simp [iW]
    by_cases hr : r = 0
    · subst hr
      have q : eqD (.int 0) (.int 0) = some true := eqD_refl (n := 1) (by simp [okD]) (by omega)
      obtain ⟨u2, zs, e2, hu2, sub⟩ := few_loopI xs (ys ++ [x]) (c + 1) _ p k hu1 (by omega) k0 k1 (by simp; omega)
      refine ⟨u2, x :: zs, ?_, by rw [show c + (x :: xs).length = c + 1 + xs.length by simp only [List.length_cons]; omega]; exact hu2, sub.cons_cons x⟩
      rw [show ys ++ x :: zs = (ys ++ [x]) ++ zs by simp, ← e2, app]
      simp [compD, t_law_few_1, e, oEq, q, hs, iW_len, fnP, sSeq, sIf, sAsg, sExpr, sRet, sRetN, sNil, sFor, sPar, sAug, sBk, sCt, gN, gsNil, gsCons, gTupT, gSetI, fC, fVar_eq, vW_sh, vW_lst, vW_ins, vW_dT, evs, fN, fU, gS, gS1, rds, rfz, rtk, R_d_val, R_d_pl, R.fz, R.tk, R_st_val, R_st_pl, R_st_plc, R.out, W.d, W.ds, En.get, En.put, W.get, W.put, oII, tt2, okMul, okDiv, okMod, okPow, oAddI, oSub, oMul, oDiv, oMod, oPow, oLtI, oLeI, oGtI, oGeI, oMax2, oMin2, oNeg, oAddS, oLtS, fAdd, fSub, fMul, fDiv, fMod, fPow, fNeg, fIx, gOr, gAdd, gAddI, fTb, fTr, truthD, fNotT, fAndT, fOrT, fNotV, fAndV, fOrV, fIf, fTup, fLst, gTupD, gLstD, fInt, oInt, fAbs, oAbs, fLen, oLen, fCall, argsOf, putB, outs, gIx, oIxD, gLt, tYesE, fIsi, oNotV, okV, wipeE, restE, W.isSh, W.owned, fMutN, mApp, R.els, D.its, iRange1, iRange2, iSeq, iEnumA, D.walk, fTuple, gTuple, fList, gList, fSorted, gSort, fMutP, qV, qC, slOf, gSl0, gSlLo, gSlHi, gSl2, fSl2, gCatL, gCatT, els2, fPure, frzE, List.map_cons, List.map_nil, fCallP, fCallKP, fMethP, W.clean, W.cleans, D.tdat, D.tdats, size_ok, size_ok1, List.getElem?_cons_zero, List.getElem?_cons_succ, List.getElem?_nil, List.set_cons_zero, List.set_cons_succ, List.length_cons, List.length_nil, List.replicate_succ, List.replicate_zero, List.cons_append, List.nil_append, List.append_nil]
    · have q : eqD (.int r) (.int 0) = some false := by
        simp [eqD, D.py, SeqAt.shaped, PyData.canLay0, PyData.depth, PyData.eqv, hr]
      obtain ⟨u2, zs, e2, hu2, sub⟩ := few_loopI xs ys (c + 1) _ p k hu1 (by omega) k0 k1 (by omega)
      refine ⟨u2, zs, ?_, by rw [show c + (x :: xs).length = c + 1 + xs.length by simp only [List.length_cons]; omega]; exact hu2, sub.cons x⟩
      rw [← e2]
      simp [compD, t_law_few_1, e, oEq, q, hs, iW_len, fnP, sSeq, sIf, sAsg, sExpr, sRet, sRetN, sNil, sFor, sPar, sAug, sBk, sCt, gN, gsNil, gsCons, gTupT, gSetI, fC, fVar_eq, vW_sh, vW_lst, vW_ins, vW_dT, evs, fN, fU, gS, gS1, rds, rfz, rtk, R_d_val, R_d_pl, R.fz, R.tk, R_st_val, R_st_pl, R_st_plc, R.out, W.d, W.ds, En.get, En.put, W.get, W.put, oII, tt2, okMul, okDiv, okMod, okPow, oAddI, oSub, oMul, oDiv, oMod, oPow, oLtI, oLeI, oGtI, oGeI, oMax2, oMin2, oNeg, oAddS, oLtS, fAdd, fSub, fMul, fDiv, fMod, fPow, fNeg, fIx, gOr, gAdd, gAddI, fTb, fTr, truthD, fNotT, fAndT, fOrT, fNotV, fAndV, fOrV, fIf, fTup, fLst, gTupD, gLstD, fInt, oInt, fAbs, oAbs, fLen, oLen, fCall, argsOf, putB, outs, gIx, oIxD, gLt, tYesE, fIsi, oNotV, okV, wipeE, restE, W.isSh, W.owned, fMutN, mApp, R.els, D.its, iRange1, iRange2, iSeq, iEnumA, D.walk, fTuple, gTuple, fList, gList, fSorted, gSort, fMutP, qV, qC, slOf, gSl0, gSlLo, gSlHi, gSl2, fSl2, gCatL, gCatT, els2, fPure, frzE, List.map_cons, List.map_nil, fCallP, fCallKP, fMethP, W.clean, W.cleans, D.tdat, D.tdats, size_ok, size_ok1, List.getElem?_cons_zero, List.getElem?_cons_succ, List.getElem?_nil, List.set_cons_zero, List.set_cons_succ, List.length_cons, List.length_nil, List.replicate_succ, List.replicate_zero, List.cons_append, List.nil_append, List.append_nil]
theorem fewI_ok {c : Nat} {u : W} {xs : List Int} {k : Int} {p : D} (hp : p = .tup (xs.map D.int) ∨ p = .lst (xs.map D.int)) (h : Urn c u) (hc : c + xs.length ≤ 1000000) (k0 : 0 < k) (k1 : k < 1000000) (hl : xs.length ≤ 1000) :
    ∃ (u' : W) (zs : List Int), m_law_few [u, .sh p, .sh (.int k)] = some (.sh (.tup (zs.map D.int)), [u', .sh p, .sh (.int k)]) ∧ Urn (c + xs.length) u' ∧ zs.Sublist xs := by
  obtain ⟨u', zs, e, hu, sub⟩ := few_loopI xs [] c u p k h hc k0 k1 (by simpa using hl)
  obtain ⟨a, b, t, rfl, _⟩ := id h
  rw [show iW [] = [] from rfl] at e
  refine ⟨u', zs, ?_, hu, sub⟩
  rcases hp with rfl | rfl <;> simp [m_law_few, b_law_few, fComp, e, iW_ds, fnP, sSeq, sIf, sAsg, sExpr, sRet, sRetN, sNil, sFor, sPar, sAug, sBk, sCt, gN, gsNil, gsCons, gTupT, gSetI, fC, fVar_eq, vW_sh, vW_lst, vW_ins, vW_dT, evs, fN, fU, gS, gS1, rds, rfz, rtk, R_d_val, R_d_pl, R.fz, R.tk, R_st_val, R_st_pl, R_st_plc, R.out, W.d, W.ds, En.get, En.put, W.get, W.put, oII, tt2, okMul, okDiv, okMod, okPow, oAddI, oSub, oMul, oDiv, oMod, oPow, oLtI, oLeI, oGtI, oGeI, oMax2, oMin2, oNeg, oAddS, oLtS, fAdd, fSub, fMul, fDiv, fMod, fPow, fNeg, fIx, gOr, gAdd, gAddI, fTb, fTr, truthD, fNotT, fAndT, fOrT, fNotV, fAndV, fOrV, fIf, fTup, fLst, gTupD, gLstD, fInt, oInt, fAbs, oAbs, fLen, oLen, fCall, argsOf, putB, outs, gIx, oIxD, gLt, tYesE, fIsi, oNotV, okV, wipeE, restE, W.isSh, W.owned, fMutN, mApp, R.els, D.its, iRange1, iRange2, iSeq, iEnumA, D.walk, fTuple, gTuple, fList, gList, fSorted, gSort, fMutP, qV, qC, slOf, gSl0, gSlLo, gSlHi, gSl2, fSl2, gCatL, gCatT, els2, fPure, frzE, List.map_cons, List.map_nil, fCallP, fCallKP, fMethP, W.clean, W.cleans, D.tdat, D.tdats, size_ok, size_ok1, List.getElem?_cons_zero, List.getElem?_cons_succ, List.getElem?_nil, List.set_cons_zero, List.set_cons_succ, List.length_cons, List.length_nil, List.replicate_succ, List.replicate_zero, List.cons_append, List.nil_append, List.append_nil]
def nodeK (a b : Nat) : List Key := [.inl (a : Int), .inl (b : Int)]
def nodeD (a b : Nat) : D := .tup [.int (a : Int), .int (b : Int)]
def Tr.grow : Tr → Nat → List (List Key) × List Pu.D → List (List Key) × List Pu.D
  | .leaf _, s, kd => (putKs kd.1 (nodeK s (s + 1)), putDs kd.1 kd.2 (nodeK s (s + 1)) (.tup []))
  | .node l r, s, kd =>
    let m := s + l.leaves.length
    let e := m + r.leaves.length
    let kd2 := r.grow m (l.grow s kd)
    (putKs kd2.1 (nodeK s e), putDs kd2.1 kd2.2 (nodeK s e) (.tup [nodeD s m, nodeD m e]))
theorem putKs_len {κ : Type} [DecidableEq κ] (ks : List κ) (k : κ) : (putKs ks k).length ≤ ks.length + 1 := by
  unfold putKs
  split <;> simp
theorem Tr.grow_len : ∀ (t : Tr) (s : Nat) (kd : List (List Key) × List Pu.D), (t.grow s kd).1.length + 1 ≤ kd.1.length + 2 * t.leaves.length
  | .leaf _, s, kd => by
    have := putKs_len kd.1 (nodeK s (s + 1))
    simp only [Tr.grow, Tr.leaves, List.length_cons, List.length_nil]
    omega
  | .node l r, s, kd => by
    have h1 := l.grow_len s kd
    have h2 := r.grow_len (s + l.leaves.length) (l.grow s kd)
    have h3 := putKs_len (r.grow (s + l.leaves.length) (l.grow s kd)).1 (nodeK s (s + l.leaves.length + r.leaves.length))
    simp only [Tr.grow, Tr.leaves, List.length_append]
    omega
theorem grown_ok : ∀ {n : Nat} (t : Tr) (bs : List Str) (kd : List (List Key) × List D), t.dep < n → bs.length + t.leaves.length ≤ 1000 → kd.1.length + 2 * t.leaves.length ≤ 10000 →
    m_Tree_grown n [.ins "Tree" [.lst (sW bs), .sh .any, .dT kd.1 kd.2], .sh t.D] =
      some (.sh (nodeD bs.length (bs.length + t.leaves.length)), [.ins "Tree" [.lst (sW (bs ++ t.leaves)), .sh .any, .dT (t.grow bs.length kd).1 (t.grow bs.length kd).2], .sh t.D])
  | 0, _, _, _, h, _, _ => by omega
  | n + 1, .leaf s, bs, kd, h, hb, hk => by
    simp only [Tr.leaves, List.length_cons, List.length_nil] at hb hk
    have h1 : bs.length < sizeLine := size_lt (by omega)
    have h2 : kd.1.length < sizeLine := size_lt (by omega)
    simp [m_Tree_grown, b_Tree_grown, Tr.D, Tr.leaves, Tr.grow, nodeD, nodeK, oIsi, D.tyn, isi7, fFld, fMutP, sDPutP, D.tkey, D.keys, D.key, sW_ds, sD_len, sW_len, sW_app, h1, h2, fnP, sSeq, sIf, sAsg, sExpr, sRet, sRetN, sNil, sFor, sPar, sAug, sBk, sCt, gN, gsNil, gsCons, gTupT, gSetI, fC, fVar_eq, vW_sh, vW_lst, vW_ins, vW_dT, evs, fN, fU, gS, gS1, rds, rfz, rtk, R_d_val, R_d_pl, R.fz, R.tk, R_st_val, R_st_pl, R_st_plc, R.out, W.d, W.ds, En.get, En.put, W.get, W.put, oII, tt2, okMul, okDiv, okMod, okPow, oAddI, oSub, oMul, oDiv, oMod, oPow, oLtI, oLeI, oGtI, oGeI, oMax2, oMin2, oNeg, oAddS, oLtS, fAdd, fSub, fMul, fDiv, fMod, fPow, fNeg, fIx, gOr, gAdd, gAddI, fTb, fTr, truthD, fNotT, fAndT, fOrT, fNotV, fAndV, fOrV, fIf, fTup, fLst, gTupD, gLstD, fInt, oInt, fAbs, oAbs, fLen, oLen, fCall, argsOf, putB, outs, gIx, oIxD, gLt, tYesE, fIsi, oNotV, okV, wipeE, restE, W.isSh, W.owned, fMutN, mApp, R.els, D.its, iRange1, iRange2, iSeq, iEnumA, D.walk, fTuple, gTuple, fList, gList, fSorted, gSort, fMutP, qV, qC, slOf, gSl0, gSlLo, gSlHi, gSl2, fSl2, gCatL, gCatT, els2, fPure, frzE, List.map_cons, List.map_nil, fCallP, fCallKP, fMethP, W.clean, W.cleans, D.tdat, D.tdats, size_ok, size_ok1, List.getElem?_cons_zero, List.getElem?_cons_succ, List.getElem?_nil, List.set_cons_zero, List.set_cons_succ, List.length_cons, List.length_nil, List.replicate_succ, List.replicate_zero, List.cons_append, List.nil_append, List.append_nil, tdats_sD, cleans_sW, Tr.tdat]
    simp [sW]
  | n + 1, .node l r, bs, kd, h, hb, hk => by
    simp only [Tr.dep] at h
    simp only [Tr.leaves, List.length_append] at hb hk
    have g1 := l.grow_len bs.length kd
    have e1 := grown_ok (n := n) l bs kd (by omega) (by omega) (by omega)
    have e2 := grown_ok (n := n) r (bs ++ l.leaves) (l.grow bs.length kd) (by omega) (by simp; omega) (by omega)
    have g2 := r.grow_len (bs.length + l.leaves.length) (l.grow bs.length kd)
    rw [List.length_append] at e2
    have h2 : (r.grow (bs.length + l.leaves.length) (l.grow bs.length kd)).1.length < sizeLine := size_lt (by omega)
    simp [m_Tree_grown, b_Tree_grown, Tr.D, Tr.leaves, Tr.grow, oIsi, D.tyn, isi8, fFld, fMeth, fCk, R.cls, sDPutP, ixN, atI, e1, e2, nodeD, nodeK, D.tkey, D.keys, D.key, h2, fnP, sSeq, sIf, sAsg, sExpr, sRet, sRetN, sNil, sFor, sPar, sAug, sBk, sCt, gN, gsNil, gsCons, gTupT, gSetI, fC, fVar_eq, vW_sh, vW_lst, vW_ins, vW_dT, evs, fN, fU, gS, gS1, rds, rfz, rtk, R_d_val, R_d_pl, R.fz, R.tk, R_st_val, R_st_pl, R_st_plc, R.out, W.d, W.ds, En.get, En.put, W.get, W.put, oII, tt2, okMul, okDiv, okMod, okPow, oAddI, oSub, oMul, oDiv, oMod, oPow, oLtI, oLeI, oGtI, oGeI, oMax2, oMin2, oNeg, oAddS, oLtS, fAdd, fSub, fMul, fDiv, fMod, fPow, fNeg, fIx, gOr, gAdd, gAddI, fTb, fTr, truthD, fNotT, fAndT, fOrT, fNotV, fAndV, fOrV, fIf, fTup, fLst, gTupD, gLstD, fInt, oInt, fAbs, oAbs, fLen, oLen, fCall, argsOf, putB, outs, gIx, oIxD, gLt, tYesE, fIsi, oNotV, okV, wipeE, restE, W.isSh, W.owned, fMutN, mApp, R.els, D.its, iRange1, iRange2, iSeq, iEnumA, D.walk, fTuple, gTuple, fList, gList, fSorted, gSort, fMutP, qV, qC, slOf, gSl0, gSlLo, gSlHi, gSl2, fSl2, gCatL, gCatT, els2, fPure, frzE, List.map_cons, List.map_nil, fCallP, fCallKP, fMethP, W.clean, W.cleans, D.tdat, D.tdats, size_ok, size_ok1, List.getElem?_cons_zero, List.getElem?_cons_succ, List.getElem?_nil, List.set_cons_zero, List.set_cons_succ, List.length_cons, List.length_nil, List.replicate_succ, List.replicate_zero, List.cons_append, List.nil_append, List.append_nil, tdats_sD, cleans_sW, Tr.tdat]
    omega
/-- the nodes from the left, each behind its sides -/
def Tr.prs : Tr → Nat → List (Nat × Nat)
  | .leaf _, s => [(s, s + 1)]
  | .node l r, s => l.prs s ++ (r.prs (s + l.leaves.length) ++ [(s, s + l.leaves.length + r.leaves.length)])
def pK (p : Nat × Nat) : List Key := nodeK p.1 p.2
/-- their sides -/
def Tr.vals : Tr → Nat → List Pu.D
  | .leaf _, _ => [.tup []]
  | .node l r, s => l.vals s ++ (r.vals (s + l.leaves.length) ++ [.tup [pD (s, s + l.leaves.length), pD (s + l.leaves.length, s + l.leaves.length + r.leaves.length)]])
theorem Tr.prs_len : ∀ (t : Tr) (s : Nat), (t.prs s).length + 1 = 2 * t.leaves.length
  | .leaf _, s => rfl
  | .node l r, s => by
    have h1 := l.prs_len s
    have h2 := r.prs_len (s + l.leaves.length)
    simp only [Tr.prs, Tr.leaves, List.length_append, List.length_cons, List.length_nil]
    omega
theorem Tr.prs_mem : ∀ (t : Tr) (s : Nat) (p : Nat × Nat), p ∈ t.prs s → s ≤ p.1 ∧ p.1 < p.2 ∧ p.2 ≤ s + t.leaves.length
  | .leaf _, s, p, h => by
    simp only [Tr.prs, List.mem_singleton] at h
    subst h
    simp [Tr.leaves]
  | .node l r, s, p, h => by
    simp only [Tr.prs, List.mem_append, List.mem_singleton] at h
    have hl := l.pos
    have hr := r.pos
    simp only [Tr.leaves, List.length_append]
    rcases h with h | h | h
    · have := l.prs_mem s p h
      omega
    · have := r.prs_mem _ p h
      omega
    · subst h
      simp only
      omega
theorem nodeK_inj {a b c d : Nat} (h : nodeK a b = nodeK c d) : a = c ∧ b = d := by
  simp only [nodeK, List.cons.injEq, Sum.inl.injEq, Int.ofNat_inj, and_true] at h
  exact h
theorem Tr.grow_eq : ∀ (t : Tr) (s : Nat) (ks : List (List Key)) (ds : List Pu.D), (∀ k ∈ ks, ∃ a b : Nat, k = nodeK a b ∧ b ≤ s) → t.grow s (ks, ds) = (ks ++ (t.prs s).map pK, ds ++ t.vals s)
  | .leaf _, s, ks, ds, h => by
    have hn : nodeK s (s + 1) ∉ ks := fun z => by
      obtain ⟨a, b, e, hb⟩ := h _ z
      obtain ⟨_, rfl⟩ := nodeK_inj e
      omega
    simp only [Tr.grow, putKs, putDs, hn, if_false, Tr.prs, Tr.vals, List.map_cons, List.map_nil, pK]
  | .node l r, s, ks, ds, h => by
    have hl := l.pos
    have hr := r.pos
    have e1 := l.grow_eq s ks ds h
    have h2 : ∀ k ∈ ks ++ (l.prs s).map pK, ∃ a b : Nat, k = nodeK a b ∧ b ≤ s + l.leaves.length := fun k hk => by
      rcases List.mem_append.mp hk with z | z
      · obtain ⟨a, b, e, hb⟩ := h _ z
        exact ⟨a, b, e, by omega⟩
      · obtain ⟨p, hp, rfl⟩ := List.mem_map.mp z
        exact ⟨p.1, p.2, rfl, (l.prs_mem s p hp).2.2⟩
    have e2 := r.grow_eq (s + l.leaves.length) _ (ds ++ l.vals s) h2
    have hn : nodeK s (s + l.leaves.length + r.leaves.length) ∉ ks ++ (l.prs s).map pK ++ (r.prs (s + l.leaves.length)).map pK := fun z => by
      rcases List.mem_append.mp z with z | z
      · obtain ⟨a, b, e, hb⟩ := h2 _ z
        obtain ⟨_, rfl⟩ := nodeK_inj e
        omega
      · obtain ⟨p, hp, e⟩ := List.mem_map.mp z
        obtain ⟨e', _⟩ := nodeK_inj e
        have := (r.prs_mem _ p hp).1
        omega
    simp only [Tr.grow]
    rw [e1, e2]
    unfold putKs putDs
    rw [if_neg hn, if_neg hn]
    simp only [Tr.prs, Tr.vals, List.map_append, List.map_cons, List.map_nil, pK, List.append_assoc, nodeD, pD]
def Tr.obj (t : Tr) : Pu.D := .ins "Tree" [.lst (sD t.leaves), pD (0, t.leaves.length), .dT ((t.prs 0).map pK) (t.vals 0)]
def Tr.objW (t : Tr) : W := .ins "Tree" [.lst (sW t.leaves), .sh (pD (0, t.leaves.length)), .dT ((t.prs 0).map pK) (t.vals 0)]
theorem Tr.objW_d (t : Tr) : t.objW.d = t.obj := by simp only [Tr.objW, Tr.obj, W.d, W.ds, sW_ds]
theorem Tr.cls (t : Tr) (en : En) : R.cls en (.val t.objW) = some "Tree" := rfl
theorem Tr.clsD (t : Tr) (en : En) : R.cls en (.val (.sh t.obj)) = some "Tree" := rfl
theorem treeT {t : Tr} (h : t.leaves.length ≤ 30) (hok : ∀ x ∈ t.leaves, PyData.strOk x = true) : okT 40 t.D := t.okT hok (by have := t.dep_lt; omega)
/-- g is the tree t, with lists for some of its tuples -/
structure TrG (g : D) (t : Tr) : Prop where
  ok : okD 40 g
  eq : toT 40 g = t.D
  len : t.leaves.length ≤ 30
  str : ∀ x ∈ t.leaves, PyData.strOk x = true
theorem TrG.self {t : Tr} (h : t.leaves.length ≤ 30) (hok : ∀ x ∈ t.leaves, PyData.strOk x = true) : TrG t.D t := ⟨okT_D (treeT h hok), toT_id (treeT h hok), h, hok⟩
theorem TrG.soft {t : Tr} (h : t.leaves.length ≤ 30) (hok : ∀ x ∈ t.leaves, PyData.strOk x = true) : TrG (toL 40 t.D) t := ⟨okD_toL (okT_D (treeT h hok)), toT_toL (treeT h hok), h, hok⟩
theorem TrG.ne {g : D} {t : Tr} (h : TrG g t) : g ≠ .any := okD_ne h.ok
theorem init_ok {g : D} {t : Tr} (h : TrG g t) :
    m_Tree_init [.ins "Tree" [], .sh g] = some (.sh .non, [t.objW, .sh g]) := by
  have td := h.ne
  have tu := tupled_ok h.ok
  rw [h.eq] at tu
  have hl := h.len
  have g := grown_ok (n := 40) t [] ([], []) (by have := t.dep_lt; omega) (by simp; omega) (by simp; omega)
  rw [sW_nil] at g
  simp only [List.length_nil, Nat.zero_add, List.nil_append] at g
  rw [t.grow_eq 0 [] [] (fun k hk => by cases hk)] at g
  simp only [List.nil_append] at g
  simp [m_Tree_init, b_Tree_init, Tr.objW, pD, nodeD, sFld, putW, fNewT, fMeth, fCk, R.cls, td, tu, g, fnP, sSeq, sIf, sAsg, sExpr, sRet, sRetN, sNil, sFor, sPar, sAug, sBk, sCt, gN, gsNil, gsCons, gTupT, gSetI, fC, fVar_eq, vW_sh, vW_lst, vW_ins, vW_dT, evs, fN, fU, gS, gS1, rds, rfz, rtk, R_d_val, R_d_pl, R.fz, R.tk, R_st_val, R_st_pl, R_st_plc, R.out, W.d, W.ds, En.get, En.put, W.get, W.put, oII, tt2, okMul, okDiv, okMod, okPow, oAddI, oSub, oMul, oDiv, oMod, oPow, oLtI, oLeI, oGtI, oGeI, oMax2, oMin2, oNeg, oAddS, oLtS, fAdd, fSub, fMul, fDiv, fMod, fPow, fNeg, fIx, gOr, gAdd, gAddI, fTb, fTr, truthD, fNotT, fAndT, fOrT, fNotV, fAndV, fOrV, fIf, fTup, fLst, gTupD, gLstD, fInt, oInt, fAbs, oAbs, fLen, oLen, fCall, argsOf, putB, outs, gIx, oIxD, gLt, tYesE, fIsi, oNotV, okV, wipeE, restE, W.isSh, W.owned, fMutN, mApp, R.els, D.its, iRange1, iRange2, iSeq, iEnumA, D.walk, fTuple, gTuple, fList, gList, fSorted, gSort, fMutP, qV, qC, slOf, gSl0, gSlLo, gSlHi, gSl2, fSl2, gCatL, gCatT, els2, fPure, frzE, List.map_cons, List.map_nil, fCallP, fCallKP, fMethP, W.clean, W.cleans, D.tdat, D.tdats, size_ok, size_ok1, List.getElem?_cons_zero, List.getElem?_cons_succ, List.getElem?_nil, List.set_cons_zero, List.set_cons_succ, List.length_cons, List.length_nil, List.replicate_succ, List.replicate_zero, List.cons_append, List.nil_append, List.append_nil, tdats_sD, cleans_sW, Tr.tdat]
theorem make_ok {g : D} {t : Tr} (h : TrG g t) {f : FE} {en en1 : En} (e : f en = some (en1, .val (.sh g))) : fMake "Tree" m_Tree_init [f] en = some (en1, .val t.objW) := by
  have i := init_ok h
  have td := h.ne
  simp [fMake, e, i, td, fnP, sSeq, sIf, sAsg, sExpr, sRet, sRetN, sNil, sFor, sPar, sAug, sBk, sCt, gN, gsNil, gsCons, gTupT, gSetI, fC, fVar_eq, vW_sh, vW_lst, vW_ins, vW_dT, evs, fN, fU, gS, gS1, rds, rfz, rtk, R_d_val, R_d_pl, R.fz, R.tk, R_st_val, R_st_pl, R_st_plc, R.out, W.d, W.ds, En.get, En.put, W.get, W.put, oII, tt2, okMul, okDiv, okMod, okPow, oAddI, oSub, oMul, oDiv, oMod, oPow, oLtI, oLeI, oGtI, oGeI, oMax2, oMin2, oNeg, oAddS, oLtS, fAdd, fSub, fMul, fDiv, fMod, fPow, fNeg, fIx, gOr, gAdd, gAddI, fTb, fTr, truthD, fNotT, fAndT, fOrT, fNotV, fAndV, fOrV, fIf, fTup, fLst, gTupD, gLstD, fInt, oInt, fAbs, oAbs, fLen, oLen, fCall, argsOf, putB, outs, gIx, oIxD, gLt, tYesE, fIsi, oNotV, okV, wipeE, restE, W.isSh, W.owned, fMutN, mApp, R.els, D.its, iRange1, iRange2, iSeq, iEnumA, D.walk, fTuple, gTuple, fList, gList, fSorted, gSort, fMutP, qV, qC, slOf, gSl0, gSlLo, gSlHi, gSl2, fSl2, gCatL, gCatT, els2, fPure, frzE, List.map_cons, List.map_nil, fCallP, fCallKP, fMethP, W.clean, W.cleans, D.tdat, D.tdats, size_ok, size_ok1, List.getElem?_cons_zero, List.getElem?_cons_succ, List.getElem?_nil, List.set_cons_zero, List.set_cons_succ, List.length_cons, List.length_nil, List.replicate_succ, List.replicate_zero, List.cons_append, List.nil_append, List.append_nil, tdats_sD, cleans_sW, Tr.tdat]
theorem map_tkeyD (ps : List (Nat × Nat)) : (ps.map pK).map tkeyD = ps.map pD := by
  rw [List.map_map]
  rfl
def Tr.knots (t : Tr) : List (Nat × Nat) := srt leP (t.prs 0)
def pW (ps : List (Nat × Nat)) : List W := (ps.map pD).map W.sh
theorem pW_mk (ps : List (Nat × Nat)) : (ps.map pD).map W.sh = pW ps := rfl
theorem Tr.knots_len (t : Tr) : t.knots.length + 1 = 2 * t.leaves.length := by
  unfold Tr.knots
  rw [(srt_perm leP _).length_eq]
  exact t.prs_len 0
theorem pW_ds (ps : List (Nat × Nat)) : W.ds (pW ps) = ps.map pD := dsh_ds _
theorem cleans_pW (ps : List (Nat × Nat)) : W.cleans (pW ps) = true := cleans_all fun w hw => by
  obtain ⟨x, hx, rfl⟩ := List.mem_map.mp hw
  obtain ⟨y, hy, rfl⟩ := List.mem_map.mp hx
  rfl
theorem pW_app (a b : List (Nat × Nat)) : pW (a ++ b) = pW a ++ pW b := by simp [pW]
theorem pW_one (p : Nat × Nat) : pW [p] = [.sh (pD p)] := rfl
theorem pW_len (a : List (Nat × Nat)) : (pW a).length = a.length := by simp [pW]
theorem shs_pW (ps : List (Nat × Nat)) : shs (pW ps) = pW ps := shs_sh _
theorem cells_loop : ∀ (xs : List Int) (n : Nat) (cs : List Int) (w0 x3 x4 x5 : W), n + xs.length ≤ 1000 → cs.length = 3 →
    ∃ cs' y3 y4 y5, forD (gTupT 2 (gsCons (gN 3) (gsCons (gN 4) gsNil))) l_law_cells_1 (enumD n (xs.map D.int)) [w0, .sh (.int 3), .lst (iW cs), x3, x4, x5] = some ([w0, .sh (.int 3), .lst (iW cs'), y3, y4, y5], .nx) ∧ cs'.length = 3
  | [], n, cs, w0, x3, x4, x5, _, h => ⟨cs, x3, x4, x5, by simp [forD, enumD], h⟩
  | x :: xs, n, cs, w0, x3, x4, x5, hn, h => by
    simp only [List.length_cons] at hn
    have k0 : 0 ≤ (n : Int) % 3 := by omega
    have k1 : (n : Int) % 3 < ((iW cs).length : Nat) := by rw [iW_len, h]; omega
    have ix := ixN_in k0 k1
    have hk : ((n : Int) % 3).toNat < cs.length := by omega
    obtain ⟨cs', y3, y4, y5, e, hl⟩ := cells_loop xs (n + 1) (cs.set ((n : Int) % 3).toNat (cs[((n : Int) % 3).toNat] + x * ((n : Int) + 2))) w0 (.sh (.int n)) (.sh (.int x)) (.sh (.int ((n : Int) % 3))) (by omega) (by simpa using h)
    refine ⟨cs', y3, y4, y5, ?_, hl⟩
    have m1 : -18446744073709551616 < (n : Int) + 2 := by omega
    have m2 : (n : Int) + 2 < 18446744073709551616 := by omega
    rw [← e]
    simp [forD, enumD, l_law_cells_1, ix, iW_get _ _ hk, iW_set, m1, m2, fnP, sSeq, sIf, sAsg, sExpr, sRet, sRetN, sNil, sFor, sPar, sAug, sBk, sCt, gN, gsNil, gsCons, gTupT, gSetI, fC, fVar_eq, vW_sh, vW_lst, vW_ins, vW_dT, evs, fN, fU, gS, gS1, rds, rfz, rtk, R_d_val, R_d_pl, R.fz, R.tk, R_st_val, R_st_pl, R_st_plc, R.out, W.d, W.ds, En.get, En.put, W.get, W.put, oII, tt2, okMul, okDiv, okMod, okPow, oAddI, oSub, oMul, oDiv, oMod, oPow, oLtI, oLeI, oGtI, oGeI, oMax2, oMin2, oNeg, oAddS, oLtS, fAdd, fSub, fMul, fDiv, fMod, fPow, fNeg, fIx, gOr, gAdd, gAddI, fTb, fTr, truthD, fNotT, fAndT, fOrT, fNotV, fAndV, fOrV, fIf, fTup, fLst, gTupD, gLstD, fInt, oInt, fAbs, oAbs, fLen, oLen, fCall, argsOf, putB, outs, gIx, oIxD, gLt, tYesE, fIsi, oNotV, okV, wipeE, restE, W.isSh, W.owned, fMutN, mApp, R.els, D.its, iRange1, iRange2, iSeq, iEnumA, D.walk, fTuple, gTuple, fList, gList, fSorted, gSort, fMutP, qV, qC, slOf, gSl0, gSlLo, gSlHi, gSl2, fSl2, gCatL, gCatT, els2, fPure, frzE, List.map_cons, List.map_nil, fCallP, fCallKP, fMethP, W.clean, W.cleans, D.tdat, D.tdats, size_ok, size_ok1, List.getElem?_cons_zero, List.getElem?_cons_succ, List.getElem?_nil, List.set_cons_zero, List.set_cons_succ, List.length_cons, List.length_nil, List.replicate_succ, List.replicate_zero, List.cons_append, List.nil_append, List.append_nil, tdats_sD, cleans_sW, Tr.tdat]
theorem cleans_iW (cs : List Int) : W.cleans (iW cs) = true := cleans_all fun w hw => by
  obtain ⟨x, _, rfl⟩ := List.mem_map.mp hw
  rfl
theorem cells_ok (ns : List Int) (h : ns.length ≤ 63) : ∃ cs, m_law_cells [.sh (.frl (ns.map D.int)), .sh (.int 3)] = some (.lst (iW cs), [.sh (.frl (ns.map D.int)), .sh (.int 3)]) ∧ 0 < cs.length ∧ cs.length ≤ 3 := by
  have c1 : cutG (ns.map D.int) none (some 3) = (ns.take 3).map D.int := by rw [cut_hi _ (by omega)]; simp
  have c2 : cutG (ns.map D.int) (some 3) (some 63) = ((ns.drop 3).take (63 - 3)).map D.int := by have z := cut_2 (ns.map D.int) 3 (by simpa using h) (by omega); rw [show ((3 : Nat) : Int) = (3 : Int) from rfl] at z; rw [z]; simp
  by_cases h0 : ns = []
  · subst h0
    refine ⟨[0], fnP_ret (en' := [.sh (.frl []), .sh (.int 3), .sh .any, .sh .any, .sh .any, .sh .any]) rfl (sSeq_nx (en1 := [.sh (.frl []), .sh (.int 3), .lst (iW [0]), .sh .any, .sh .any, .sh .any]) ?_ (sSeq_nx (en1 := [.sh (.frl []), .sh (.int 3), .lst (iW [0]), .sh .any, .sh .any, .sh .any]) (sFor_eq (en1 := [.sh (.frl []), .sh (.int 3), .lst (iW [0]), .sh .any, .sh .any, .sh .any]) (ds := []) ?_ rfl) ?_)), by simp, by simp⟩
    · simp only [List.map_nil] at c1
      simp [c1, iW, fnP, sSeq, sIf, sAsg, sExpr, sRet, sRetN, sNil, sFor, sPar, sAug, sBk, sCt, gN, gsNil, gsCons, gTupT, gSetI, fC, fVar_eq, vW_sh, vW_lst, vW_ins, vW_dT, evs, fN, fU, gS, gS1, rds, rfz, rtk, R_d_val, R_d_pl, R.fz, R.tk, R_st_val, R_st_pl, R_st_plc, R.out, W.d, W.ds, En.get, En.put, W.get, W.put, oII, tt2, okMul, okDiv, okMod, okPow, oAddI, oSub, oMul, oDiv, oMod, oPow, oLtI, oLeI, oGtI, oGeI, oMax2, oMin2, oNeg, oAddS, oLtS, fAdd, fSub, fMul, fDiv, fMod, fPow, fNeg, fIx, gOr, gAdd, gAddI, fTb, fTr, truthD, fNotT, fAndT, fOrT, fNotV, fAndV, fOrV, fIf, fTup, fLst, gTupD, gLstD, fInt, oInt, fAbs, oAbs, fLen, oLen, fCall, argsOf, putB, outs, gIx, oIxD, gLt, tYesE, fIsi, oNotV, okV, wipeE, restE, W.isSh, W.owned, fMutN, mApp, R.els, D.its, iRange1, iRange2, iSeq, iEnumA, D.walk, fTuple, gTuple, fList, gList, fSorted, gSort, fMutP, qV, qC, slOf, gSl0, gSlLo, gSlHi, gSl2, fSl2, gCatL, gCatT, els2, fPure, frzE, List.map_cons, List.map_nil, fCallP, fCallKP, fMethP, W.clean, W.cleans, D.tdat, D.tdats, size_ok, size_ok1, List.getElem?_cons_zero, List.getElem?_cons_succ, List.getElem?_nil, List.set_cons_zero, List.set_cons_succ, List.length_cons, List.length_nil, List.replicate_succ, List.replicate_zero, List.cons_append, List.nil_append, List.append_nil, tdats_sD, cleans_sW, Tr.tdat]
    · simp only [List.map_nil, List.drop_nil, List.take_nil] at c2
      simp [iEnumA, c2, D.litems, enumD, fnP, sSeq, sIf, sAsg, sExpr, sRet, sRetN, sNil, sFor, sPar, sAug, sBk, sCt, gN, gsNil, gsCons, gTupT, gSetI, fC, fVar_eq, vW_sh, vW_lst, vW_ins, vW_dT, evs, fN, fU, gS, gS1, rds, rfz, rtk, R_d_val, R_d_pl, R.fz, R.tk, R_st_val, R_st_pl, R_st_plc, R.out, W.d, W.ds, En.get, En.put, W.get, W.put, oII, tt2, okMul, okDiv, okMod, okPow, oAddI, oSub, oMul, oDiv, oMod, oPow, oLtI, oLeI, oGtI, oGeI, oMax2, oMin2, oNeg, oAddS, oLtS, fAdd, fSub, fMul, fDiv, fMod, fPow, fNeg, fIx, gOr, gAdd, gAddI, fTb, fTr, truthD, fNotT, fAndT, fOrT, fNotV, fAndV, fOrV, fIf, fTup, fLst, gTupD, gLstD, fInt, oInt, fAbs, oAbs, fLen, oLen, fCall, argsOf, putB, outs, gIx, oIxD, gLt, tYesE, fIsi, oNotV, okV, wipeE, restE, W.isSh, W.owned, fMutN, mApp, R.els, D.its, iRange1, iRange2, iSeq, iEnumA, D.walk, fTuple, gTuple, fList, gList, fSorted, gSort, fMutP, qV, qC, slOf, gSl0, gSlLo, gSlHi, gSl2, fSl2, gCatL, gCatT, els2, fPure, frzE, List.map_cons, List.map_nil, fCallP, fCallKP, fMethP, W.clean, W.cleans, D.tdat, D.tdats, size_ok, size_ok1, List.getElem?_cons_zero, List.getElem?_cons_succ, List.getElem?_nil, List.set_cons_zero, List.set_cons_succ, List.length_cons, List.length_nil, List.replicate_succ, List.replicate_zero, List.cons_append, List.nil_append, List.append_nil, tdats_sD, cleans_sW, Tr.tdat]
    · simp [fnP, sSeq, sIf, sAsg, sExpr, sRet, sRetN, sNil, sFor, sPar, sAug, sBk, sCt, gN, gsNil, gsCons, gTupT, gSetI, fC, fVar_eq, vW_sh, vW_lst, vW_ins, vW_dT, evs, fN, fU, gS, gS1, rds, rfz, rtk, R_d_val, R_d_pl, R.fz, R.tk, R_st_val, R_st_pl, R_st_plc, R.out, W.d, W.ds, En.get, En.put, W.get, W.put, oII, tt2, okMul, okDiv, okMod, okPow, oAddI, oSub, oMul, oDiv, oMod, oPow, oLtI, oLeI, oGtI, oGeI, oMax2, oMin2, oNeg, oAddS, oLtS, fAdd, fSub, fMul, fDiv, fMod, fPow, fNeg, fIx, gOr, gAdd, gAddI, fTb, fTr, truthD, fNotT, fAndT, fOrT, fNotV, fAndV, fOrV, fIf, fTup, fLst, gTupD, gLstD, fInt, oInt, fAbs, oAbs, fLen, oLen, fCall, argsOf, putB, outs, gIx, oIxD, gLt, tYesE, fIsi, oNotV, okV, wipeE, restE, W.isSh, W.owned, fMutN, mApp, R.els, D.its, iRange1, iRange2, iSeq, iEnumA, D.walk, fTuple, gTuple, fList, gList, fSorted, gSort, fMutP, qV, qC, slOf, gSl0, gSlLo, gSlHi, gSl2, fSl2, gCatL, gCatT, els2, fPure, frzE, List.map_cons, List.map_nil, fCallP, fCallKP, fMethP, W.clean, W.cleans, D.tdat, D.tdats, size_ok, size_ok1, List.getElem?_cons_zero, List.getElem?_cons_succ, List.getElem?_nil, List.set_cons_zero, List.set_cons_succ, List.length_cons, List.length_nil, List.replicate_succ, List.replicate_zero, List.cons_append, List.nil_append, List.append_nil, tdats_sD, cleans_sW, Tr.tdat]
  · have hp : 0 < ns.length := List.length_pos_iff.mpr h0
    have ht : ns.take 3 ≠ [] := by
      cases ns with
      | nil => exact absurd rfl h0
      | cons a as => simp
    have lt : (ns.take 3).length = min 3 ns.length := List.length_take
    have first : sAsg (fOrV (fList (fN gSlHi [(fVar 0), (fVar 1)])) (fLst [(fC (.int 0))])) (gN 2) [.sh (.frl (ns.map D.int)), .sh (.int 3), .sh .any, .sh .any, .sh .any, .sh .any] = some ([.sh (.frl (ns.map D.int)), .sh (.int 3), .lst (iW (ns.take 3)), .sh .any, .sh .any, .sh .any], .nx) := by
      simp [c1, ht, dsh_ds, h0, -List.map_take, -List.map_map, fnP, sSeq, sIf, sAsg, sExpr, sRet, sRetN, sNil, sFor, sPar, sAug, sBk, sCt, gN, gsNil, gsCons, gTupT, gSetI, fC, fVar_eq, vW_sh, vW_lst, vW_ins, vW_dT, evs, fN, fU, gS, gS1, rds, rfz, rtk, R_d_val, R_d_pl, R.fz, R.tk, R_st_val, R_st_pl, R_st_plc, R.out, W.d, W.ds, En.get, En.put, W.get, W.put, oII, tt2, okMul, okDiv, okMod, okPow, oAddI, oSub, oMul, oDiv, oMod, oPow, oLtI, oLeI, oGtI, oGeI, oMax2, oMin2, oNeg, oAddS, oLtS, fAdd, fSub, fMul, fDiv, fMod, fPow, fNeg, fIx, gOr, gAdd, gAddI, fTb, fTr, truthD, fNotT, fAndT, fOrT, fNotV, fAndV, fOrV, fIf, fTup, fLst, gTupD, gLstD, fInt, oInt, fAbs, oAbs, fLen, oLen, fCall, argsOf, putB, outs, gIx, oIxD, gLt, tYesE, fIsi, oNotV, okV, wipeE, restE, W.isSh, W.owned, fMutN, mApp, R.els, D.its, iRange1, iRange2, iSeq, iEnumA, D.walk, fTuple, gTuple, fList, gList, fSorted, gSort, fMutP, qV, qC, slOf, gSl0, gSlLo, gSlHi, gSl2, fSl2, gCatL, gCatT, els2, fPure, frzE, List.map_cons, List.map_nil, fCallP, fCallKP, fMethP, W.clean, W.cleans, D.tdat, D.tdats, size_ok, size_ok1, List.getElem?_cons_zero, List.getElem?_cons_succ, List.getElem?_nil, List.set_cons_zero, List.set_cons_succ, List.length_cons, List.length_nil, List.replicate_succ, List.replicate_zero, List.cons_append, List.nil_append, List.append_nil, tdats_sD, cleans_sW, Tr.tdat]
      simp [iW]
      rfl
    have second : ∃ cs y3 y4 y5, forD (gTupT 2 (gsCons (gN 3) (gsCons (gN 4) gsNil))) l_law_cells_1 (enumD 0 (((ns.drop 3).take (63 - 3)).map D.int)) [.sh (.frl (ns.map D.int)), .sh (.int 3), .lst (iW (ns.take 3)), .sh .any, .sh .any, .sh .any] = some ([.sh (.frl (ns.map D.int)), .sh (.int 3), .lst (iW cs), y3, y4, y5], .nx) ∧ 0 < cs.length ∧ cs.length ≤ 3 := by
      by_cases h3 : ns.length ≤ 3
      · have z : ns.drop 3 = [] := List.drop_eq_nil_of_le h3
        refine ⟨ns.take 3, .sh .any, .sh .any, .sh .any, ?_, by omega, by omega⟩
        rw [z]
        rfl
      · obtain ⟨cs, y3, y4, y5, e, hl⟩ := cells_loop ((ns.drop 3).take (63 - 3)) 0 (ns.take 3) (.sh (.frl (ns.map D.int))) (.sh .any) (.sh .any) (.sh .any) (by rw [List.length_take]; omega) (by omega)
        exact ⟨cs, y3, y4, y5, e, by omega, by omega⟩
    obtain ⟨cs, y3, y4, y5, e, l0, l3⟩ := second
    refine ⟨cs, fnP_ret (en' := [.sh (.frl (ns.map D.int)), .sh (.int 3), .sh .any, y3, y4, y5]) rfl (sSeq_nx (en1 := [.sh (.frl (ns.map D.int)), .sh (.int 3), .lst (iW (ns.take 3)), .sh .any, .sh .any, .sh .any]) first (sSeq_nx (en1 := [.sh (.frl (ns.map D.int)), .sh (.int 3), .lst (iW cs), y3, y4, y5]) (sFor_eq (en1 := [.sh (.frl (ns.map D.int)), .sh (.int 3), .lst (iW (ns.take 3)), .sh .any, .sh .any, .sh .any]) (ds := enumD 0 (((ns.drop 3).take (63 - 3)).map D.int)) ?_ e) ?_)), l0, l3⟩
    · simp [iEnumA, c2, D.litems, -List.map_take, -List.map_drop, dsh_ds, fnP, sSeq, sIf, sAsg, sExpr, sRet, sRetN, sNil, sFor, sPar, sAug, sBk, sCt, gN, gsNil, gsCons, gTupT, gSetI, fC, fVar_eq, vW_sh, vW_lst, vW_ins, vW_dT, evs, fN, fU, gS, gS1, rds, rfz, rtk, R_d_val, R_d_pl, R.fz, R.tk, R_st_val, R_st_pl, R_st_plc, R.out, W.d, W.ds, En.get, En.put, W.get, W.put, oII, tt2, okMul, okDiv, okMod, okPow, oAddI, oSub, oMul, oDiv, oMod, oPow, oLtI, oLeI, oGtI, oGeI, oMax2, oMin2, oNeg, oAddS, oLtS, fAdd, fSub, fMul, fDiv, fMod, fPow, fNeg, fIx, gOr, gAdd, gAddI, fTb, fTr, truthD, fNotT, fAndT, fOrT, fNotV, fAndV, fOrV, fIf, fTup, fLst, gTupD, gLstD, fInt, oInt, fAbs, oAbs, fLen, oLen, fCall, argsOf, putB, outs, gIx, oIxD, gLt, tYesE, fIsi, oNotV, okV, wipeE, restE, W.isSh, W.owned, fMutN, mApp, R.els, D.its, iRange1, iRange2, iSeq, iEnumA, D.walk, fTuple, gTuple, fList, gList, fSorted, gSort, fMutP, qV, qC, slOf, gSl0, gSlLo, gSlHi, gSl2, fSl2, gCatL, gCatT, els2, fPure, frzE, List.map_cons, List.map_nil, fCallP, fCallKP, fMethP, W.clean, W.cleans, D.tdat, D.tdats, size_ok, size_ok1, List.getElem?_cons_zero, List.getElem?_cons_succ, List.getElem?_nil, List.set_cons_zero, List.set_cons_succ, List.length_cons, List.length_nil, List.replicate_succ, List.replicate_zero, List.cons_append, List.nil_append, List.append_nil, tdats_sD, cleans_sW, Tr.tdat]
      rw [← List.map_map, dsh_ds]
    · simp [fnP, sSeq, sIf, sAsg, sExpr, sRet, sRetN, sNil, sFor, sPar, sAug, sBk, sCt, gN, gsNil, gsCons, gTupT, gSetI, fC, fVar_eq, vW_sh, vW_lst, vW_ins, vW_dT, evs, fN, fU, gS, gS1, rds, rfz, rtk, R_d_val, R_d_pl, R.fz, R.tk, R_st_val, R_st_pl, R_st_plc, R.out, W.d, W.ds, En.get, En.put, W.get, W.put, oII, tt2, okMul, okDiv, okMod, okPow, oAddI, oSub, oMul, oDiv, oMod, oPow, oLtI, oLeI, oGtI, oGeI, oMax2, oMin2, oNeg, oAddS, oLtS, fAdd, fSub, fMul, fDiv, fMod, fPow, fNeg, fIx, gOr, gAdd, gAddI, fTb, fTr, truthD, fNotT, fAndT, fOrT, fNotV, fAndV, fOrV, fIf, fTup, fLst, gTupD, gLstD, fInt, oInt, fAbs, oAbs, fLen, oLen, fCall, argsOf, putB, outs, gIx, oIxD, gLt, tYesE, fIsi, oNotV, okV, wipeE, restE, W.isSh, W.owned, fMutN, mApp, R.els, D.its, iRange1, iRange2, iSeq, iEnumA, D.walk, fTuple, gTuple, fList, gList, fSorted, gSort, fMutP, qV, qC, slOf, gSl0, gSlLo, gSlHi, gSl2, fSl2, gCatL, gCatT, els2, fPure, frzE, List.map_cons, List.map_nil, fCallP, fCallKP, fMethP, W.clean, W.cleans, D.tdat, D.tdats, size_ok, size_ok1, List.getElem?_cons_zero, List.getElem?_cons_succ, List.getElem?_nil, List.set_cons_zero, List.set_cons_succ, List.length_cons, List.length_nil, List.replicate_succ, List.replicate_zero, List.cons_append, List.nil_append, List.append_nil, tdats_sD, cleans_sW, Tr.tdat]
theorem tree_nodes_ok {t : Tr} (h : t.leaves.length ≤ 1000) : m_Tree_nodes [.sh t.obj] = some (.lst (pW t.knots), [.sh t.obj]) := by
  have hl := t.prs_len 0
  have o := oSortX_pairs (ps := t.prs 0) (by omega)
  simp [m_Tree_nodes, b_Tree_nodes, Tr.obj, fFld, fSortX, gSortX, R.dT, map_tkeyD, o, Tr.knots, pW, -List.map_map, fnP, sSeq, sIf, sAsg, sExpr, sRet, sRetN, sNil, sFor, sPar, sAug, sBk, sCt, gN, gsNil, gsCons, gTupT, gSetI, fC, fVar_eq, vW_sh, vW_lst, vW_ins, vW_dT, evs, fN, fU, gS, gS1, rds, rfz, rtk, R_d_val, R_d_pl, R.fz, R.tk, R_st_val, R_st_pl, R_st_plc, R.out, W.d, W.ds, En.get, En.put, W.get, W.put, oII, tt2, okMul, okDiv, okMod, okPow, oAddI, oSub, oMul, oDiv, oMod, oPow, oLtI, oLeI, oGtI, oGeI, oMax2, oMin2, oNeg, oAddS, oLtS, fAdd, fSub, fMul, fDiv, fMod, fPow, fNeg, fIx, gOr, gAdd, gAddI, fTb, fTr, truthD, fNotT, fAndT, fOrT, fNotV, fAndV, fOrV, fIf, fTup, fLst, gTupD, gLstD, fInt, oInt, fAbs, oAbs, fLen, oLen, fCall, argsOf, putB, outs, gIx, oIxD, gLt, tYesE, fIsi, oNotV, okV, wipeE, restE, W.isSh, W.owned, fMutN, mApp, R.els, D.its, iRange1, iRange2, iSeq, iEnumA, D.walk, fTuple, gTuple, fList, gList, fSorted, gSort, fMutP, qV, qC, slOf, gSl0, gSlLo, gSlHi, gSl2, fSl2, gCatL, gCatT, els2, fPure, frzE, List.map_cons, List.map_nil, fCallP, fCallKP, fMethP, W.clean, W.cleans, D.tdat, D.tdats, size_ok, size_ok1, List.getElem?_cons_zero, List.getElem?_cons_succ, List.getElem?_nil, List.set_cons_zero, List.set_cons_succ, List.length_cons, List.length_nil, List.replicate_succ, List.replicate_zero, List.cons_append, List.nil_append, List.append_nil, tdats_sD, cleans_sW, Tr.tdat]
theorem nodes_in_ok {g : D} {t : Tr} (h : TrG g t) : m_nodes_in [.sh g] = some (.lst (pW t.knots), [.sh g]) := by
  have td := h.ne
  have b := tree_nodes_ok (t := t) (by have := h.len; omega)
  have mk := make_ok h (f := fVar 0) (en := [.sh g]) (en1 := [.sh g]) (by simp [td, fnP, sSeq, sIf, sAsg, sExpr, sRet, sRetN, sNil, sFor, sPar, sAug, sBk, sCt, gN, gsNil, gsCons, gTupT, gSetI, fC, fVar_eq, vW_sh, vW_lst, vW_ins, vW_dT, evs, fN, fU, gS, gS1, rds, rfz, rtk, R_d_val, R_d_pl, R.fz, R.tk, R_st_val, R_st_pl, R_st_plc, R.out, W.d, W.ds, En.get, En.put, W.get, W.put, oII, tt2, okMul, okDiv, okMod, okPow, oAddI, oSub, oMul, oDiv, oMod, oPow, oLtI, oLeI, oGtI, oGeI, oMax2, oMin2, oNeg, oAddS, oLtS, fAdd, fSub, fMul, fDiv, fMod, fPow, fNeg, fIx, gOr, gAdd, gAddI, fTb, fTr, truthD, fNotT, fAndT, fOrT, fNotV, fAndV, fOrV, fIf, fTup, fLst, gTupD, gLstD, fInt, oInt, fAbs, oAbs, fLen, oLen, fCall, argsOf, putB, outs, gIx, oIxD, gLt, tYesE, fIsi, oNotV, okV, wipeE, restE, W.isSh, W.owned, fMutN, mApp, R.els, D.its, iRange1, iRange2, iSeq, iEnumA, D.walk, fTuple, gTuple, fList, gList, fSorted, gSort, fMutP, qV, qC, slOf, gSl0, gSlLo, gSlHi, gSl2, fSl2, gCatL, gCatT, els2, fPure, frzE, List.map_cons, List.map_nil, fCallP, fCallKP, fMethP, W.clean, W.cleans, D.tdat, D.tdats, size_ok, size_ok1, List.getElem?_cons_zero, List.getElem?_cons_succ, List.getElem?_nil, List.set_cons_zero, List.set_cons_succ, List.length_cons, List.length_nil, List.replicate_succ, List.replicate_zero, List.cons_append, List.nil_append, List.append_nil, tdats_sD, cleans_sW, Tr.tdat])
  simp [m_nodes_in, b_nodes_in, fCk, Tr.cls, mk, Tr.objW_d, b, cleans_pW, fnP, sSeq, sIf, sAsg, sExpr, sRet, sRetN, sNil, sFor, sPar, sAug, sBk, sCt, gN, gsNil, gsCons, gTupT, gSetI, fC, fVar_eq, vW_sh, vW_lst, vW_ins, vW_dT, evs, fN, fU, gS, gS1, rds, rfz, rtk, R_d_val, R_d_pl, R.fz, R.tk, R_st_val, R_st_pl, R_st_plc, R.out, W.d, W.ds, En.get, En.put, W.get, W.put, oII, tt2, okMul, okDiv, okMod, okPow, oAddI, oSub, oMul, oDiv, oMod, oPow, oLtI, oLeI, oGtI, oGeI, oMax2, oMin2, oNeg, oAddS, oLtS, fAdd, fSub, fMul, fDiv, fMod, fPow, fNeg, fIx, gOr, gAdd, gAddI, fTb, fTr, truthD, fNotT, fAndT, fOrT, fNotV, fAndV, fOrV, fIf, fTup, fLst, gTupD, gLstD, fInt, oInt, fAbs, oAbs, fLen, oLen, fCall, argsOf, putB, outs, gIx, oIxD, gLt, tYesE, fIsi, oNotV, okV, wipeE, restE, W.isSh, W.owned, fMutN, mApp, R.els, D.its, iRange1, iRange2, iSeq, iEnumA, D.walk, fTuple, gTuple, fList, gList, fSorted, gSort, fMutP, qV, qC, slOf, gSl0, gSlLo, gSlHi, gSl2, fSl2, gCatL, gCatT, els2, fPure, frzE, List.map_cons, List.map_nil, fCallP, fCallKP, fMethP, W.clean, W.cleans, D.tdat, D.tdats, size_ok, size_ok1, List.getElem?_cons_zero, List.getElem?_cons_succ, List.getElem?_nil, List.set_cons_zero, List.set_cons_succ, List.length_cons, List.length_nil, List.replicate_succ, List.replicate_zero, List.cons_append, List.nil_append, List.append_nil, tdats_sD, cleans_sW, Tr.tdat]
theorem tale_ok {c top : Nat} {u : W} (h : Urn c u) (hc : c ≤ 900000) (ht : 0 < top) (h16 : top ≤ 16) : ∃ u' t, m_law_tale [u, .sh (.int (top : Int))] = some (.sh (Tr.D t), [u', .sh (.int (top : Int))]) ∧ Urn (c + 40) u' ∧
    t.leaves.length ≤ top ∧ t.leaves.Nodup ∧ ∀ x ∈ t.leaves, x ∈ pool16 := by
  obtain ⟨u1, r, e1, hu1, r0, r1⟩ := take_ok (low := (top : Int)) h (by omega) (by omega) (by omega)
  obtain ⟨m, rfl⟩ : ∃ m : Nat, r = (m : Int) := ⟨r.toNat, by omega⟩
  obtain ⟨u2, xs, e2, hu2, lx, nd, hx⟩ := words_ok (m := 1 + m) hu1 (by omega) (by omega)
  obtain ⟨u3, t, e3, hu3, hv⟩ := shape_ok (n := 40) (row := xs) hu2 (by omega) (by omega) (by omega) (by omega)
  obtain ⟨a, b, tt, rfl, _⟩ := id h
  obtain ⟨a1, b1, t1, rfl, _⟩ := id hu1
  obtain ⟨a2, b2, t2, rfl, _⟩ := id hu2
  refine ⟨u3, t, ?_, hu3.mono (by omega), by rw [hv]; omega, by rw [hv]; exact nd, by rw [hv]; exact hx⟩
  obtain ⟨k, hk⟩ : ∃ k : Int, 1 + (m : Int) = k := ⟨_, rfl⟩
  have e2' : m_law_words [W.lst [.sh (.int a1), .sh (.int b1), .sh (.int t1)], .sh (.int k)] = some (.lst (sW xs), [W.lst [.sh (.int a2), .sh (.int b2), .sh (.int t2)], .sh (.int k)]) := by
    have : ((1 + m : Nat) : Int) = k := by omega
    rw [this] at e2
    exact e2
  have td := t.D_ne
  unfold m_law_tale b_law_tale
  generalize m_law_take = f1 at e1 ⊢
  generalize m_law_words = f2 at e2' ⊢
  generalize m_law_shape 40 = f3 at e3 ⊢
  have s1 : fCall f1 [fVar 0, fVar 1] [W.lst [.sh (.int a), .sh (.int b), .sh (.int tt)], .sh (.int (top : Int))] = some ([W.lst [.sh (.int a1), .sh (.int b1), .sh (.int t1)], .sh (.int (top : Int))], .val (.sh (.int (m : Int)))) := by
    simp [e1, fnP, sSeq, sIf, sAsg, sExpr, sRet, sRetN, sNil, sFor, sPar, sAug, sBk, sCt, gN, gsNil, gsCons, gTupT, gSetI, fC, fVar_eq, vW_sh, vW_lst, vW_ins, vW_dT, evs, fN, fU, gS, gS1, rds, rfz, rtk, R_d_val, R_d_pl, R.fz, R.tk, R_st_val, R_st_pl, R_st_plc, R.out, W.d, W.ds, En.get, En.put, W.get, W.put, oII, tt2, okMul, okDiv, okMod, okPow, oAddI, oSub, oMul, oDiv, oMod, oPow, oLtI, oLeI, oGtI, oGeI, oMax2, oMin2, oNeg, oAddS, oLtS, fAdd, fSub, fMul, fDiv, fMod, fPow, fNeg, fIx, gOr, gAdd, gAddI, fTb, fTr, truthD, fNotT, fAndT, fOrT, fNotV, fAndV, fOrV, fIf, fTup, fLst, gTupD, gLstD, fInt, oInt, fAbs, oAbs, fLen, oLen, fCall, argsOf, putB, outs, gIx, oIxD, gLt, tYesE, fIsi, oNotV, okV, wipeE, restE, W.isSh, W.owned, fMutN, mApp, R.els, D.its, iRange1, iRange2, iSeq, iEnumA, D.walk, fTuple, gTuple, fList, gList, fSorted, gSort, fMutP, qV, qC, slOf, gSl0, gSlLo, gSlHi, gSl2, fSl2, gCatL, gCatT, els2, fPure, frzE, List.map_cons, List.map_nil, fCallP, fCallKP, fMethP, W.clean, W.cleans, D.tdat, D.tdats, size_ok, size_ok1, List.getElem?_cons_zero, List.getElem?_cons_succ, List.getElem?_nil, List.set_cons_zero, List.set_cons_succ, List.length_cons, List.length_nil, List.replicate_succ, List.replicate_zero, List.cons_append, List.nil_append, List.append_nil, tdats_sD, cleans_sW, Tr.tdat]
  generalize fCall f1 [fVar 0, fVar 1] = g1 at s1 ⊢
  have s2 : fCall f2 [fVar 0, fAdd (fC (.int 1)) g1] [W.lst [.sh (.int a), .sh (.int b), .sh (.int tt)], .sh (.int (top : Int))] = some ([W.lst [.sh (.int a2), .sh (.int b2), .sh (.int t2)], .sh (.int (top : Int))], .val (.lst (sW xs))) := by
    simp [s1, hk, e2', fnP, sSeq, sIf, sAsg, sExpr, sRet, sRetN, sNil, sFor, sPar, sAug, sBk, sCt, gN, gsNil, gsCons, gTupT, gSetI, fC, fVar_eq, vW_sh, vW_lst, vW_ins, vW_dT, evs, fN, fU, gS, gS1, rds, rfz, rtk, R_d_val, R_d_pl, R.fz, R.tk, R_st_val, R_st_pl, R_st_plc, R.out, W.d, W.ds, En.get, En.put, W.get, W.put, oII, tt2, okMul, okDiv, okMod, okPow, oAddI, oSub, oMul, oDiv, oMod, oPow, oLtI, oLeI, oGtI, oGeI, oMax2, oMin2, oNeg, oAddS, oLtS, fAdd, fSub, fMul, fDiv, fMod, fPow, fNeg, fIx, gOr, gAdd, gAddI, fTb, fTr, truthD, fNotT, fAndT, fOrT, fNotV, fAndV, fOrV, fIf, fTup, fLst, gTupD, gLstD, fInt, oInt, fAbs, oAbs, fLen, oLen, fCall, argsOf, putB, outs, gIx, oIxD, gLt, tYesE, fIsi, oNotV, okV, wipeE, restE, W.isSh, W.owned, fMutN, mApp, R.els, D.its, iRange1, iRange2, iSeq, iEnumA, D.walk, fTuple, gTuple, fList, gList, fSorted, gSort, fMutP, qV, qC, slOf, gSl0, gSlLo, gSlHi, gSl2, fSl2, gCatL, gCatT, els2, fPure, frzE, List.map_cons, List.map_nil, fCallP, fCallKP, fMethP, W.clean, W.cleans, D.tdat, D.tdats, size_ok, size_ok1, List.getElem?_cons_zero, List.getElem?_cons_succ, List.getElem?_nil, List.set_cons_zero, List.set_cons_succ, List.length_cons, List.length_nil, List.replicate_succ, List.replicate_zero, List.cons_append, List.nil_append, List.append_nil, tdats_sD, cleans_sW, Tr.tdat]
  generalize fCall f2 [fVar 0, fAdd (fC (.int 1)) g1] = g2 at s2 ⊢
  simp [s2, e3, td, fnP, sSeq, sIf, sAsg, sExpr, sRet, sRetN, sNil, sFor, sPar, sAug, sBk, sCt, gN, gsNil, gsCons, gTupT, gSetI, fC, fVar_eq, vW_sh, vW_lst, vW_ins, vW_dT, evs, fN, fU, gS, gS1, rds, rfz, rtk, R_d_val, R_d_pl, R.fz, R.tk, R_st_val, R_st_pl, R_st_plc, R.out, W.d, W.ds, En.get, En.put, W.get, W.put, oII, tt2, okMul, okDiv, okMod, okPow, oAddI, oSub, oMul, oDiv, oMod, oPow, oLtI, oLeI, oGtI, oGeI, oMax2, oMin2, oNeg, oAddS, oLtS, fAdd, fSub, fMul, fDiv, fMod, fPow, fNeg, fIx, gOr, gAdd, gAddI, fTb, fTr, truthD, fNotT, fAndT, fOrT, fNotV, fAndV, fOrV, fIf, fTup, fLst, gTupD, gLstD, fInt, oInt, fAbs, oAbs, fLen, oLen, fCall, argsOf, putB, outs, gIx, oIxD, gLt, tYesE, fIsi, oNotV, okV, wipeE, restE, W.isSh, W.owned, fMutN, mApp, R.els, D.its, iRange1, iRange2, iSeq, iEnumA, D.walk, fTuple, gTuple, fList, gList, fSorted, gSort, fMutP, qV, qC, slOf, gSl0, gSlLo, gSlHi, gSl2, fSl2, gCatL, gCatT, els2, fPure, frzE, List.map_cons, List.map_nil, fCallP, fCallKP, fMethP, W.clean, W.cleans, D.tdat, D.tdats, size_ok, size_ok1, List.getElem?_cons_zero, List.getElem?_cons_succ, List.getElem?_nil, List.set_cons_zero, List.set_cons_succ, List.length_cons, List.length_nil, List.replicate_succ, List.replicate_zero, List.cons_append, List.nil_append, List.append_nil, tdats_sD, cleans_sW, Tr.tdat]
/-- what spans holds of each node -/
def Tr.lvals : Tr → Nat → List Pu.D
  | .leaf _, _ => [.lst []]
  | .node l r, s => l.lvals s ++ (r.lvals (s + l.leaves.length) ++ [.lst [pD (s, s + l.leaves.length), pD (s + l.leaves.length, s + l.leaves.length + r.leaves.length)]])
theorem Tr.lvals_len : ∀ (t : Tr) (s : Nat), (t.lvals s).length = (t.prs s).length
  | .leaf _, s => rfl
  | .node l r, s => by simp only [Tr.lvals, Tr.prs, List.length_append, List.length_cons, List.length_nil, l.lvals_len s, r.lvals_len]
theorem pK_inj {p q : Nat × Nat} (h : pK p = pK q) : p = q := by
  obtain ⟨h1, h2⟩ := nodeK_inj h
  exact Prod.ext h1 h2
theorem Tr.prs_nodup : ∀ (t : Tr) (s : Nat), (t.prs s).Nodup
  | .leaf _, s => by simp [Tr.prs]
  | .node l r, s => by
    have hl := l.pos
    have hr := r.pos
    simp only [Tr.prs]
    refine nd_of (l.prs_nodup s) (nd_of (r.prs_nodup _) (by simp) fun p hp hq => ?_) fun p hp hq => ?_
    · simp only [List.mem_singleton] at hq
      subst hq
      have := r.prs_mem _ _ hp
      simp only at this
      omega
    · have h1 := l.prs_mem _ _ hp
      rcases List.mem_append.mp hq with z | z
      · have := r.prs_mem _ _ z
        omega
      · simp only [List.mem_singleton] at z
        subst z
        simp only at h1
        omega
theorem look_at {κ : Type} [DecidableEq κ] : ∀ (xs ys : List κ) (ds es : List D) (k : κ) (d : D), xs.length = ds.length → k ∉ xs → lookD (xs ++ k :: ys) (ds ++ d :: es) k = some d
  | [], ys, [], es, k, d, _, _ => by simp [lookD]
  | x :: xs, ys, e :: ds, es, k, d, h, hn => by
    simp only [List.mem_cons, not_or] at hn
    simp only [List.cons_append, lookD]
    rw [if_neg (Ne.symm hn.1)]
    exact look_at xs ys ds es k d (by simpa using h) hn.2
  | [], _, _ :: _, _, _, _, h, _ => by simp at h
  | _ :: _, _, [], _, _, _, h, _ => by simp at h
theorem tkey_pD (p : Nat × Nat) : (pD p).tkey = some (pK p) := rfl
theorem pD_ne (p : Nat × Nat) : pD p ≠ .any := by simp [pD]
/-- found[own] = later[own], for each own of later -/
theorem spans_loop {w0 w1 w2 w3 : W} : ∀ (ps qs : List (Nat × Nat)) (ds es : List D) (ks : List (List Key)) (vs : List D) (x6 : W), qs.length = es.length → (qs ++ ps).Nodup → ps.length = ds.length → (∀ p ∈ ps, pK p ∉ ks) → ks.length + ps.length ≤ 10000 → (qs ++ ps).length ≤ 10000 →
    ∃ x6', forD (gN 6) l_law_spans_1 (ps.map pD) [w0, w1, w2, w3, .dT ks vs, .dT ((qs ++ ps).map pK) (es ++ ds), x6] = some ([w0, w1, w2, w3, .dT (ks ++ ps.map pK) (vs ++ ds), .dT ((qs ++ ps).map pK) (es ++ ds), x6'], .nx)
  | [], qs, [], es, ks, vs, x6, _, _, _, _, _, _ => ⟨x6, by simp [forD]⟩
  | p :: ps, qs, d :: ds, es, ks, vs, x6, hq, nd, hl, hk, hb, hb2 => by
    have hp : pK p ∉ ks := hk p (by simp)
    have hnq : pK p ∉ qs.map pK := fun z => by
      obtain ⟨q, hq1, e⟩ := List.mem_map.mp z
      rw [pK_inj e] at hq1
      exact (List.nodup_append.mp nd).2.2 p hq1 p (by simp) rfl
    have look : lookD ((qs ++ p :: ps).map pK) (es ++ d :: ds) (pK p) = some d := by
      rw [List.map_append, List.map_cons]
      exact look_at _ _ _ _ _ _ (by simpa using hq) hnq
    have hs : ks.length < sizeLine := size_lt (by simp only [List.length_cons] at hb; omega)
    obtain ⟨x6', ih⟩ := spans_loop (w0 := w0) (w1 := w1) (w2 := w2) (w3 := w3) ps (qs ++ [p]) ds (es ++ [d]) (ks ++ [pK p]) (vs ++ [d]) (.sh (pD p)) (by simp [hq]) (by simpa using nd) (by simpa using hl) (fun q hq => by
      simp only [List.mem_append, List.mem_singleton, not_or]
      refine ⟨hk q (by simp [hq]), fun z => ?_⟩
      have e := pK_inj z
      subst e
      have := (List.nodup_append.mp nd).2.1
      exact (List.nodup_cons.mp this).1 hq) (by simp only [List.length_append, List.length_cons, List.length_nil] at hb ⊢; omega) (by simpa using hb2)
    refine ⟨x6', ?_⟩
    have e1 : ks ++ (p :: ps).map pK = (ks ++ [pK p]) ++ ps.map pK := by simp
    have e2 : vs ++ d :: ds = (vs ++ [d]) ++ ds := by simp
    have e3 : qs ++ p :: ps = (qs ++ [p]) ++ ps := by simp
    have e4 : es ++ d :: ds = (es ++ [d]) ++ ds := by simp
    rw [e1, e2]
    rw [← e3, ← e4] at ih
    rw [← ih]
    have pn := pD_ne p
    have step : l_law_spans_1 [w0, w1, w2, w3, .dT ks vs, .dT ((qs ++ p :: ps).map pK) (es ++ d :: ds), .sh (pD p)] = some ([w0, w1, w2, w3, .dT (ks ++ [pK p]) (vs ++ [d]), .dT ((qs ++ p :: ps).map pK) (es ++ d :: ds), .sh (pD p)], .nx) := by
      generalize (qs ++ p :: ps).map pK = A at look ⊢
      generalize es ++ d :: ds = B at look ⊢
      simp [l_law_spans_1, sDPutN, gDGet, R.dT, tkey_pD, look, pn, hs, putKs, putDs, hp, fnP, sSeq, sIf, sAsg, sExpr, sRet, sRetN, sNil, sFor, sPar, sAug, sBk, sCt, gN, gsNil, gsCons, gTupT, gSetI, fC, fVar_eq, vW_sh, vW_lst, vW_ins, vW_dT, evs, fN, fU, gS, gS1, rds, rfz, rtk, R_d_val, R_d_pl, R.fz, R.tk, R_st_val, R_st_pl, R_st_plc, R.out, W.d, W.ds, En.get, En.put, W.get, W.put, oII, tt2, okMul, okDiv, okMod, okPow, oAddI, oSub, oMul, oDiv, oMod, oPow, oLtI, oLeI, oGtI, oGeI, oMax2, oMin2, oNeg, oAddS, oLtS, fAdd, fSub, fMul, fDiv, fMod, fPow, fNeg, fIx, gOr, gAdd, gAddI, fTb, fTr, truthD, fNotT, fAndT, fOrT, fNotV, fAndV, fOrV, fIf, fTup, fLst, gTupD, gLstD, fInt, oInt, fAbs, oAbs, fLen, oLen, fCall, argsOf, putB, outs, gIx, oIxD, gLt, tYesE, fIsi, oNotV, okV, wipeE, restE, W.isSh, W.owned, fMutN, mApp, R.els, D.its, iRange1, iRange2, iSeq, iEnumA, D.walk, fTuple, gTuple, fList, gList, fSorted, gSort, fMutP, qV, qC, slOf, gSl0, gSlLo, gSlHi, gSl2, fSl2, gCatL, gCatT, els2, fPure, frzE, List.map_cons, List.map_nil, fCallP, fCallKP, fMethP, W.clean, W.cleans, D.tdat, D.tdats, size_ok, size_ok1, List.getElem?_cons_zero, List.getElem?_cons_succ, List.getElem?_nil, List.set_cons_zero, List.set_cons_succ, List.length_cons, List.length_nil, List.replicate_succ, List.replicate_zero, List.cons_append, List.nil_append, List.append_nil, tdats_sD, cleans_sW, Tr.tdat]
    exact forD_nx (by simp [gN]) step rfl
  | [], _, _ :: _, _, _, _, _, _, _, h, _, _, _ => by simp at h
  | _ :: _, _, [], _, _, _, _, _, _, h, _, _, _ => by simp at h
theorem leaves_40 {t : Tr} (h : t.leaves.length ≤ 30) : m_law_leaves 40 [.sh t.D] = some (.lst (sW t.leaves), [.sh t.D]) := leaves_ok t (by have := t.dep_lt; omega) (by omega)
theorem spans_ok : ∀ {n : Nat} (t : Tr) (s : Nat), t.dep < n → t.leaves.length ≤ 30 → m_law_spans n [.sh t.D, .sh (.int (s : Int))] = some (.dT ((t.prs s).map pK) (t.lvals s), [.sh t.D, .sh (.int (s : Int))])
  | 0, _, _, h, _ => by omega
  | n + 1, .leaf x, s, _, _ => by
    have lv := leaves_40 (t := .leaf x) (by simp [Tr.leaves])
    simp only [Tr.D, Tr.leaves] at lv
    obtain ⟨f, hf⟩ : ∃ f : Int, (s : Int) + 1 = f := ⟨_, rfl⟩
    have hk : (D.tup [.int (s : Int), .int f]).tkey = some (pK (s, s + 1)) := by
      subst hf
      simp only [D.tkey, D.keys, D.key, pK, nodeK]
      simp
    unfold m_law_spans b_law_spans
    generalize m_law_leaves 40 = fl at lv ⊢
    simp [lv, hf, hk, sW_ds, sD_len, Tr.D, oIsi, D.tyn, isi7, fDict1T, gDict1T, R.els, Tr.prs, Tr.lvals, fnP, sSeq, sIf, sAsg, sExpr, sRet, sRetN, sNil, sFor, sPar, sAug, sBk, sCt, gN, gsNil, gsCons, gTupT, gSetI, fC, fVar_eq, vW_sh, vW_lst, vW_ins, vW_dT, evs, fN, fU, gS, gS1, rds, rfz, rtk, R_d_val, R_d_pl, R.fz, R.tk, R_st_val, R_st_pl, R_st_plc, R.out, W.d, W.ds, En.get, En.put, W.get, W.put, oII, tt2, okMul, okDiv, okMod, okPow, oAddI, oSub, oMul, oDiv, oMod, oPow, oLtI, oLeI, oGtI, oGeI, oMax2, oMin2, oNeg, oAddS, oLtS, fAdd, fSub, fMul, fDiv, fMod, fPow, fNeg, fIx, gOr, gAdd, gAddI, fTb, fTr, truthD, fNotT, fAndT, fOrT, fNotV, fAndV, fOrV, fIf, fTup, fLst, gTupD, gLstD, fInt, oInt, fAbs, oAbs, fLen, oLen, fCall, argsOf, putB, outs, gIx, oIxD, gLt, tYesE, fIsi, oNotV, okV, wipeE, restE, W.isSh, W.owned, fMutN, mApp, R.els, D.its, iRange1, iRange2, iSeq, iEnumA, D.walk, fTuple, gTuple, fList, gList, fSorted, gSort, fMutP, qV, qC, slOf, gSl0, gSlLo, gSlHi, gSl2, fSl2, gCatL, gCatT, els2, fPure, frzE, List.map_cons, List.map_nil, fCallP, fCallKP, fMethP, W.clean, W.cleans, D.tdat, D.tdats, size_ok, size_ok1, List.getElem?_cons_zero, List.getElem?_cons_succ, List.getElem?_nil, List.set_cons_zero, List.set_cons_succ, List.length_cons, List.length_nil, List.replicate_succ, List.replicate_zero, List.cons_append, List.nil_append, List.append_nil, tdats_sD, cleans_sW, Tr.tdat]
  | n + 1, .node l r, s, h, hl => by
    simp only [Tr.dep] at h
    have hll : l.leaves.length + r.leaves.length ≤ 30 := by simpa only [Tr.leaves, List.length_append] using hl
    have lv := leaves_40 (t := .node l r) hl
    have lv1 := leaves_40 (t := l) (by omega)
    obtain ⟨m, hm⟩ : ∃ m : Nat, s + l.leaves.length = m := ⟨_, rfl⟩
    obtain ⟨e, he⟩ : ∃ e : Nat, m + r.leaves.length = e := ⟨_, rfl⟩
    have em : (s : Int) + (l.leaves.length : Int) = (m : Int) := by omega
    have ee : (s : Int) + ((Tr.node l r).leaves.length : Int) = (e : Int) := by simp only [Tr.leaves, List.length_append]; omega
    have s1 := spans_ok (n := n) l s (by omega) (by omega)
    have s2 := spans_ok (n := n) r m (by omega) (by omega)
    have pl := l.prs_len s
    have pr := r.prs_len m
    have dk : ∀ p ∈ r.prs m, pK p ∉ (l.prs s).map pK := fun p hp z => by
      obtain ⟨q, hq, e⟩ := List.mem_map.mp z
      rw [pK_inj e] at hq
      have h1 := l.prs_mem s p hq
      have h2 := r.prs_mem m p hp
      omega
    have hn : pK (s, e) ∉ (l.prs s).map pK ++ (r.prs m).map pK := fun z => by
      rcases List.mem_append.mp z with z | z
      · obtain ⟨q, hq, e'⟩ := List.mem_map.mp z
        rw [pK_inj e'] at hq
        have h1 := l.prs_mem s _ hq
        have := r.pos
        simp only at h1
        omega
      · obtain ⟨q, hq, e'⟩ := List.mem_map.mp z
        rw [pK_inj e'] at hq
        have h1 := r.prs_mem m _ hq
        have := l.pos
        simp only at h1
        omega
    have hk : (D.tup [.int (s : Int), .int (e : Int)]).tkey = some (pK (s, e)) := rfl
    have hs : ((l.prs s).map pK ++ (r.prs m).map pK).length < sizeLine := size_lt (by simp only [List.length_append, List.length_map]; omega)
    have hs2 : (l.prs s).length + (r.prs m).length < sizeLine := size_lt (by omega)
    obtain ⟨x6, lp⟩ := spans_loop (w0 := .sh (Tr.node l r).D) (w1 := .sh (.int (s : Int))) (w2 := .sh (.int (e : Int))) (w3 := .sh (.int (m : Int))) (r.prs m) [] (r.lvals m) [] ((l.prs s).map pK) (l.lvals s) (.sh .any) rfl (by simpa using r.prs_nodup m) (r.lvals_len m).symm dk (by simp only [List.length_map]; omega) (by simp only [List.nil_append]; omega)
    simp only [List.nil_append] at lp
    have tp : (Tr.node l r).prs s = l.prs s ++ (r.prs m ++ [(s, e)]) := by simp only [Tr.prs, hm, he]
    have tv : (Tr.node l r).lvals s = l.lvals s ++ (r.lvals m ++ [.lst [pD (s, m), pD (m, e)]]) := by simp only [Tr.lvals, hm, he]
    rw [tp, tv]
    have e1 : (l.prs s ++ (r.prs m ++ [(s, e)])).map pK = ((l.prs s).map pK ++ (r.prs m).map pK) ++ [pK (s, e)] := by simp
    rw [e1]
    unfold m_law_spans b_law_spans
    generalize m_law_leaves 40 = fl at lv lv1 ⊢
    simp only [Tr.D] at lv lp ⊢
    refine fnP_ret (en' := [.sh (.tup [l.D, r.D]), .sh (.int (s : Int)), .sh (.int (e : Int)), .sh (.int (m : Int)), .sh .any, .dT ((r.prs m).map pK) (r.lvals m), x6]) rfl ?_
    apply sSeq_nx
    · simp [lv, ee, sW_ds, sD_len, fnP, sSeq, sIf, sAsg, sExpr, sRet, sRetN, sNil, sFor, sPar, sAug, sBk, sCt, gN, gsNil, gsCons, gTupT, gSetI, fC, fVar_eq, vW_sh, vW_lst, vW_ins, vW_dT, evs, fN, fU, gS, gS1, rds, rfz, rtk, R_d_val, R_d_pl, R.fz, R.tk, R_st_val, R_st_pl, R_st_plc, R.out, W.d, W.ds, En.get, En.put, W.get, W.put, oII, tt2, okMul, okDiv, okMod, okPow, oAddI, oSub, oMul, oDiv, oMod, oPow, oLtI, oLeI, oGtI, oGeI, oMax2, oMin2, oNeg, oAddS, oLtS, fAdd, fSub, fMul, fDiv, fMod, fPow, fNeg, fIx, gOr, gAdd, gAddI, fTb, fTr, truthD, fNotT, fAndT, fOrT, fNotV, fAndV, fOrV, fIf, fTup, fLst, gTupD, gLstD, fInt, oInt, fAbs, oAbs, fLen, oLen, fCall, argsOf, putB, outs, gIx, oIxD, gLt, tYesE, fIsi, oNotV, okV, wipeE, restE, W.isSh, W.owned, fMutN, mApp, R.els, D.its, iRange1, iRange2, iSeq, iEnumA, D.walk, fTuple, gTuple, fList, gList, fSorted, gSort, fMutP, qV, qC, slOf, gSl0, gSlLo, gSlHi, gSl2, fSl2, gCatL, gCatT, els2, fPure, frzE, List.map_cons, List.map_nil, fCallP, fCallKP, fMethP, W.clean, W.cleans, D.tdat, D.tdats, size_ok, size_ok1, List.getElem?_cons_zero, List.getElem?_cons_succ, List.getElem?_nil, List.set_cons_zero, List.set_cons_succ, List.length_cons, List.length_nil, List.replicate_succ, List.replicate_zero, List.cons_append, List.nil_append, List.append_nil, tdats_sD, cleans_sW, Tr.tdat]; rfl
    apply sSeq_nx
    · simp [oIsi, D.tyn, isi8, fnP, sSeq, sIf, sAsg, sExpr, sRet, sRetN, sNil, sFor, sPar, sAug, sBk, sCt, gN, gsNil, gsCons, gTupT, gSetI, fC, fVar_eq, vW_sh, vW_lst, vW_ins, vW_dT, evs, fN, fU, gS, gS1, rds, rfz, rtk, R_d_val, R_d_pl, R.fz, R.tk, R_st_val, R_st_pl, R_st_plc, R.out, W.d, W.ds, En.get, En.put, W.get, W.put, oII, tt2, okMul, okDiv, okMod, okPow, oAddI, oSub, oMul, oDiv, oMod, oPow, oLtI, oLeI, oGtI, oGeI, oMax2, oMin2, oNeg, oAddS, oLtS, fAdd, fSub, fMul, fDiv, fMod, fPow, fNeg, fIx, gOr, gAdd, gAddI, fTb, fTr, truthD, fNotT, fAndT, fOrT, fNotV, fAndV, fOrV, fIf, fTup, fLst, gTupD, gLstD, fInt, oInt, fAbs, oAbs, fLen, oLen, fCall, argsOf, putB, outs, gIx, oIxD, gLt, tYesE, fIsi, oNotV, okV, wipeE, restE, W.isSh, W.owned, fMutN, mApp, R.els, D.its, iRange1, iRange2, iSeq, iEnumA, D.walk, fTuple, gTuple, fList, gList, fSorted, gSort, fMutP, qV, qC, slOf, gSl0, gSlLo, gSlHi, gSl2, fSl2, gCatL, gCatT, els2, fPure, frzE, List.map_cons, List.map_nil, fCallP, fCallKP, fMethP, W.clean, W.cleans, D.tdat, D.tdats, size_ok, size_ok1, List.getElem?_cons_zero, List.getElem?_cons_succ, List.getElem?_nil, List.set_cons_zero, List.set_cons_succ, List.length_cons, List.length_nil, List.replicate_succ, List.replicate_zero, List.cons_append, List.nil_append, List.append_nil, tdats_sD, cleans_sW, Tr.tdat]; rfl
    apply sSeq_nx
    · simp [lv1, ixN, atI, em, sW_ds, sD_len, l.D_ne, fnP, sSeq, sIf, sAsg, sExpr, sRet, sRetN, sNil, sFor, sPar, sAug, sBk, sCt, gN, gsNil, gsCons, gTupT, gSetI, fC, fVar_eq, vW_sh, vW_lst, vW_ins, vW_dT, evs, fN, fU, gS, gS1, rds, rfz, rtk, R_d_val, R_d_pl, R.fz, R.tk, R_st_val, R_st_pl, R_st_plc, R.out, W.d, W.ds, En.get, En.put, W.get, W.put, oII, tt2, okMul, okDiv, okMod, okPow, oAddI, oSub, oMul, oDiv, oMod, oPow, oLtI, oLeI, oGtI, oGeI, oMax2, oMin2, oNeg, oAddS, oLtS, fAdd, fSub, fMul, fDiv, fMod, fPow, fNeg, fIx, gOr, gAdd, gAddI, fTb, fTr, truthD, fNotT, fAndT, fOrT, fNotV, fAndV, fOrV, fIf, fTup, fLst, gTupD, gLstD, fInt, oInt, fAbs, oAbs, fLen, oLen, fCall, argsOf, putB, outs, gIx, oIxD, gLt, tYesE, fIsi, oNotV, okV, wipeE, restE, W.isSh, W.owned, fMutN, mApp, R.els, D.its, iRange1, iRange2, iSeq, iEnumA, D.walk, fTuple, gTuple, fList, gList, fSorted, gSort, fMutP, qV, qC, slOf, gSl0, gSlLo, gSlHi, gSl2, fSl2, gCatL, gCatT, els2, fPure, frzE, List.map_cons, List.map_nil, fCallP, fCallKP, fMethP, W.clean, W.cleans, D.tdat, D.tdats, size_ok, size_ok1, List.getElem?_cons_zero, List.getElem?_cons_succ, List.getElem?_nil, List.set_cons_zero, List.set_cons_succ, List.length_cons, List.length_nil, List.replicate_succ, List.replicate_zero, List.cons_append, List.nil_append, List.append_nil, tdats_sD, cleans_sW, Tr.tdat]; rfl
    apply sSeq_nx
    · simp [s1, ixN, atI, l.D_ne, fnP, sSeq, sIf, sAsg, sExpr, sRet, sRetN, sNil, sFor, sPar, sAug, sBk, sCt, gN, gsNil, gsCons, gTupT, gSetI, fC, fVar_eq, vW_sh, vW_lst, vW_ins, vW_dT, evs, fN, fU, gS, gS1, rds, rfz, rtk, R_d_val, R_d_pl, R.fz, R.tk, R_st_val, R_st_pl, R_st_plc, R.out, W.d, W.ds, En.get, En.put, W.get, W.put, oII, tt2, okMul, okDiv, okMod, okPow, oAddI, oSub, oMul, oDiv, oMod, oPow, oLtI, oLeI, oGtI, oGeI, oMax2, oMin2, oNeg, oAddS, oLtS, fAdd, fSub, fMul, fDiv, fMod, fPow, fNeg, fIx, gOr, gAdd, gAddI, fTb, fTr, truthD, fNotT, fAndT, fOrT, fNotV, fAndV, fOrV, fIf, fTup, fLst, gTupD, gLstD, fInt, oInt, fAbs, oAbs, fLen, oLen, fCall, argsOf, putB, outs, gIx, oIxD, gLt, tYesE, fIsi, oNotV, okV, wipeE, restE, W.isSh, W.owned, fMutN, mApp, R.els, D.its, iRange1, iRange2, iSeq, iEnumA, D.walk, fTuple, gTuple, fList, gList, fSorted, gSort, fMutP, qV, qC, slOf, gSl0, gSlLo, gSlHi, gSl2, fSl2, gCatL, gCatT, els2, fPure, frzE, List.map_cons, List.map_nil, fCallP, fCallKP, fMethP, W.clean, W.cleans, D.tdat, D.tdats, size_ok, size_ok1, List.getElem?_cons_zero, List.getElem?_cons_succ, List.getElem?_nil, List.set_cons_zero, List.set_cons_succ, List.length_cons, List.length_nil, List.replicate_succ, List.replicate_zero, List.cons_append, List.nil_append, List.append_nil, tdats_sD, cleans_sW, Tr.tdat]; rfl
    apply sSeq_nx
    · simp [s2, ixN, atI, r.D_ne, fnP, sSeq, sIf, sAsg, sExpr, sRet, sRetN, sNil, sFor, sPar, sAug, sBk, sCt, gN, gsNil, gsCons, gTupT, gSetI, fC, fVar_eq, vW_sh, vW_lst, vW_ins, vW_dT, evs, fN, fU, gS, gS1, rds, rfz, rtk, R_d_val, R_d_pl, R.fz, R.tk, R_st_val, R_st_pl, R_st_plc, R.out, W.d, W.ds, En.get, En.put, W.get, W.put, oII, tt2, okMul, okDiv, okMod, okPow, oAddI, oSub, oMul, oDiv, oMod, oPow, oLtI, oLeI, oGtI, oGeI, oMax2, oMin2, oNeg, oAddS, oLtS, fAdd, fSub, fMul, fDiv, fMod, fPow, fNeg, fIx, gOr, gAdd, gAddI, fTb, fTr, truthD, fNotT, fAndT, fOrT, fNotV, fAndV, fOrV, fIf, fTup, fLst, gTupD, gLstD, fInt, oInt, fAbs, oAbs, fLen, oLen, fCall, argsOf, putB, outs, gIx, oIxD, gLt, tYesE, fIsi, oNotV, okV, wipeE, restE, W.isSh, W.owned, fMutN, mApp, R.els, D.its, iRange1, iRange2, iSeq, iEnumA, D.walk, fTuple, gTuple, fList, gList, fSorted, gSort, fMutP, qV, qC, slOf, gSl0, gSlLo, gSlHi, gSl2, fSl2, gCatL, gCatT, els2, fPure, frzE, List.map_cons, List.map_nil, fCallP, fCallKP, fMethP, W.clean, W.cleans, D.tdat, D.tdats, size_ok, size_ok1, List.getElem?_cons_zero, List.getElem?_cons_succ, List.getElem?_nil, List.set_cons_zero, List.set_cons_succ, List.length_cons, List.length_nil, List.replicate_succ, List.replicate_zero, List.cons_append, List.nil_append, List.append_nil, tdats_sD, cleans_sW, Tr.tdat]; rfl
    apply sSeq_nx
    · refine sFor_eq (ds := (r.prs m).map pD) ?_ lp
      simp [fListT, gListT, R.dT, map_tkeyD, dsh_ds, -List.map_map, fnP, sSeq, sIf, sAsg, sExpr, sRet, sRetN, sNil, sFor, sPar, sAug, sBk, sCt, gN, gsNil, gsCons, gTupT, gSetI, fC, fVar_eq, vW_sh, vW_lst, vW_ins, vW_dT, evs, fN, fU, gS, gS1, rds, rfz, rtk, R_d_val, R_d_pl, R.fz, R.tk, R_st_val, R_st_pl, R_st_plc, R.out, W.d, W.ds, En.get, En.put, W.get, W.put, oII, tt2, okMul, okDiv, okMod, okPow, oAddI, oSub, oMul, oDiv, oMod, oPow, oLtI, oLeI, oGtI, oGeI, oMax2, oMin2, oNeg, oAddS, oLtS, fAdd, fSub, fMul, fDiv, fMod, fPow, fNeg, fIx, gOr, gAdd, gAddI, fTb, fTr, truthD, fNotT, fAndT, fOrT, fNotV, fAndV, fOrV, fIf, fTup, fLst, gTupD, gLstD, fInt, oInt, fAbs, oAbs, fLen, oLen, fCall, argsOf, putB, outs, gIx, oIxD, gLt, tYesE, fIsi, oNotV, okV, wipeE, restE, W.isSh, W.owned, fMutN, mApp, R.els, D.its, iRange1, iRange2, iSeq, iEnumA, D.walk, fTuple, gTuple, fList, gList, fSorted, gSort, fMutP, qV, qC, slOf, gSl0, gSlLo, gSlHi, gSl2, fSl2, gCatL, gCatT, els2, fPure, frzE, List.map_cons, List.map_nil, fCallP, fCallKP, fMethP, W.clean, W.cleans, D.tdat, D.tdats, size_ok, size_ok1, List.getElem?_cons_zero, List.getElem?_cons_succ, List.getElem?_nil, List.set_cons_zero, List.set_cons_succ, List.length_cons, List.length_nil, List.replicate_succ, List.replicate_zero, List.cons_append, List.nil_append, List.append_nil, tdats_sD, cleans_sW, Tr.tdat]
    apply sSeq_nx
    · simp [sDPutN, hk, hs, hs2, hn, putKs, putDs, pD, fnP, sSeq, sIf, sAsg, sExpr, sRet, sRetN, sNil, sFor, sPar, sAug, sBk, sCt, gN, gsNil, gsCons, gTupT, gSetI, fC, fVar_eq, vW_sh, vW_lst, vW_ins, vW_dT, evs, fN, fU, gS, gS1, rds, rfz, rtk, R_d_val, R_d_pl, R.fz, R.tk, R_st_val, R_st_pl, R_st_plc, R.out, W.d, W.ds, En.get, En.put, W.get, W.put, oII, tt2, okMul, okDiv, okMod, okPow, oAddI, oSub, oMul, oDiv, oMod, oPow, oLtI, oLeI, oGtI, oGeI, oMax2, oMin2, oNeg, oAddS, oLtS, fAdd, fSub, fMul, fDiv, fMod, fPow, fNeg, fIx, gOr, gAdd, gAddI, fTb, fTr, truthD, fNotT, fAndT, fOrT, fNotV, fAndV, fOrV, fIf, fTup, fLst, gTupD, gLstD, fInt, oInt, fAbs, oAbs, fLen, oLen, fCall, argsOf, putB, outs, gIx, oIxD, gLt, tYesE, fIsi, oNotV, okV, wipeE, restE, W.isSh, W.owned, fMutN, mApp, R.els, D.its, iRange1, iRange2, iSeq, iEnumA, D.walk, fTuple, gTuple, fList, gList, fSorted, gSort, fMutP, qV, qC, slOf, gSl0, gSlLo, gSlHi, gSl2, fSl2, gCatL, gCatT, els2, fPure, frzE, List.map_cons, List.map_nil, fCallP, fCallKP, fMethP, W.clean, W.cleans, D.tdat, D.tdats, size_ok, size_ok1, List.getElem?_cons_zero, List.getElem?_cons_succ, List.getElem?_nil, List.set_cons_zero, List.set_cons_succ, List.length_cons, List.length_nil, List.replicate_succ, List.replicate_zero, List.cons_append, List.nil_append, List.append_nil, tdats_sD, cleans_sW, Tr.tdat]; rfl
    · simp [pD, fnP, sSeq, sIf, sAsg, sExpr, sRet, sRetN, sNil, sFor, sPar, sAug, sBk, sCt, gN, gsNil, gsCons, gTupT, gSetI, fC, fVar_eq, vW_sh, vW_lst, vW_ins, vW_dT, evs, fN, fU, gS, gS1, rds, rfz, rtk, R_d_val, R_d_pl, R.fz, R.tk, R_st_val, R_st_pl, R_st_plc, R.out, W.d, W.ds, En.get, En.put, W.get, W.put, oII, tt2, okMul, okDiv, okMod, okPow, oAddI, oSub, oMul, oDiv, oMod, oPow, oLtI, oLeI, oGtI, oGeI, oMax2, oMin2, oNeg, oAddS, oLtS, fAdd, fSub, fMul, fDiv, fMod, fPow, fNeg, fIx, gOr, gAdd, gAddI, fTb, fTr, truthD, fNotT, fAndT, fOrT, fNotV, fAndV, fOrV, fIf, fTup, fLst, gTupD, gLstD, fInt, oInt, fAbs, oAbs, fLen, oLen, fCall, argsOf, putB, outs, gIx, oIxD, gLt, tYesE, fIsi, oNotV, okV, wipeE, restE, W.isSh, W.owned, fMutN, mApp, R.els, D.its, iRange1, iRange2, iSeq, iEnumA, D.walk, fTuple, gTuple, fList, gList, fSorted, gSort, fMutP, qV, qC, slOf, gSl0, gSlLo, gSlHi, gSl2, fSl2, gCatL, gCatT, els2, fPure, frzE, List.map_cons, List.map_nil, fCallP, fCallKP, fMethP, W.clean, W.cleans, D.tdat, D.tdats, size_ok, size_ok1, List.getElem?_cons_zero, List.getElem?_cons_succ, List.getElem?_nil, List.set_cons_zero, List.set_cons_succ, List.length_cons, List.length_nil, List.replicate_succ, List.replicate_zero, List.cons_append, List.nil_append, List.append_nil, tdats_sD, cleans_sW, Tr.tdat]
/-- where a node is parted -/
def Tr.split : Tr → Nat → Nat × Nat → Option Nat
  | .leaf _, _, _ => none
  | .node l r, s, p => if p = (s, s + l.leaves.length + r.leaves.length) then some (s + l.leaves.length) else if p.2 ≤ s + l.leaves.length then l.split s p else r.split (s + l.leaves.length) p
def sideL (o : Option Nat) (p : Nat × Nat) : List (Nat × Nat) := match o with
  | none => []
  | some m => [(p.1, m), (m, p.2)]
def Tr.side (t : Tr) (s : Nat) (p : Nat × Nat) : List (Nat × Nat) := sideL (t.split s p) p
def Tr.valF (f : List Pu.D → Pu.D) : Tr → Nat → List Pu.D
  | .leaf _, _ => [f []]
  | .node l r, s => l.valF f s ++ (r.valF f (s + l.leaves.length) ++ [f [pD (s, s + l.leaves.length), pD (s + l.leaves.length, s + l.leaves.length + r.leaves.length)]])
theorem Tr.valF_len (f : List Pu.D → Pu.D) : ∀ (t : Tr) (s : Nat), (t.valF f s).length = (t.prs s).length
  | .leaf _, s => rfl
  | .node l r, s => by simp only [Tr.valF, Tr.prs, List.length_append, List.length_cons, List.length_nil, l.valF_len f s, r.valF_len]
theorem Tr.vals_F : ∀ (t : Tr) (s : Nat), t.vals s = t.valF .tup s
  | .leaf _, s => rfl
  | .node l r, s => by simp only [Tr.vals, Tr.valF, l.vals_F s, r.vals_F]
theorem look_app {κ : Type} [DecidableEq κ] : ∀ (xs ys : List κ) (ds es : List D) (k : κ), xs.length = ds.length → lookD (xs ++ ys) (ds ++ es) k = if k ∈ xs then lookD xs ds k else lookD ys es k
  | [], ys, [], es, k, _ => by simp
  | x :: xs, ys, d :: ds, es, k, h => by
    have ih := look_app xs ys ds es k (by simpa using h)
    by_cases e : x = k
    · subst e; simp [lookD]
    · have e' : ¬ k = x := fun z => e z.symm
      simp [lookD, e, e', ih]
  | [], _, _ :: _, _, _, h => by simp at h
  | _ :: _, _, [], _, _, h => by simp at h
theorem mem_pK {p : Nat × Nat} {ps : List (Nat × Nat)} : pK p ∈ ps.map pK ↔ p ∈ ps := by
  rw [List.mem_map]
  exact ⟨fun ⟨q, hq, e⟩ => by rw [← pK_inj e]; exact hq, fun h => ⟨p, h, rfl⟩⟩
theorem Tr.look (f : List Pu.D → Pu.D) : ∀ (t : Tr) (s : Nat) (p : Nat × Nat), p ∈ t.prs s → lookD ((t.prs s).map pK) (t.valF f s) (pK p) = some (f ((t.side s p).map pD))
  | .leaf x, s, p, h => by
    simp only [Tr.prs, List.mem_singleton] at h
    subst h
    simp [Tr.prs, Tr.valF, lookD, Tr.side, Tr.split, sideL]
  | .node l r, s, p, h => by
    have hl := l.pos
    have hr := r.pos
    have lenl : ((l.prs s).map pK).length = (l.valF f s).length := by rw [List.length_map, l.valF_len]
    have lenr : ((r.prs (s + l.leaves.length)).map pK).length = (r.valF f (s + l.leaves.length)).length := by rw [List.length_map, r.valF_len]
    simp only [Tr.prs, Tr.valF, List.map_append]
    rw [look_app _ _ _ _ _ lenl, look_app _ _ _ _ _ lenr]
    simp only [mem_pK, Tr.side, Tr.split]
    simp only [Tr.prs, List.mem_append, List.mem_singleton] at h
    by_cases h1 : p ∈ l.prs s
    · have b := l.prs_mem s p h1
      have n1 : p ≠ (s, s + l.leaves.length + r.leaves.length) := fun z => by subst z; simp only at b; omega
      rw [if_pos h1, if_neg n1, if_pos b.2.2, l.look f s p h1]
      rfl
    · rw [if_neg h1]
      by_cases h2 : p ∈ r.prs (s + l.leaves.length)
      · have b := r.prs_mem _ p h2
        have n1 : p ≠ (s, s + l.leaves.length + r.leaves.length) := fun z => by subst z; simp only at b; omega
        have n2 : ¬ p.2 ≤ s + l.leaves.length := by omega
        rw [if_pos h2, if_neg n1, if_neg n2, r.look f _ p h2]
        rfl
      · have e : p = (s, s + l.leaves.length + r.leaves.length) := by
          rcases h with z | z | z
          · exact absurd z h1
          · exact absurd z h2
          · exact z
        rw [if_neg h2, if_pos e]
        subst e
        simp [lookD, sideL]
theorem Tr.head_mem (t : Tr) (s : Nat) : (s, s + t.leaves.length) ∈ t.prs s := by
  cases t with
  | leaf _ => simp [Tr.prs, Tr.leaves]
  | node a b => simp [Tr.prs, Tr.leaves, Nat.add_assoc]
theorem Tr.split_mem : ∀ (t : Tr) (s : Nat) (p : Nat × Nat), p ∈ t.prs s → (t.split s p = none ∧ p.2 = p.1 + 1) ∨ ∃ m, t.split s p = some m ∧ p.1 < m ∧ m < p.2 ∧ (p.1, m) ∈ t.prs s ∧ (m, p.2) ∈ t.prs s
  | .leaf x, s, p, h => by
    simp only [Tr.prs, List.mem_singleton] at h
    subst h
    exact .inl ⟨rfl, rfl⟩
  | .node l r, s, p, h => by
    have hl := l.pos
    have hr := r.pos
    simp only [Tr.prs, List.mem_append, List.mem_singleton] at h ⊢
    simp only [Tr.split]
    rcases h with h | h | h
    · have b := l.prs_mem s p h
      have n1 : p ≠ (s, s + l.leaves.length + r.leaves.length) := fun z => by subst z; simp only at b; omega
      rw [if_neg n1, if_pos b.2.2]
      rcases l.split_mem s p h with z | ⟨m, e, h1, h2, h3, h4⟩
      · exact .inl z
      · exact .inr ⟨m, e, h1, h2, .inl h3, .inl h4⟩
    · have b := r.prs_mem _ p h
      have n1 : p ≠ (s, s + l.leaves.length + r.leaves.length) := fun z => by subst z; simp only at b; omega
      have n2 : ¬ p.2 ≤ s + l.leaves.length := by omega
      rw [if_neg n1, if_neg n2]
      rcases r.split_mem _ p h with z | ⟨m, e, h1, h2, h3, h4⟩
      · exact .inl z
      · exact .inr ⟨m, e, h1, h2, .inr (.inl h3), .inr (.inl h4)⟩
    · subst h
      rw [if_pos rfl]
      refine .inr ⟨_, rfl, by simp only; omega, by simp only; omega, .inl ?_, .inr (.inl ?_)⟩
      · exact l.head_mem s
      · exact r.head_mem _
/-- the names of a node's boxes -/
def Tr.part (t : Tr) (p : Nat × Nat) : List Str := (t.leaves.drop p.1).take (p.2 - p.1)
def Tr.names (t : Tr) (p : Nat × Nat) : List Str := srt leN (t.part p)
theorem cut_ab {α : Type} (xs : List α) {a b : Nat} (h1 : a ≤ b) (h2 : b ≤ xs.length) : cutG xs (some (a : Int)) (some (b : Int)) = (xs.drop a).take (b - a) := by
  have e1 : HT.sIx xs.length 0 (some (a : Int)) = min a xs.length := HT.sIx_nat xs.length 0 a
  have e2 : HT.sIx xs.length xs.length (some (b : Int)) = min b xs.length := HT.sIx_nat xs.length xs.length b
  unfold cutG
  rw [e1, e2, Nat.min_eq_left h2, Nat.min_eq_left (by omega)]
theorem Tr.part_join (t : Tr) {a m b : Nat} (h1 : a ≤ m) (h2 : m ≤ b) : t.part (a, b) = t.part (a, m) ++ t.part (m, b) := by
  unfold Tr.part
  simp only
  have e : (t.leaves.drop a).drop (m - a) = t.leaves.drop m := by rw [List.drop_drop]; congr 1; omega
  rw [show b - a = (m - a) + (b - m) by omega, List.take_add, e]
theorem Tr.names_join (t : Tr) {a m b : Nat} (h1 : a ≤ m) (h2 : m ≤ b) : srt leN (t.names (a, m) ++ t.names (m, b)) = t.names (a, b) := by
  unfold Tr.names
  symm
  refine srt_uni leN_tot leN_tr leN_an ?_ (srt_pw leN_tot leN_tr _)
  rw [t.part_join h1 h2]
  exact (srt_perm leN _).trans ((srt_perm leN _).symm.append (srt_perm leN _).symm)
theorem Tr.part_len (t : Tr) {p : Nat × Nat} (h2 : p.2 ≤ t.leaves.length) : (t.part p).length = p.2 - p.1 := by
  unfold Tr.part
  rw [List.length_take, List.length_drop]
  omega
theorem Tr.names_len (t : Tr) {p : Nat × Nat} (h2 : p.2 ≤ t.leaves.length) : (t.names p).length = p.2 - p.1 := by
  unfold Tr.names
  rw [(srt_perm leN _).length_eq, t.part_len h2]
theorem Tr.names_sub (t : Tr) {p : Nat × Nat} {x : Str} (h : x ∈ t.names p) : x ∈ t.leaves := by
  have := (srt_perm leN _).mem_iff.mp h
  exact List.mem_of_mem_drop (List.mem_of_mem_take this)
theorem whD_nx {t : FT} {body : FS} {n : Nat} {en en1 en2 : En} {r : Option (En × Fl)} (h1 : t en = some (en1, true)) (h2 : body en1 = some (en2, .nx)) (h3 : whD t body n en2 = r) : whD t body (n + 1) en = r := by
  simp only [whD, h1, h2, h3]
theorem whD_end {t : FT} {body : FS} {n : Nat} {en en1 : En} (h1 : t en = some (en1, false)) : whD t body (n + 1) en = some (en1, .nx) := by
  simp only [whD, h1]
def dfs (sd : Nat × Nat → List (Nat × Nat)) : Nat → List (Nat × Nat) → List (Nat × Nat) → List (Nat × Nat)
  | 0, f, _ => f
  | n + 1, f, w => match w.getLast? with
    | none => f
    | some h => dfs sd n (f ++ [h]) (w.dropLast ++ sd h)
def wt (p : Nat × Nat) : Nat := 2 * (p.2 - p.1) - 1
def wts (w : List (Nat × Nat)) : Nat := (w.map wt).sum
theorem wts_app (a b : List (Nat × Nat)) : wts (a ++ b) = wts a + wts b := by simp [wts]
theorem wts_nil : wts [] = 0 := rfl
theorem wts_one (p : Nat × Nat) : wts [p] = wt p := by simp [wts]
theorem wt_pos {t : Tr} {p : Nat × Nat} (h : p ∈ t.prs 0) : 0 < wt p := by
  have := t.prs_mem 0 p h
  unfold wt
  omega
theorem wts_side {t : Tr} {p : Nat × Nat} (h : p ∈ t.prs 0) : wts (t.side 0 p) + 1 = wt p ∧ (∀ q ∈ t.side 0 p, q ∈ t.prs 0) ∧ (t.side 0 p).length ≤ 2 := by
  rcases t.split_mem 0 p h with ⟨e, h1⟩ | ⟨m, e, h1, h2, h3, h4⟩
  · simp only [Tr.side, e, sideL, wts_nil, wt]
    exact ⟨by omega, fun q hq => (by cases hq), by simp⟩
  · simp only [Tr.side, e, sideL]
    refine ⟨?_, fun q hq => ?_, by simp⟩
    · simp only [wts, wt, List.map_cons, List.map_nil, List.sum_cons, List.sum_nil]
      omega
    · simp only [List.mem_cons, List.not_mem_nil, or_false] at hq
      rcases hq with rfl | rfl
      · exact h3
      · exact h4
/-- what is below a node, in the order in which a stack finds it -/
def Tr.found (t : Tr) (p : Nat × Nat) : List (Nat × Nat) := dfs (t.side 0) (wt p) [] [p]
def Tr.belows (t : Tr) (p : Nat × Nat) : List (Nat × Nat) := srt leP (t.found p)
theorem dfs_len {sd : Nat × Nat → List (Nat × Nat)} : ∀ (n : Nat) (f w : List (Nat × Nat)), (dfs sd n f w).length ≤ f.length + n
  | 0, f, w => Nat.le_refl _
  | n + 1, f, w => by
    unfold dfs
    split
    · omega
    · have := dfs_len (sd := sd) n (f ++ [‹Nat × Nat›]) (w.dropLast ++ sd ‹Nat × Nat›)
      simp only [List.length_append, List.length_cons, List.length_nil] at this
      omega
theorem Tr.below_len (t : Tr) (p : Nat × Nat) : (t.belows p).length ≤ wt p := by
  unfold Tr.belows Tr.found
  rw [(srt_perm leP _).length_eq]
  simpa using dfs_len (sd := t.side 0) (wt p) [] [p]
theorem wts_zero {t : Tr} : ∀ {w : List (Nat × Nat)}, (∀ q ∈ w, q ∈ t.prs 0) → wts w = 0 → w = []
  | [], _, _ => rfl
  | q :: w, h, e => by
    have := wt_pos (h q (by simp))
    simp only [wts, List.map_cons, List.sum_cons] at e
    omega
theorem lvals_look {t : Tr} {p : Nat × Nat} (h : p ∈ t.prs 0) : lookD ((t.prs 0).map pK) (t.lvals 0) (pK p) = some (.lst ((t.side 0 p).map pD)) := by
  have : ∀ (t : Tr) (s : Nat), t.lvals s = t.valF .lst s := fun t => by
    induction t with
    | leaf _ => intro s; rfl
    | node l r ihl ihr => intro s; simp only [Tr.lvals, Tr.valF, ihl, ihr]
  rw [this]
  exact t.look .lst 0 p h
theorem mem_knots {t : Tr} {p : Nat × Nat} : p ∈ t.knots ↔ p ∈ t.prs 0 := (srt_perm leP _).mem_iff
theorem okD_pD {n : Nat} (p : Nat × Nat) : okD (n + 2) (pD p) := by
  simp only [pD, okD]
  refine ⟨by simp, fun x hx => ?_⟩
  simp only [List.mem_cons, List.not_mem_nil, or_false] at hx
  rcases hx with rfl | rfl <;> trivial
theorem okD_pL {n : Nat} (p : Nat × Nat) : okD (n + 2) (.lst [.int (p.1 : Int), .int (p.2 : Int)]) := by
  simp only [okD]
  refine ⟨by simp, fun x hx => ?_⟩
  simp only [List.mem_cons, List.not_mem_nil, or_false] at hx
  rcases hx with rfl | rfl <;> trivial
theorem okD_names {n : Nat} {xs : List Str} (hl : xs.length ≤ 1000) (h : ∀ x ∈ xs, PyData.strOk x = true) (hn : 2 ≤ n) : okD n (.tup (sD xs)) := okT_D (okT_strs h hl hn)
theorem okD_namesL {n : Nat} {xs : List Str} (hl : xs.length ≤ 1000) (h : ∀ x ∈ xs, PyData.strOk x = true) (hn : 2 ≤ n) : okD n (.lst (sD xs)) := by
  obtain ⟨m, rfl⟩ : ∃ m, n = m + 2 := ⟨n - 2, by omega⟩
  refine okD_lst (n := m + 1) (by rw [sD_len]; omega) fun y hy => ?_
  obtain ⟨x, hx, rfl⟩ := List.mem_map.mp hy
  exact h x hx
theorem okD_lst2 {n : Nat} {a b : D} (h1 : okD n a) (h2 : okD n b) : okD (n + 1) (.lst [a, b]) := okD_lst (by simp) fun x hx => by
  simp only [List.mem_cons, List.not_mem_nil, or_false] at hx
  rcases hx with rfl | rfl
  · exact h1
  · exact h2
theorem eqD_nil {n : Nat} {d : D} {ds : List D} (h : okD n (.lst (d :: ds))) (hn : n ≤ 60) : eqD (.lst (d :: ds)) (.lst []) = some false := by
  obtain ⟨p, e1, e2, e3⟩ := okD_py h
  have hsh : SeqAt.shaped p = true := by
    unfold SeqAt.shaped
    rw [e2, decide_eq_true (by omega)]
    rfl
  have h0 : SeqAt.shaped (.list []) = true := by decide
  have e0 : (D.lst []).py = some (.list []) := rfl
  unfold eqD
  rw [e1, e0]
  simp only [hsh, h0, Bool.and_self, if_true]
  have e4 : (D.lst (d :: ds)).py = match D.pys (d :: ds) with
    | some ps => some (.list ps)
    | none => none := rfl
  rw [e4] at e1
  have e5 : D.pys (d :: ds) = match D.py d, D.pys ds with
    | some p, some ps => some (p :: ps)
    | _, _ => none := rfl
  rw [e5] at e1
  cases h8 : D.py d with
  | none => rw [h8] at e1; cases e1
  | some q =>
    cases h9 : D.pys ds with
    | none => rw [h8, h9] at e1; cases e1
    | some ps =>
      rw [h8, h9] at e1
      cases e1
      simp [PyData.eqv, PyData.eqvAll]
theorem okD_pLs {n : Nat} {ps : List (Nat × Nat)} (h : ps.length ≤ 10000) : okD (n + 3) (.lst (ps.map pD)) := okD_lst (n := n + 2) (by simpa using h) fun x hx => by
  obtain ⟨p, _, rfl⟩ := List.mem_map.mp hx
  exact okD_pD p
theorem ne_nil_pD {w' : List (Nat × Nat)} {h : Nat × Nat} (hl : (w' ++ [h]).length ≤ 10000) : eqD (.lst ((w' ++ [h]).map pD)) (.lst []) = some false := by
  have := okD_pLs (n := 0) hl
  cases hw : (w' ++ [h]).map pD with
  | nil => simp at hw
  | cons d ds =>
    rw [hw] at this
    exact eqD_nil this (by omega)
theorem under_loop {t : Tr} {x1 : W} {G : D} (hG : G = .dT ((t.prs 0).map pK) (t.lvals 0) ∨ G = .lT ((t.prs 0).map pK) (t.lvals 0)) : ∀ (n k : Nat) (f w : List (Nat × Nat)) (x4 : W), wts w = n → n ≤ k → (∀ q ∈ w, q ∈ t.prs 0) → f.length + 2 * n ≤ 10000 → w.length + 2 * n ≤ 10000 →
    ∃ y4, whD t_law_under_1 l_law_under_1 (k + 1) [.sh G, x1, .lst (pW f), .lst (pW w), x4] = some ([.sh G, x1, .lst (pW (dfs (t.side 0) n f w)), .lst [], y4], .nx)
  | 0, k, f, w, x4, hw, _, hm, _, _ => by
    have := wts_zero hm hw
    subst this
    have e0 : eqD (.lst []) (.lst []) = some true := eqD_refl (n := 1) (by simp [okD]) (by omega)
    refine ⟨x4, whD_end ?_⟩
    simp [t_law_under_1, pW, W.ds, dfs, oNe, e0, fnP, sSeq, sIf, sAsg, sExpr, sRet, sRetN, sNil, sFor, sPar, sAug, sBk, sCt, gN, gsNil, gsCons, gTupT, gSetI, fC, fVar_eq, vW_sh, vW_lst, vW_ins, vW_dT, evs, fN, fU, gS, gS1, rds, rfz, rtk, R_d_val, R_d_pl, R.fz, R.tk, R_st_val, R_st_pl, R_st_plc, R.out, W.d, W.ds, En.get, En.put, W.get, W.put, oII, tt2, okMul, okDiv, okMod, okPow, oAddI, oSub, oMul, oDiv, oMod, oPow, oLtI, oLeI, oGtI, oGeI, oMax2, oMin2, oNeg, oAddS, oLtS, fAdd, fSub, fMul, fDiv, fMod, fPow, fNeg, fIx, gOr, gAdd, gAddI, fTb, fTr, truthD, fNotT, fAndT, fOrT, fNotV, fAndV, fOrV, fIf, fTup, fLst, gTupD, gLstD, fInt, oInt, fAbs, oAbs, fLen, oLen, fCall, argsOf, putB, outs, gIx, oIxD, gLt, tYesE, fIsi, oNotV, okV, wipeE, restE, W.isSh, W.owned, fMutN, mApp, R.els, D.its, iRange1, iRange2, iSeq, iEnumA, D.walk, fTuple, gTuple, fList, gList, fSorted, gSort, fMutP, qV, qC, slOf, gSl0, gSlLo, gSlHi, gSl2, fSl2, gCatL, gCatT, els2, fPure, frzE, List.map_cons, List.map_nil, fCallP, fCallKP, fMethP, W.clean, W.cleans, D.tdat, D.tdats, size_ok, size_ok1, List.getElem?_cons_zero, List.getElem?_cons_succ, List.getElem?_nil, List.set_cons_zero, List.set_cons_succ, List.length_cons, List.length_nil, List.replicate_succ, List.replicate_zero, List.cons_append, List.nil_append, List.append_nil, tdats_sD, cleans_sW, Tr.tdat]
  | n + 1, k, f, w, x4, hw, hk, hm, hf, hl => by
    rcases List.eq_nil_or_concat w with rfl | ⟨w', h, rfl⟩
    · simp [wts] at hw
    rw [List.concat_eq_append] at *
    have hh : h ∈ t.prs 0 := hm h (by simp)
    obtain ⟨s1, s2, s3⟩ := wts_side hh
    have look := lvals_look hh
    have ne := ne_nil_pD (w' := w') (h := h) (by omega)
    rw [wts_app, wts_one] at hw
    obtain ⟨k', rfl⟩ : ∃ k', k = k' + 1 := ⟨k - 1, by omega⟩
    simp only [List.length_append, List.length_cons, List.length_nil] at hl
    obtain ⟨y4, ih⟩ := under_loop (t := t) (x1 := x1) hG n k' (f ++ [h]) (w' ++ t.side 0 h) (.sh (pD h)) (by rw [wts_app]; omega) (by omega) (fun q hq => by
      rcases List.mem_append.mp hq with z | z
      · exact hm q (by simp [z])
      · exact s2 q z) (by simp only [List.length_append, List.length_cons, List.length_nil]; omega) (by simp only [List.length_append]; omega)
    have ed : dfs (t.side 0) (n + 1) f (w' ++ [h]) = dfs (t.side 0) n (f ++ [h]) (w' ++ t.side 0 h) := by
      conv => lhs; unfold dfs
      simp
    rw [ed]
    refine ⟨y4, whD_nx (en1 := [.sh G, x1, .lst (pW f), .lst (pW (w' ++ [h])), x4]) (en2 := [.sh G, x1, .lst (pW (f ++ [h])), .lst (pW (w' ++ t.side 0 h)), .sh (pD h)]) ?_ ?_ ih⟩
    · rw [← pW_ds] at ne
      simp [t_law_under_1, oNe, ne, W.ds, fnP, sSeq, sIf, sAsg, sExpr, sRet, sRetN, sNil, sFor, sPar, sAug, sBk, sCt, gN, gsNil, gsCons, gTupT, gSetI, fC, fVar_eq, vW_sh, vW_lst, vW_ins, vW_dT, evs, fN, fU, gS, gS1, rds, rfz, rtk, R_d_val, R_d_pl, R.fz, R.tk, R_st_val, R_st_pl, R_st_plc, R.out, W.d, W.ds, En.get, En.put, W.get, W.put, oII, tt2, okMul, okDiv, okMod, okPow, oAddI, oSub, oMul, oDiv, oMod, oPow, oLtI, oLeI, oGtI, oGeI, oMax2, oMin2, oNeg, oAddS, oLtS, fAdd, fSub, fMul, fDiv, fMod, fPow, fNeg, fIx, gOr, gAdd, gAddI, fTb, fTr, truthD, fNotT, fAndT, fOrT, fNotV, fAndV, fOrV, fIf, fTup, fLst, gTupD, gLstD, fInt, oInt, fAbs, oAbs, fLen, oLen, fCall, argsOf, putB, outs, gIx, oIxD, gLt, tYesE, fIsi, oNotV, okV, wipeE, restE, W.isSh, W.owned, fMutN, mApp, R.els, D.its, iRange1, iRange2, iSeq, iEnumA, D.walk, fTuple, gTuple, fList, gList, fSorted, gSort, fMutP, qV, qC, slOf, gSl0, gSlLo, gSlHi, gSl2, fSl2, gCatL, gCatT, els2, fPure, frzE, List.map_cons, List.map_nil, fCallP, fCallKP, fMethP, W.clean, W.cleans, D.tdat, D.tdats, size_ok, size_ok1, List.getElem?_cons_zero, List.getElem?_cons_succ, List.getElem?_nil, List.set_cons_zero, List.set_cons_succ, List.length_cons, List.length_nil, List.replicate_succ, List.replicate_zero, List.cons_append, List.nil_append, List.append_nil, tdats_sD, cleans_sW, Tr.tdat]
    · have hs : f.length < sizeLine := size_lt (by omega)
      have hs2 : w'.length + (t.side 0 h).length ≤ sizeLine := size_le (by omega)
      have tk := tkey_pD h
      have pn := pD_ne h
      have j : (w'.map pD ++ (t.side 0 h).map pD).map W.sh = pW (w' ++ t.side 0 h) := by simp [pW]
      rw [pW_app, pW_app f, pW_one]
      unfold l_law_under_1
      generalize (t.prs 0).map pK = ks at look hG ⊢
      generalize t.lvals 0 = ds at look hG ⊢
      apply sSeq_nx
      · simp [fPop, fnP, sSeq, sIf, sAsg, sExpr, sRet, sRetN, sNil, sFor, sPar, sAug, sBk, sCt, gN, gsNil, gsCons, gTupT, gSetI, fC, fVar_eq, vW_sh, vW_lst, vW_ins, vW_dT, evs, fN, fU, gS, gS1, rds, rfz, rtk, R_d_val, R_d_pl, R.fz, R.tk, R_st_val, R_st_pl, R_st_plc, R.out, W.d, W.ds, En.get, En.put, W.get, W.put, oII, tt2, okMul, okDiv, okMod, okPow, oAddI, oSub, oMul, oDiv, oMod, oPow, oLtI, oLeI, oGtI, oGeI, oMax2, oMin2, oNeg, oAddS, oLtS, fAdd, fSub, fMul, fDiv, fMod, fPow, fNeg, fIx, gOr, gAdd, gAddI, fTb, fTr, truthD, fNotT, fAndT, fOrT, fNotV, fAndV, fOrV, fIf, fTup, fLst, gTupD, gLstD, fInt, oInt, fAbs, oAbs, fLen, oLen, fCall, argsOf, putB, outs, gIx, oIxD, gLt, tYesE, fIsi, oNotV, okV, wipeE, restE, W.isSh, W.owned, fMutN, mApp, R.els, D.its, iRange1, iRange2, iSeq, iEnumA, D.walk, fTuple, gTuple, fList, gList, fSorted, gSort, fMutP, qV, qC, slOf, gSl0, gSlLo, gSlHi, gSl2, fSl2, gCatL, gCatT, els2, fPure, frzE, List.map_cons, List.map_nil, fCallP, fCallKP, fMethP, W.clean, W.cleans, D.tdat, D.tdats, size_ok, size_ok1, List.getElem?_cons_zero, List.getElem?_cons_succ, List.getElem?_nil, List.set_cons_zero, List.set_cons_succ, List.length_cons, List.length_nil, List.replicate_succ, List.replicate_zero, List.cons_append, List.nil_append, List.append_nil, tdats_sD, cleans_sW, Tr.tdat]; rfl
      apply sSeq_nx
      · simp [pn, pW_len, hs, fnP, sSeq, sIf, sAsg, sExpr, sRet, sRetN, sNil, sFor, sPar, sAug, sBk, sCt, gN, gsNil, gsCons, gTupT, gSetI, fC, fVar_eq, vW_sh, vW_lst, vW_ins, vW_dT, evs, fN, fU, gS, gS1, rds, rfz, rtk, R_d_val, R_d_pl, R.fz, R.tk, R_st_val, R_st_pl, R_st_plc, R.out, W.d, W.ds, En.get, En.put, W.get, W.put, oII, tt2, okMul, okDiv, okMod, okPow, oAddI, oSub, oMul, oDiv, oMod, oPow, oLtI, oLeI, oGtI, oGeI, oMax2, oMin2, oNeg, oAddS, oLtS, fAdd, fSub, fMul, fDiv, fMod, fPow, fNeg, fIx, gOr, gAdd, gAddI, fTb, fTr, truthD, fNotT, fAndT, fOrT, fNotV, fAndV, fOrV, fIf, fTup, fLst, gTupD, gLstD, fInt, oInt, fAbs, oAbs, fLen, oLen, fCall, argsOf, putB, outs, gIx, oIxD, gLt, tYesE, fIsi, oNotV, okV, wipeE, restE, W.isSh, W.owned, fMutN, mApp, R.els, D.its, iRange1, iRange2, iSeq, iEnumA, D.walk, fTuple, gTuple, fList, gList, fSorted, gSort, fMutP, qV, qC, slOf, gSl0, gSlLo, gSlHi, gSl2, fSl2, gCatL, gCatT, els2, fPure, frzE, List.map_cons, List.map_nil, fCallP, fCallKP, fMethP, W.clean, W.cleans, D.tdat, D.tdats, size_ok, size_ok1, List.getElem?_cons_zero, List.getElem?_cons_succ, List.getElem?_nil, List.set_cons_zero, List.set_cons_succ, List.length_cons, List.length_nil, List.replicate_succ, List.replicate_zero, List.cons_append, List.nil_append, List.append_nil, tdats_sD, cleans_sW, Tr.tdat]; rfl
      · rcases hG with rfl | rfl <;> simp [gDGet, R.dT, pn, tk, look, els2, R.els, D.its, pW_ds, hs2, -List.map_append, -List.map_map, j, fnP, sSeq, sIf, sAsg, sExpr, sRet, sRetN, sNil, sFor, sPar, sAug, sBk, sCt, gN, gsNil, gsCons, gTupT, gSetI, fC, fVar_eq, vW_sh, vW_lst, vW_ins, vW_dT, evs, fN, fU, gS, gS1, rds, rfz, rtk, R_d_val, R_d_pl, R.fz, R.tk, R_st_val, R_st_pl, R_st_plc, R.out, W.d, W.ds, En.get, En.put, W.get, W.put, oII, tt2, okMul, okDiv, okMod, okPow, oAddI, oSub, oMul, oDiv, oMod, oPow, oLtI, oLeI, oGtI, oGeI, oMax2, oMin2, oNeg, oAddS, oLtS, fAdd, fSub, fMul, fDiv, fMod, fPow, fNeg, fIx, gOr, gAdd, gAddI, fTb, fTr, truthD, fNotT, fAndT, fOrT, fNotV, fAndV, fOrV, fIf, fTup, fLst, gTupD, gLstD, fInt, oInt, fAbs, oAbs, fLen, oLen, fCall, argsOf, putB, outs, gIx, oIxD, gLt, tYesE, fIsi, oNotV, okV, wipeE, restE, W.isSh, W.owned, fMutN, mApp, R.els, D.its, iRange1, iRange2, iSeq, iEnumA, D.walk, fTuple, gTuple, fList, gList, fSorted, gSort, fMutP, qV, qC, slOf, gSl0, gSlLo, gSlHi, gSl2, fSl2, gCatL, gCatT, els2, fPure, frzE, List.map_cons, List.map_nil, fCallP, fCallKP, fMethP, W.clean, W.cleans, D.tdat, D.tdats, size_ok, size_ok1, List.getElem?_cons_zero, List.getElem?_cons_succ, List.getElem?_nil, List.set_cons_zero, List.set_cons_succ, List.length_cons, List.length_nil, List.replicate_succ, List.replicate_zero, List.cons_append, List.nil_append, List.append_nil, tdats_sD, cleans_sW, Tr.tdat]
theorem under_okG {t : Tr} {p : Nat × Nat} {G : D} (hG : G = .dT ((t.prs 0).map pK) (t.lvals 0) ∨ G = .lT ((t.prs 0).map pK) (t.lvals 0)) (hp : p ∈ t.prs 0) (h : t.leaves.length ≤ 30) : m_law_under [.sh G, .sh (pD p)] = some (.lst (pW (t.belows p)), [.sh G, .sh (pD p)]) := by
  have b := t.prs_mem 0 p hp
  have hw : wt p ≤ 60 := by unfold wt; omega
  obtain ⟨y4, lp⟩ := under_loop (t := t) (x1 := .sh (pD p)) hG (wt p) 399 [] [p] (.sh .any) (by rw [wts_one]) (by omega) (fun q hq => by simp only [List.mem_singleton] at hq; subst hq; exact hp) (by simp; omega) (by simp; omega)
  have fl : (t.found p).length ≤ 60 := by
    have := dfs_len (sd := t.side 0) (wt p) [] [p]
    simp only [List.length_nil, Nat.zero_add] at this
    exact Nat.le_trans this hw
  have os : oSortX ((t.found p).map pD) = some ((t.belows p).map pD) := oSortX_pairs (by omega)
  have pn := pD_ne p
  refine fnP_ret (n := 5) (np := 2) (b := b_law_under) rfl (en' := [.sh G, .sh (pD p), .lst (pW (t.found p)), .lst [], y4]) ?_
  unfold b_law_under
  apply sSeq_nx
  · simp [pn, fnP, sSeq, sIf, sAsg, sExpr, sRet, sRetN, sNil, sFor, sPar, sAug, sBk, sCt, gN, gsNil, gsCons, gTupT, gSetI, fC, fVar_eq, vW_sh, vW_lst, vW_ins, vW_dT, evs, fN, fU, gS, gS1, rds, rfz, rtk, R_d_val, R_d_pl, R.fz, R.tk, R_st_val, R_st_pl, R_st_plc, R.out, W.d, W.ds, En.get, En.put, W.get, W.put, oII, tt2, okMul, okDiv, okMod, okPow, oAddI, oSub, oMul, oDiv, oMod, oPow, oLtI, oLeI, oGtI, oGeI, oMax2, oMin2, oNeg, oAddS, oLtS, fAdd, fSub, fMul, fDiv, fMod, fPow, fNeg, fIx, gOr, gAdd, gAddI, fTb, fTr, truthD, fNotT, fAndT, fOrT, fNotV, fAndV, fOrV, fIf, fTup, fLst, gTupD, gLstD, fInt, oInt, fAbs, oAbs, fLen, oLen, fCall, argsOf, putB, outs, gIx, oIxD, gLt, tYesE, fIsi, oNotV, okV, wipeE, restE, W.isSh, W.owned, fMutN, mApp, R.els, D.its, iRange1, iRange2, iSeq, iEnumA, D.walk, fTuple, gTuple, fList, gList, fSorted, gSort, fMutP, qV, qC, slOf, gSl0, gSlLo, gSlHi, gSl2, fSl2, gCatL, gCatT, els2, fPure, frzE, List.map_cons, List.map_nil, fCallP, fCallKP, fMethP, W.clean, W.cleans, D.tdat, D.tdats, size_ok, size_ok1, List.getElem?_cons_zero, List.getElem?_cons_succ, List.getElem?_nil, List.set_cons_zero, List.set_cons_succ, List.length_cons, List.length_nil, List.replicate_succ, List.replicate_zero, List.cons_append, List.nil_append, List.append_nil, tdats_sD, cleans_sW, Tr.tdat]; rfl
  apply sSeq_nx
  · exact lp
  · show sRet _ _ [.sh G, .sh (pD p), .lst (pW (t.found p)), .lst [], y4] = _
    simp [fSortX, gSortX, R.dT, R.els, pW_ds, os, pW_mk, shs_pW, -List.map_map, fnP, sSeq, sIf, sAsg, sExpr, sRet, sRetN, sNil, sFor, sPar, sAug, sBk, sCt, gN, gsNil, gsCons, gTupT, gSetI, fC, fVar_eq, vW_sh, vW_lst, vW_ins, vW_dT, evs, fN, fU, gS, gS1, rds, rfz, rtk, R_d_val, R_d_pl, R.fz, R.tk, R_st_val, R_st_pl, R_st_plc, R.out, W.d, W.ds, En.get, En.put, W.get, W.put, oII, tt2, okMul, okDiv, okMod, okPow, oAddI, oSub, oMul, oDiv, oMod, oPow, oLtI, oLeI, oGtI, oGeI, oMax2, oMin2, oNeg, oAddS, oLtS, fAdd, fSub, fMul, fDiv, fMod, fPow, fNeg, fIx, gOr, gAdd, gAddI, fTb, fTr, truthD, fNotT, fAndT, fOrT, fNotV, fAndV, fOrV, fIf, fTup, fLst, gTupD, gLstD, fInt, oInt, fAbs, oAbs, fLen, oLen, fCall, argsOf, putB, outs, gIx, oIxD, gLt, tYesE, fIsi, oNotV, okV, wipeE, restE, W.isSh, W.owned, fMutN, mApp, R.els, D.its, iRange1, iRange2, iSeq, iEnumA, D.walk, fTuple, gTuple, fList, gList, fSorted, gSort, fMutP, qV, qC, slOf, gSl0, gSlLo, gSlHi, gSl2, fSl2, gCatL, gCatT, els2, fPure, frzE, List.map_cons, List.map_nil, fCallP, fCallKP, fMethP, W.clean, W.cleans, D.tdat, D.tdats, size_ok, size_ok1, List.getElem?_cons_zero, List.getElem?_cons_succ, List.getElem?_nil, List.set_cons_zero, List.set_cons_succ, List.length_cons, List.length_nil, List.replicate_succ, List.replicate_zero, List.cons_append, List.nil_append, List.append_nil, tdats_sD, cleans_sW, Tr.tdat]
theorem under_ok {t : Tr} {p : Nat × Nat} (hp : p ∈ t.prs 0) (h : t.leaves.length ≤ 30) : m_law_under [.sh (.dT ((t.prs 0).map pK) (t.lvals 0)), .sh (pD p)] = some (.lst (pW (t.belows p)), [.sh (.dT ((t.prs 0).map pK) (t.lvals 0)), .sh (pD p)]) := under_okG (.inl rfl) hp h
theorem box_ok {cs : List Int} {k : Nat} (h : k < cs.length) : ∃ u, m_law_box [.sh (.lst (cs.map D.int)), .sh (.int k)] = some (u, [.sh (.lst (cs.map D.int)), .sh (.int k)]) ∧ Urn 0 u ∧ u.clean = true := by
  have k0 : 0 ≤ (k : Int) := by omega
  have ix := ixN_in (n := cs.length) k0 (by omega)
  generalize hx : cs[k] = x
  have g : (cs.map D.int)[k]? = some (.int x) := by simp [h, hx]
  have dl : (cs.map D.int).length = cs.length := by simp
  generalize cs.map D.int = ds at g dl ⊢
  have ha : atI ds (k : Int) = some (.int x) := by
    unfold atI
    rw [dl, ix]
    exact g
  refine ⟨.lst [.sh (.int ((if x < 0 then -x else x) * (if decide (10 ^ 18 ≤ (if x < 0 then -x else x)) = true then 1 else 0))), .sh (.int (x % 2305843009213693951 + 39373 * (k : Int) + 543)), .sh (.int 0)], ?_, ⟨_, _, _, rfl, ?_, by omega, by omega, by omega⟩, rfl⟩
  · by_cases z : 1000000000000000000 ≤ (if x < 0 then -x else x)
    · simp [m_law_box, b_law_box, h, dl, ha, z, fnP, sSeq, sIf, sAsg, sExpr, sRet, sRetN, sNil, sFor, sPar, sAug, sBk, sCt, gN, gsNil, gsCons, gTupT, gSetI, fC, fVar_eq, vW_sh, vW_lst, vW_ins, vW_dT, evs, fN, fU, gS, gS1, rds, rfz, rtk, R_d_val, R_d_pl, R.fz, R.tk, R_st_val, R_st_pl, R_st_plc, R.out, W.d, W.ds, En.get, En.put, W.get, W.put, oII, tt2, okMul, okDiv, okMod, okPow, oAddI, oSub, oMul, oDiv, oMod, oPow, oLtI, oLeI, oGtI, oGeI, oMax2, oMin2, oNeg, oAddS, oLtS, fAdd, fSub, fMul, fDiv, fMod, fPow, fNeg, fIx, gOr, gAdd, gAddI, fTb, fTr, truthD, fNotT, fAndT, fOrT, fNotV, fAndV, fOrV, fIf, fTup, fLst, gTupD, gLstD, fInt, oInt, fAbs, oAbs, fLen, oLen, fCall, argsOf, putB, outs, gIx, oIxD, gLt, tYesE, fIsi, oNotV, okV, wipeE, restE, W.isSh, W.owned, fMutN, mApp, R.els, D.its, iRange1, iRange2, iSeq, iEnumA, D.walk, fTuple, gTuple, fList, gList, fSorted, gSort, fMutP, qV, qC, slOf, gSl0, gSlLo, gSlHi, gSl2, fSl2, gCatL, gCatT, els2, fPure, frzE, List.map_cons, List.map_nil, fCallP, fCallKP, fMethP, W.clean, W.cleans, D.tdat, D.tdats, size_ok, size_ok1, List.getElem?_cons_zero, List.getElem?_cons_succ, List.getElem?_nil, List.set_cons_zero, List.set_cons_succ, List.length_cons, List.length_nil, List.replicate_succ, List.replicate_zero, List.cons_append, List.nil_append, List.append_nil, tdats_sD, cleans_sW, Tr.tdat]
    · simp [m_law_box, b_law_box, h, dl, ha, z, fnP, sSeq, sIf, sAsg, sExpr, sRet, sRetN, sNil, sFor, sPar, sAug, sBk, sCt, gN, gsNil, gsCons, gTupT, gSetI, fC, fVar_eq, vW_sh, vW_lst, vW_ins, vW_dT, evs, fN, fU, gS, gS1, rds, rfz, rtk, R_d_val, R_d_pl, R.fz, R.tk, R_st_val, R_st_pl, R_st_plc, R.out, W.d, W.ds, En.get, En.put, W.get, W.put, oII, tt2, okMul, okDiv, okMod, okPow, oAddI, oSub, oMul, oDiv, oMod, oPow, oLtI, oLeI, oGtI, oGeI, oMax2, oMin2, oNeg, oAddS, oLtS, fAdd, fSub, fMul, fDiv, fMod, fPow, fNeg, fIx, gOr, gAdd, gAddI, fTb, fTr, truthD, fNotT, fAndT, fOrT, fNotV, fAndV, fOrV, fIf, fTup, fLst, gTupD, gLstD, fInt, oInt, fAbs, oAbs, fLen, oLen, fCall, argsOf, putB, outs, gIx, oIxD, gLt, tYesE, fIsi, oNotV, okV, wipeE, restE, W.isSh, W.owned, fMutN, mApp, R.els, D.its, iRange1, iRange2, iSeq, iEnumA, D.walk, fTuple, gTuple, fList, gList, fSorted, gSort, fMutP, qV, qC, slOf, gSl0, gSlLo, gSlHi, gSl2, fSl2, gCatL, gCatT, els2, fPure, frzE, List.map_cons, List.map_nil, fCallP, fCallKP, fMethP, W.clean, W.cleans, D.tdat, D.tdats, size_ok, size_ok1, List.getElem?_cons_zero, List.getElem?_cons_succ, List.getElem?_nil, List.set_cons_zero, List.set_cons_succ, List.length_cons, List.length_nil, List.replicate_succ, List.replicate_zero, List.cons_append, List.nil_append, List.append_nil, tdats_sD, cleans_sW, Tr.tdat]
  · split <;> split <;> omega
/-- a loop whose turns draw from the urn at the first name -/
theorem urn_loop {body : FS} {N K B i : Nat} (hi : i < N) (step : ∀ c u xs, Urn c u → c ≤ B → xs.length = N → ∃ u' ys, body (u :: xs) = some (u' :: ys, .nx) ∧ ys.length = N ∧ Urn (c + K) u') : ∀ (ds : List D) (c : Nat) (u : W) (xs : List W), Urn c u → c + K * ds.length ≤ B → xs.length = N →
    ∃ u' ys, forD (gN (i + 1)) body ds (u :: xs) = some (u' :: ys, .nx) ∧ ys.length = N ∧ Urn (c + K * ds.length) u'
  | [], c, u, xs, h, _, hl => ⟨u, xs, by simp [forD], hl, by simpa using h⟩
  | d :: ds, c, u, xs, h, hc, hl => by
    simp only [List.length_cons, Nat.mul_add, Nat.mul_one] at hc
    obtain ⟨u1, ys, e1, l1, h1⟩ := step c u (xs.set i (.sh d)) h (by omega) (by simpa using hl)
    obtain ⟨u2, zs, e2, l2, h2⟩ := urn_loop hi step ds (c + K) u1 ys h1 (by omega) l1
    refine ⟨u2, zs, forD_nx (en1 := u :: xs.set i (.sh d)) ?_ e1 e2, l2, h2.mono (by simp only [List.length_cons, Nat.mul_add, Nat.mul_one]; omega)⟩
    have : i + 1 < (u :: xs).length := by simp only [List.length_cons]; omega
    simp [gN, hl, hi]
theorem range_len (n : Nat) : ((List.range n).map fun (k : Nat) => D.int (k : Int)).length = n := by simp
theorem urn_loopP {body : FS} {P : List W → Prop} {K B i : Nat} (hP : ∀ xs d, P xs → i < xs.length ∧ P (xs.set i (.sh d))) (step : ∀ c u xs, Urn c u → c ≤ B → P xs → ∃ u' ys, body (u :: xs) = some (u' :: ys, .nx) ∧ P ys ∧ Urn (c + K) u') : ∀ (ds : List D) (c : Nat) (u : W) (xs : List W), Urn c u → c + K * ds.length ≤ B → P xs →
    ∃ u' ys, forD (gN (i + 1)) body ds (u :: xs) = some (u' :: ys, .nx) ∧ P ys ∧ Urn (c + K * ds.length) u'
  | [], c, u, xs, h, _, hl => ⟨u, xs, by simp [forD], hl, by simpa using h⟩
  | d :: ds, c, u, xs, h, hc, hl => by
    simp only [List.length_cons, Nat.mul_add, Nat.mul_one] at hc
    obtain ⟨hi, hs⟩ := hP xs d hl
    obtain ⟨u1, ys, e1, l1, h1⟩ := step c u (xs.set i (.sh d)) h (by omega) hs
    obtain ⟨u2, zs, e2, l2, h2⟩ := urn_loopP hP step ds (c + K) u1 ys h1 (by omega) l1
    refine ⟨u2, zs, forD_nx (en1 := u :: xs.set i (.sh d)) ?_ e1 e2, l2, h2.mono (by simp only [List.length_cons, Nat.mul_add, Nat.mul_one]; omega)⟩
    simp [gN, hi]
def overD (p : Nat × Nat) : D → Bool
  | .tup [.int a, .int b] => decide (a ≤ (p.1 : Int)) && decide ((p.2 : Int) ≤ b)
  | _ => false
theorem overD_pD (p k : Nat × Nat) : overD p (pD k) = (decide ((k.1 : Int) ≤ (p.1 : Int)) && decide ((p.2 : Int) ≤ (k.2 : Int))) := rfl
def Tr.deep (t : Tr) (p : Nat × Nat) : Nat := (((t.prs 0).map pD).filter (overD p)).length
theorem Tr.deep_knots (t : Tr) (p : Nat × Nat) : ((t.knots.map pD).filter (overD p)).length = t.deep p := by
  unfold Tr.deep Tr.knots
  exact (((srt_perm leP _).map pD).filter _).length_eq
theorem Tr.deep_le (t : Tr) (p : Nat × Nat) : t.deep p + 1 ≤ 2 * t.leaves.length := by
  unfold Tr.deep
  have := List.length_filter_le (overD p) ((t.prs 0).map pD)
  have := t.prs_len 0
  simp only [List.length_map] at *
  omega
def likeP (d : D) (p : Nat × Nat) : Prop := d = .tup [.int (p.1 : Int), .int (p.2 : Int)] ∨ d = .lst [.int (p.1 : Int), .int (p.2 : Int)]
theorem likeP_ne {d : D} {p : Nat × Nat} (h : likeP d p) : d ≠ .any := by rcases h with rfl | rfl <;> simp
theorem likeP_ix {d : D} {p : Nat × Nat} (h : likeP d p) : oIxD d 0 = some (.int (p.1 : Int)) ∧ oIxD d 1 = some (.int (p.2 : Int)) := by
  rcases h with rfl | rfl <;> exact ⟨rfl, rfl⟩
theorem eq_nil_ints {is : List Int} (h : is.length ≤ 10000) : eqD (.lst (is.map D.int)) (.lst []) = some (decide (is = [])) := by
  cases is with
  | nil => exact eqD_refl (n := 1) (by simp [okD]) (by omega)
  | cons x xs =>
    rw [List.map_cons]
    have := okD_ints (n := 0) h
    rw [List.map_cons] at this
    rw [eqD_nil this (by omega)]
    simp
theorem depth_of_ok {g d : D} {t : Tr} {p : Nat × Nat} (T : TrG g t) (hd : likeP d p) : m_depth_of [.sh g, .sh d] = some (.sh (.int ((t.deep p : Int) - 1)), [.sh g, .sh d]) := by
  have td := T.ne
  have dn := likeP_ne hd
  have ni := nodes_in_ok T
  have dl := t.deep_le p
  have hl := T.len
  have kl := t.knots_len
  have hs : t.deep p ≤ sizeLine := size_le (by omega)
  have c := compD_filter (vs := [2]) (g := gN 2) (t := t_depth_of_1) (f := fVar 2) (en := [.sh g, .sh d, .sh .any]) (overD p) W.sh (t.knots.map pD) [] (by simp; omega) (by simp [fnP, sSeq, sIf, sAsg, sExpr, sRet, sRetN, sNil, sFor, sPar, sAug, sBk, sCt, gN, gsNil, gsCons, gTupT, gSetI, fC, fVar_eq, vW_sh, vW_lst, vW_ins, vW_dT, evs, fN, fU, gS, gS1, rds, rfz, rtk, R_d_val, R_d_pl, R.fz, R.tk, R_st_val, R_st_pl, R_st_plc, R.out, W.d, W.ds, En.get, En.put, W.get, W.put, oII, tt2, okMul, okDiv, okMod, okPow, oAddI, oSub, oMul, oDiv, oMod, oPow, oLtI, oLeI, oGtI, oGeI, oMax2, oMin2, oNeg, oAddS, oLtS, fAdd, fSub, fMul, fDiv, fMod, fPow, fNeg, fIx, gOr, gAdd, gAddI, fTb, fTr, truthD, fNotT, fAndT, fOrT, fNotV, fAndV, fOrV, fIf, fTup, fLst, gTupD, gLstD, fInt, oInt, fAbs, oAbs, fLen, oLen, fCall, argsOf, putB, outs, gIx, oIxD, gLt, tYesE, fIsi, oNotV, okV, wipeE, restE, W.isSh, W.owned, fMutN, mApp, R.els, D.its, iRange1, iRange2, iSeq, iEnumA, D.walk, fTuple, gTuple, fList, gList, fSorted, gSort, fMutP, qV, qC, slOf, gSl0, gSlLo, gSlHi, gSl2, fSl2, gCatL, gCatT, els2, fPure, frzE, List.map_cons, List.map_nil, fCallP, fCallKP, fMethP, W.clean, W.cleans, D.tdat, D.tdats, size_ok, size_ok1, List.getElem?_cons_zero, List.getElem?_cons_succ, List.getElem?_nil, List.set_cons_zero, List.set_cons_succ, List.length_cons, List.length_nil, List.replicate_succ, List.replicate_zero, List.cons_append, List.nil_append, List.append_nil, tdats_sD, cleans_sW, Tr.tdat]) fun x hx => by
    obtain ⟨k, _, rfl⟩ := List.mem_map.mp hx
    rw [overD_pD]
    have k0 : atI [D.int (k.1 : Int), D.int (k.2 : Int)] 0 = some (.int (k.1 : Int)) := rfl
    have k1 : atI [D.int (k.1 : Int), D.int (k.2 : Int)] 1 = some (.int (k.2 : Int)) := rfl
    have p0 : atI [D.int (p.1 : Int), D.int (p.2 : Int)] 0 = some (.int (p.1 : Int)) := rfl
    have p1 : atI [D.int (p.1 : Int), D.int (p.2 : Int)] 1 = some (.int (p.2 : Int)) := rfl
    refine ⟨[.sh g, .sh d, .sh (pD k)], [.sh g, .sh d, .sh (pD k)], by simp [fnP, sSeq, sIf, sAsg, sExpr, sRet, sRetN, sNil, sFor, sPar, sAug, sBk, sCt, gN, gsNil, gsCons, gTupT, gSetI, fC, fVar_eq, vW_sh, vW_lst, vW_ins, vW_dT, evs, fN, fU, gS, gS1, rds, rfz, rtk, R_d_val, R_d_pl, R.fz, R.tk, R_st_val, R_st_pl, R_st_plc, R.out, W.d, W.ds, En.get, En.put, W.get, W.put, oII, tt2, okMul, okDiv, okMod, okPow, oAddI, oSub, oMul, oDiv, oMod, oPow, oLtI, oLeI, oGtI, oGeI, oMax2, oMin2, oNeg, oAddS, oLtS, fAdd, fSub, fMul, fDiv, fMod, fPow, fNeg, fIx, gOr, gAdd, gAddI, fTb, fTr, truthD, fNotT, fAndT, fOrT, fNotV, fAndV, fOrV, fIf, fTup, fLst, gTupD, gLstD, fInt, oInt, fAbs, oAbs, fLen, oLen, fCall, argsOf, putB, outs, gIx, oIxD, gLt, tYesE, fIsi, oNotV, okV, wipeE, restE, W.isSh, W.owned, fMutN, mApp, R.els, D.its, iRange1, iRange2, iSeq, iEnumA, D.walk, fTuple, gTuple, fList, gList, fSorted, gSort, fMutP, qV, qC, slOf, gSl0, gSlLo, gSlHi, gSl2, fSl2, gCatL, gCatT, els2, fPure, frzE, List.map_cons, List.map_nil, fCallP, fCallKP, fMethP, W.clean, W.cleans, D.tdat, D.tdats, size_ok, size_ok1, List.getElem?_cons_zero, List.getElem?_cons_succ, List.getElem?_nil, List.set_cons_zero, List.set_cons_succ, List.length_cons, List.length_nil, List.replicate_succ, List.replicate_zero, List.cons_append, List.nil_append, List.append_nil, tdats_sD, cleans_sW, Tr.tdat], ?_, rfl, rfl, by simp [fnP, sSeq, sIf, sAsg, sExpr, sRet, sRetN, sNil, sFor, sPar, sAug, sBk, sCt, gN, gsNil, gsCons, gTupT, gSetI, fC, fVar_eq, vW_sh, vW_lst, vW_ins, vW_dT, evs, fN, fU, gS, gS1, rds, rfz, rtk, R_d_val, R_d_pl, R.fz, R.tk, R_st_val, R_st_pl, R_st_plc, R.out, W.d, W.ds, En.get, En.put, W.get, W.put, oII, tt2, okMul, okDiv, okMod, okPow, oAddI, oSub, oMul, oDiv, oMod, oPow, oLtI, oLeI, oGtI, oGeI, oMax2, oMin2, oNeg, oAddS, oLtS, fAdd, fSub, fMul, fDiv, fMod, fPow, fNeg, fIx, gOr, gAdd, gAddI, fTb, fTr, truthD, fNotT, fAndT, fOrT, fNotV, fAndV, fOrV, fIf, fTup, fLst, gTupD, gLstD, fInt, oInt, fAbs, oAbs, fLen, oLen, fCall, argsOf, putB, outs, gIx, oIxD, gLt, tYesE, fIsi, oNotV, okV, wipeE, restE, W.isSh, W.owned, fMutN, mApp, R.els, D.its, iRange1, iRange2, iSeq, iEnumA, D.walk, fTuple, gTuple, fList, gList, fSorted, gSort, fMutP, qV, qC, slOf, gSl0, gSlLo, gSlHi, gSl2, fSl2, gCatL, gCatT, els2, fPure, frzE, List.map_cons, List.map_nil, fCallP, fCallKP, fMethP, W.clean, W.cleans, D.tdat, D.tdats, size_ok, size_ok1, List.getElem?_cons_zero, List.getElem?_cons_succ, List.getElem?_nil, List.set_cons_zero, List.set_cons_succ, List.length_cons, List.length_nil, List.replicate_succ, List.replicate_zero, List.cons_append, List.nil_append, List.append_nil, tdats_sD, cleans_sW, Tr.tdat], [.sh g, .sh d, .sh (pD k)], .val (.sh (pD k)), [.sh g, .sh d, .sh (pD k)], by simp [pD, fnP, sSeq, sIf, sAsg, sExpr, sRet, sRetN, sNil, sFor, sPar, sAug, sBk, sCt, gN, gsNil, gsCons, gTupT, gSetI, fC, fVar_eq, vW_sh, vW_lst, vW_ins, vW_dT, evs, fN, fU, gS, gS1, rds, rfz, rtk, R_d_val, R_d_pl, R.fz, R.tk, R_st_val, R_st_pl, R_st_plc, R.out, W.d, W.ds, En.get, En.put, W.get, W.put, oII, tt2, okMul, okDiv, okMod, okPow, oAddI, oSub, oMul, oDiv, oMod, oPow, oLtI, oLeI, oGtI, oGeI, oMax2, oMin2, oNeg, oAddS, oLtS, fAdd, fSub, fMul, fDiv, fMod, fPow, fNeg, fIx, gOr, gAdd, gAddI, fTb, fTr, truthD, fNotT, fAndT, fOrT, fNotV, fAndV, fOrV, fIf, fTup, fLst, gTupD, gLstD, fInt, oInt, fAbs, oAbs, fLen, oLen, fCall, argsOf, putB, outs, gIx, oIxD, gLt, tYesE, fIsi, oNotV, okV, wipeE, restE, W.isSh, W.owned, fMutN, mApp, R.els, D.its, iRange1, iRange2, iSeq, iEnumA, D.walk, fTuple, gTuple, fList, gList, fSorted, gSort, fMutP, qV, qC, slOf, gSl0, gSlLo, gSlHi, gSl2, fSl2, gCatL, gCatT, els2, fPure, frzE, List.map_cons, List.map_nil, fCallP, fCallKP, fMethP, W.clean, W.cleans, D.tdat, D.tdats, size_ok, size_ok1, List.getElem?_cons_zero, List.getElem?_cons_succ, List.getElem?_nil, List.set_cons_zero, List.set_cons_succ, List.length_cons, List.length_nil, List.replicate_succ, List.replicate_zero, List.cons_append, List.nil_append, List.append_nil, tdats_sD, cleans_sW, Tr.tdat], by simp [fnP, sSeq, sIf, sAsg, sExpr, sRet, sRetN, sNil, sFor, sPar, sAug, sBk, sCt, gN, gsNil, gsCons, gTupT, gSetI, fC, fVar_eq, vW_sh, vW_lst, vW_ins, vW_dT, evs, fN, fU, gS, gS1, rds, rfz, rtk, R_d_val, R_d_pl, R.fz, R.tk, R_st_val, R_st_pl, R_st_plc, R.out, W.d, W.ds, En.get, En.put, W.get, W.put, oII, tt2, okMul, okDiv, okMod, okPow, oAddI, oSub, oMul, oDiv, oMod, oPow, oLtI, oLeI, oGtI, oGeI, oMax2, oMin2, oNeg, oAddS, oLtS, fAdd, fSub, fMul, fDiv, fMod, fPow, fNeg, fIx, gOr, gAdd, gAddI, fTb, fTr, truthD, fNotT, fAndT, fOrT, fNotV, fAndV, fOrV, fIf, fTup, fLst, gTupD, gLstD, fInt, oInt, fAbs, oAbs, fLen, oLen, fCall, argsOf, putB, outs, gIx, oIxD, gLt, tYesE, fIsi, oNotV, okV, wipeE, restE, W.isSh, W.owned, fMutN, mApp, R.els, D.its, iRange1, iRange2, iSeq, iEnumA, D.walk, fTuple, gTuple, fList, gList, fSorted, gSort, fMutP, qV, qC, slOf, gSl0, gSlLo, gSlHi, gSl2, fSl2, gCatL, gCatT, els2, fPure, frzE, List.map_cons, List.map_nil, fCallP, fCallKP, fMethP, W.clean, W.cleans, D.tdat, D.tdats, size_ok, size_ok1, List.getElem?_cons_zero, List.getElem?_cons_succ, List.getElem?_nil, List.set_cons_zero, List.set_cons_succ, List.length_cons, List.length_nil, List.replicate_succ, List.replicate_zero, List.cons_append, List.nil_append, List.append_nil, tdats_sD, cleans_sW, Tr.tdat], rfl, by simp [fnP, sSeq, sIf, sAsg, sExpr, sRet, sRetN, sNil, sFor, sPar, sAug, sBk, sCt, gN, gsNil, gsCons, gTupT, gSetI, fC, fVar_eq, vW_sh, vW_lst, vW_ins, vW_dT, evs, fN, fU, gS, gS1, rds, rfz, rtk, R_d_val, R_d_pl, R.fz, R.tk, R_st_val, R_st_pl, R_st_plc, R.out, W.d, W.ds, En.get, En.put, W.get, W.put, oII, tt2, okMul, okDiv, okMod, okPow, oAddI, oSub, oMul, oDiv, oMod, oPow, oLtI, oLeI, oGtI, oGeI, oMax2, oMin2, oNeg, oAddS, oLtS, fAdd, fSub, fMul, fDiv, fMod, fPow, fNeg, fIx, gOr, gAdd, gAddI, fTb, fTr, truthD, fNotT, fAndT, fOrT, fNotV, fAndV, fOrV, fIf, fTup, fLst, gTupD, gLstD, fInt, oInt, fAbs, oAbs, fLen, oLen, fCall, argsOf, putB, outs, gIx, oIxD, gLt, tYesE, fIsi, oNotV, okV, wipeE, restE, W.isSh, W.owned, fMutN, mApp, R.els, D.its, iRange1, iRange2, iSeq, iEnumA, D.walk, fTuple, gTuple, fList, gList, fSorted, gSort, fMutP, qV, qC, slOf, gSl0, gSlLo, gSlHi, gSl2, fSl2, gCatL, gCatT, els2, fPure, frzE, List.map_cons, List.map_nil, fCallP, fCallKP, fMethP, W.clean, W.cleans, D.tdat, D.tdats, size_ok, size_ok1, List.getElem?_cons_zero, List.getElem?_cons_succ, List.getElem?_nil, List.set_cons_zero, List.set_cons_succ, List.length_cons, List.length_nil, List.replicate_succ, List.replicate_zero, List.cons_append, List.nil_append, List.append_nil, tdats_sD, cleans_sW, Tr.tdat]⟩
    rcases hd with rfl | rfl
    · by_cases h1 : (k.1 : Int) ≤ (p.1 : Int) <;> simp [t_depth_of_1, pD, k0, k1, p0, p1, h1, fnP, sSeq, sIf, sAsg, sExpr, sRet, sRetN, sNil, sFor, sPar, sAug, sBk, sCt, gN, gsNil, gsCons, gTupT, gSetI, fC, fVar_eq, vW_sh, vW_lst, vW_ins, vW_dT, evs, fN, fU, gS, gS1, rds, rfz, rtk, R_d_val, R_d_pl, R.fz, R.tk, R_st_val, R_st_pl, R_st_plc, R.out, W.d, W.ds, En.get, En.put, W.get, W.put, oII, tt2, okMul, okDiv, okMod, okPow, oAddI, oSub, oMul, oDiv, oMod, oPow, oLtI, oLeI, oGtI, oGeI, oMax2, oMin2, oNeg, oAddS, oLtS, fAdd, fSub, fMul, fDiv, fMod, fPow, fNeg, fIx, gOr, gAdd, gAddI, fTb, fTr, truthD, fNotT, fAndT, fOrT, fNotV, fAndV, fOrV, fIf, fTup, fLst, gTupD, gLstD, fInt, oInt, fAbs, oAbs, fLen, oLen, fCall, argsOf, putB, outs, gIx, oIxD, gLt, tYesE, fIsi, oNotV, okV, wipeE, restE, W.isSh, W.owned, fMutN, mApp, R.els, D.its, iRange1, iRange2, iSeq, iEnumA, D.walk, fTuple, gTuple, fList, gList, fSorted, gSort, fMutP, qV, qC, slOf, gSl0, gSlLo, gSlHi, gSl2, fSl2, gCatL, gCatT, els2, fPure, frzE, List.map_cons, List.map_nil, fCallP, fCallKP, fMethP, W.clean, W.cleans, D.tdat, D.tdats, size_ok, size_ok1, List.getElem?_cons_zero, List.getElem?_cons_succ, List.getElem?_nil, List.set_cons_zero, List.set_cons_succ, List.length_cons, List.length_nil, List.replicate_succ, List.replicate_zero, List.cons_append, List.nil_append, List.append_nil, tdats_sD, cleans_sW, Tr.tdat]
    · by_cases h1 : (k.1 : Int) ≤ (p.1 : Int) <;> simp [t_depth_of_1, pD, k0, k1, p0, p1, h1, fnP, sSeq, sIf, sAsg, sExpr, sRet, sRetN, sNil, sFor, sPar, sAug, sBk, sCt, gN, gsNil, gsCons, gTupT, gSetI, fC, fVar_eq, vW_sh, vW_lst, vW_ins, vW_dT, evs, fN, fU, gS, gS1, rds, rfz, rtk, R_d_val, R_d_pl, R.fz, R.tk, R_st_val, R_st_pl, R_st_plc, R.out, W.d, W.ds, En.get, En.put, W.get, W.put, oII, tt2, okMul, okDiv, okMod, okPow, oAddI, oSub, oMul, oDiv, oMod, oPow, oLtI, oLeI, oGtI, oGeI, oMax2, oMin2, oNeg, oAddS, oLtS, fAdd, fSub, fMul, fDiv, fMod, fPow, fNeg, fIx, gOr, gAdd, gAddI, fTb, fTr, truthD, fNotT, fAndT, fOrT, fNotV, fAndV, fOrV, fIf, fTup, fLst, gTupD, gLstD, fInt, oInt, fAbs, oAbs, fLen, oLen, fCall, argsOf, putB, outs, gIx, oIxD, gLt, tYesE, fIsi, oNotV, okV, wipeE, restE, W.isSh, W.owned, fMutN, mApp, R.els, D.its, iRange1, iRange2, iSeq, iEnumA, D.walk, fTuple, gTuple, fList, gList, fSorted, gSort, fMutP, qV, qC, slOf, gSl0, gSlLo, gSlHi, gSl2, fSl2, gCatL, gCatT, els2, fPure, frzE, List.map_cons, List.map_nil, fCallP, fCallKP, fMethP, W.clean, W.cleans, D.tdat, D.tdats, size_ok, size_ok1, List.getElem?_cons_zero, List.getElem?_cons_succ, List.getElem?_nil, List.set_cons_zero, List.set_cons_succ, List.length_cons, List.length_nil, List.replicate_succ, List.replicate_zero, List.cons_append, List.nil_append, List.append_nil, tdats_sD, cleans_sW, Tr.tdat]
  have e := t.deep_knots p
  have cl := cleans_pW t.knots
  refine fnP_ret (n := 3) (np := 2) (b := b_depth_of) rfl (en' := [.sh g, .sh d, .sh .any]) ?_
  unfold b_depth_of
  generalize (t.knots.map pD).filter (overD p) = fs at c e
  simp [ni, td, cl, fComp, pW_ds, c, dsh_ds, e, hs, fnP, sSeq, sIf, sAsg, sExpr, sRet, sRetN, sNil, sFor, sPar, sAug, sBk, sCt, gN, gsNil, gsCons, gTupT, gSetI, fC, fVar_eq, vW_sh, vW_lst, vW_ins, vW_dT, evs, fN, fU, gS, gS1, rds, rfz, rtk, R_d_val, R_d_pl, R.fz, R.tk, R_st_val, R_st_pl, R_st_plc, R.out, W.d, W.ds, En.get, En.put, W.get, W.put, oII, tt2, okMul, okDiv, okMod, okPow, oAddI, oSub, oMul, oDiv, oMod, oPow, oLtI, oLeI, oGtI, oGeI, oMax2, oMin2, oNeg, oAddS, oLtS, fAdd, fSub, fMul, fDiv, fMod, fPow, fNeg, fIx, gOr, gAdd, gAddI, fTb, fTr, truthD, fNotT, fAndT, fOrT, fNotV, fAndV, fOrV, fIf, fTup, fLst, gTupD, gLstD, fInt, oInt, fAbs, oAbs, fLen, oLen, fCall, argsOf, putB, outs, gIx, oIxD, gLt, tYesE, fIsi, oNotV, okV, wipeE, restE, W.isSh, W.owned, fMutN, mApp, R.els, D.its, iRange1, iRange2, iSeq, iEnumA, D.walk, fTuple, gTuple, fList, gList, fSorted, gSort, fMutP, qV, qC, slOf, gSl0, gSlLo, gSlHi, gSl2, fSl2, gCatL, gCatT, els2, fPure, frzE, List.map_cons, List.map_nil, fCallP, fCallKP, fMethP, W.clean, W.cleans, D.tdat, D.tdats, size_ok, size_ok1, List.getElem?_cons_zero, List.getElem?_cons_succ, List.getElem?_nil, List.set_cons_zero, List.set_cons_succ, List.length_cons, List.length_nil, List.replicate_succ, List.replicate_zero, List.cons_append, List.nil_append, List.append_nil, tdats_sD, cleans_sW, Tr.tdat]
theorem law_deep_ok {t : Tr} {p : Nat × Nat} (h : t.leaves.length ≤ 30) : m_law_deep [.sh t.D, .sh (pD p)] = some (.sh (.int ((t.deep p : Int) - 1)), [.sh t.D, .sh (pD p)]) := by
  have td := t.D_ne
  have sp : m_law_spans 40 [.sh t.D, .sh (.int 0)] = _ := spans_ok (n := 40) t 0 (by have := t.dep_lt; omega) h
  have dl := t.deep_le p
  have pl := t.prs_len 0
  have hs : t.deep p ≤ sizeLine := size_le (by omega)
  have c := compD_filter (vs := [2]) (g := gN 2) (t := t_law_deep_1) (f := fVar 2) (en := [.sh t.D, .sh (pD p), .sh .any]) (overD p) W.sh ((t.prs 0).map pD) [] (by simp; omega) (by simp [fnP, sSeq, sIf, sAsg, sExpr, sRet, sRetN, sNil, sFor, sPar, sAug, sBk, sCt, gN, gsNil, gsCons, gTupT, gSetI, fC, fVar_eq, vW_sh, vW_lst, vW_ins, vW_dT, evs, fN, fU, gS, gS1, rds, rfz, rtk, R_d_val, R_d_pl, R.fz, R.tk, R_st_val, R_st_pl, R_st_plc, R.out, W.d, W.ds, En.get, En.put, W.get, W.put, oII, tt2, okMul, okDiv, okMod, okPow, oAddI, oSub, oMul, oDiv, oMod, oPow, oLtI, oLeI, oGtI, oGeI, oMax2, oMin2, oNeg, oAddS, oLtS, fAdd, fSub, fMul, fDiv, fMod, fPow, fNeg, fIx, gOr, gAdd, gAddI, fTb, fTr, truthD, fNotT, fAndT, fOrT, fNotV, fAndV, fOrV, fIf, fTup, fLst, gTupD, gLstD, fInt, oInt, fAbs, oAbs, fLen, oLen, fCall, argsOf, putB, outs, gIx, oIxD, gLt, tYesE, fIsi, oNotV, okV, wipeE, restE, W.isSh, W.owned, fMutN, mApp, R.els, D.its, iRange1, iRange2, iSeq, iEnumA, D.walk, fTuple, gTuple, fList, gList, fSorted, gSort, fMutP, qV, qC, slOf, gSl0, gSlLo, gSlHi, gSl2, fSl2, gCatL, gCatT, els2, fPure, frzE, List.map_cons, List.map_nil, fCallP, fCallKP, fMethP, W.clean, W.cleans, D.tdat, D.tdats, size_ok, size_ok1, List.getElem?_cons_zero, List.getElem?_cons_succ, List.getElem?_nil, List.set_cons_zero, List.set_cons_succ, List.length_cons, List.length_nil, List.replicate_succ, List.replicate_zero, List.cons_append, List.nil_append, List.append_nil, tdats_sD, cleans_sW, Tr.tdat]) fun x hx => by
    obtain ⟨k, _, rfl⟩ := List.mem_map.mp hx
    rw [overD_pD]
    have k0 : atI [D.int (k.1 : Int), D.int (k.2 : Int)] 0 = some (.int (k.1 : Int)) := rfl
    have k1 : atI [D.int (k.1 : Int), D.int (k.2 : Int)] 1 = some (.int (k.2 : Int)) := rfl
    have p0 : atI [D.int (p.1 : Int), D.int (p.2 : Int)] 0 = some (.int (p.1 : Int)) := rfl
    have p1 : atI [D.int (p.1 : Int), D.int (p.2 : Int)] 1 = some (.int (p.2 : Int)) := rfl
    refine ⟨[.sh t.D, .sh (pD p), .sh (pD k)], [.sh t.D, .sh (pD p), .sh (pD k)], by simp [fnP, sSeq, sIf, sAsg, sExpr, sRet, sRetN, sNil, sFor, sPar, sAug, sBk, sCt, gN, gsNil, gsCons, gTupT, gSetI, fC, fVar_eq, vW_sh, vW_lst, vW_ins, vW_dT, evs, fN, fU, gS, gS1, rds, rfz, rtk, R_d_val, R_d_pl, R.fz, R.tk, R_st_val, R_st_pl, R_st_plc, R.out, W.d, W.ds, En.get, En.put, W.get, W.put, oII, tt2, okMul, okDiv, okMod, okPow, oAddI, oSub, oMul, oDiv, oMod, oPow, oLtI, oLeI, oGtI, oGeI, oMax2, oMin2, oNeg, oAddS, oLtS, fAdd, fSub, fMul, fDiv, fMod, fPow, fNeg, fIx, gOr, gAdd, gAddI, fTb, fTr, truthD, fNotT, fAndT, fOrT, fNotV, fAndV, fOrV, fIf, fTup, fLst, gTupD, gLstD, fInt, oInt, fAbs, oAbs, fLen, oLen, fCall, argsOf, putB, outs, gIx, oIxD, gLt, tYesE, fIsi, oNotV, okV, wipeE, restE, W.isSh, W.owned, fMutN, mApp, R.els, D.its, iRange1, iRange2, iSeq, iEnumA, D.walk, fTuple, gTuple, fList, gList, fSorted, gSort, fMutP, qV, qC, slOf, gSl0, gSlLo, gSlHi, gSl2, fSl2, gCatL, gCatT, els2, fPure, frzE, List.map_cons, List.map_nil, fCallP, fCallKP, fMethP, W.clean, W.cleans, D.tdat, D.tdats, size_ok, size_ok1, List.getElem?_cons_zero, List.getElem?_cons_succ, List.getElem?_nil, List.set_cons_zero, List.set_cons_succ, List.length_cons, List.length_nil, List.replicate_succ, List.replicate_zero, List.cons_append, List.nil_append, List.append_nil, tdats_sD, cleans_sW, Tr.tdat], ?_, rfl, rfl, by simp [fnP, sSeq, sIf, sAsg, sExpr, sRet, sRetN, sNil, sFor, sPar, sAug, sBk, sCt, gN, gsNil, gsCons, gTupT, gSetI, fC, fVar_eq, vW_sh, vW_lst, vW_ins, vW_dT, evs, fN, fU, gS, gS1, rds, rfz, rtk, R_d_val, R_d_pl, R.fz, R.tk, R_st_val, R_st_pl, R_st_plc, R.out, W.d, W.ds, En.get, En.put, W.get, W.put, oII, tt2, okMul, okDiv, okMod, okPow, oAddI, oSub, oMul, oDiv, oMod, oPow, oLtI, oLeI, oGtI, oGeI, oMax2, oMin2, oNeg, oAddS, oLtS, fAdd, fSub, fMul, fDiv, fMod, fPow, fNeg, fIx, gOr, gAdd, gAddI, fTb, fTr, truthD, fNotT, fAndT, fOrT, fNotV, fAndV, fOrV, fIf, fTup, fLst, gTupD, gLstD, fInt, oInt, fAbs, oAbs, fLen, oLen, fCall, argsOf, putB, outs, gIx, oIxD, gLt, tYesE, fIsi, oNotV, okV, wipeE, restE, W.isSh, W.owned, fMutN, mApp, R.els, D.its, iRange1, iRange2, iSeq, iEnumA, D.walk, fTuple, gTuple, fList, gList, fSorted, gSort, fMutP, qV, qC, slOf, gSl0, gSlLo, gSlHi, gSl2, fSl2, gCatL, gCatT, els2, fPure, frzE, List.map_cons, List.map_nil, fCallP, fCallKP, fMethP, W.clean, W.cleans, D.tdat, D.tdats, size_ok, size_ok1, List.getElem?_cons_zero, List.getElem?_cons_succ, List.getElem?_nil, List.set_cons_zero, List.set_cons_succ, List.length_cons, List.length_nil, List.replicate_succ, List.replicate_zero, List.cons_append, List.nil_append, List.append_nil, tdats_sD, cleans_sW, Tr.tdat], [.sh t.D, .sh (pD p), .sh (pD k)], .val (.sh (pD k)), [.sh t.D, .sh (pD p), .sh (pD k)], by simp [pD, fnP, sSeq, sIf, sAsg, sExpr, sRet, sRetN, sNil, sFor, sPar, sAug, sBk, sCt, gN, gsNil, gsCons, gTupT, gSetI, fC, fVar_eq, vW_sh, vW_lst, vW_ins, vW_dT, evs, fN, fU, gS, gS1, rds, rfz, rtk, R_d_val, R_d_pl, R.fz, R.tk, R_st_val, R_st_pl, R_st_plc, R.out, W.d, W.ds, En.get, En.put, W.get, W.put, oII, tt2, okMul, okDiv, okMod, okPow, oAddI, oSub, oMul, oDiv, oMod, oPow, oLtI, oLeI, oGtI, oGeI, oMax2, oMin2, oNeg, oAddS, oLtS, fAdd, fSub, fMul, fDiv, fMod, fPow, fNeg, fIx, gOr, gAdd, gAddI, fTb, fTr, truthD, fNotT, fAndT, fOrT, fNotV, fAndV, fOrV, fIf, fTup, fLst, gTupD, gLstD, fInt, oInt, fAbs, oAbs, fLen, oLen, fCall, argsOf, putB, outs, gIx, oIxD, gLt, tYesE, fIsi, oNotV, okV, wipeE, restE, W.isSh, W.owned, fMutN, mApp, R.els, D.its, iRange1, iRange2, iSeq, iEnumA, D.walk, fTuple, gTuple, fList, gList, fSorted, gSort, fMutP, qV, qC, slOf, gSl0, gSlLo, gSlHi, gSl2, fSl2, gCatL, gCatT, els2, fPure, frzE, List.map_cons, List.map_nil, fCallP, fCallKP, fMethP, W.clean, W.cleans, D.tdat, D.tdats, size_ok, size_ok1, List.getElem?_cons_zero, List.getElem?_cons_succ, List.getElem?_nil, List.set_cons_zero, List.set_cons_succ, List.length_cons, List.length_nil, List.replicate_succ, List.replicate_zero, List.cons_append, List.nil_append, List.append_nil, tdats_sD, cleans_sW, Tr.tdat], by simp [fnP, sSeq, sIf, sAsg, sExpr, sRet, sRetN, sNil, sFor, sPar, sAug, sBk, sCt, gN, gsNil, gsCons, gTupT, gSetI, fC, fVar_eq, vW_sh, vW_lst, vW_ins, vW_dT, evs, fN, fU, gS, gS1, rds, rfz, rtk, R_d_val, R_d_pl, R.fz, R.tk, R_st_val, R_st_pl, R_st_plc, R.out, W.d, W.ds, En.get, En.put, W.get, W.put, oII, tt2, okMul, okDiv, okMod, okPow, oAddI, oSub, oMul, oDiv, oMod, oPow, oLtI, oLeI, oGtI, oGeI, oMax2, oMin2, oNeg, oAddS, oLtS, fAdd, fSub, fMul, fDiv, fMod, fPow, fNeg, fIx, gOr, gAdd, gAddI, fTb, fTr, truthD, fNotT, fAndT, fOrT, fNotV, fAndV, fOrV, fIf, fTup, fLst, gTupD, gLstD, fInt, oInt, fAbs, oAbs, fLen, oLen, fCall, argsOf, putB, outs, gIx, oIxD, gLt, tYesE, fIsi, oNotV, okV, wipeE, restE, W.isSh, W.owned, fMutN, mApp, R.els, D.its, iRange1, iRange2, iSeq, iEnumA, D.walk, fTuple, gTuple, fList, gList, fSorted, gSort, fMutP, qV, qC, slOf, gSl0, gSlLo, gSlHi, gSl2, fSl2, gCatL, gCatT, els2, fPure, frzE, List.map_cons, List.map_nil, fCallP, fCallKP, fMethP, W.clean, W.cleans, D.tdat, D.tdats, size_ok, size_ok1, List.getElem?_cons_zero, List.getElem?_cons_succ, List.getElem?_nil, List.set_cons_zero, List.set_cons_succ, List.length_cons, List.length_nil, List.replicate_succ, List.replicate_zero, List.cons_append, List.nil_append, List.append_nil, tdats_sD, cleans_sW, Tr.tdat], rfl, by simp [fnP, sSeq, sIf, sAsg, sExpr, sRet, sRetN, sNil, sFor, sPar, sAug, sBk, sCt, gN, gsNil, gsCons, gTupT, gSetI, fC, fVar_eq, vW_sh, vW_lst, vW_ins, vW_dT, evs, fN, fU, gS, gS1, rds, rfz, rtk, R_d_val, R_d_pl, R.fz, R.tk, R_st_val, R_st_pl, R_st_plc, R.out, W.d, W.ds, En.get, En.put, W.get, W.put, oII, tt2, okMul, okDiv, okMod, okPow, oAddI, oSub, oMul, oDiv, oMod, oPow, oLtI, oLeI, oGtI, oGeI, oMax2, oMin2, oNeg, oAddS, oLtS, fAdd, fSub, fMul, fDiv, fMod, fPow, fNeg, fIx, gOr, gAdd, gAddI, fTb, fTr, truthD, fNotT, fAndT, fOrT, fNotV, fAndV, fOrV, fIf, fTup, fLst, gTupD, gLstD, fInt, oInt, fAbs, oAbs, fLen, oLen, fCall, argsOf, putB, outs, gIx, oIxD, gLt, tYesE, fIsi, oNotV, okV, wipeE, restE, W.isSh, W.owned, fMutN, mApp, R.els, D.its, iRange1, iRange2, iSeq, iEnumA, D.walk, fTuple, gTuple, fList, gList, fSorted, gSort, fMutP, qV, qC, slOf, gSl0, gSlLo, gSlHi, gSl2, fSl2, gCatL, gCatT, els2, fPure, frzE, List.map_cons, List.map_nil, fCallP, fCallKP, fMethP, W.clean, W.cleans, D.tdat, D.tdats, size_ok, size_ok1, List.getElem?_cons_zero, List.getElem?_cons_succ, List.getElem?_nil, List.set_cons_zero, List.set_cons_succ, List.length_cons, List.length_nil, List.replicate_succ, List.replicate_zero, List.cons_append, List.nil_append, List.append_nil, tdats_sD, cleans_sW, Tr.tdat]⟩
    by_cases h1 : (k.1 : Int) ≤ (p.1 : Int) <;> simp [t_law_deep_1, pD, k0, k1, p0, p1, h1, fnP, sSeq, sIf, sAsg, sExpr, sRet, sRetN, sNil, sFor, sPar, sAug, sBk, sCt, gN, gsNil, gsCons, gTupT, gSetI, fC, fVar_eq, vW_sh, vW_lst, vW_ins, vW_dT, evs, fN, fU, gS, gS1, rds, rfz, rtk, R_d_val, R_d_pl, R.fz, R.tk, R_st_val, R_st_pl, R_st_plc, R.out, W.d, W.ds, En.get, En.put, W.get, W.put, oII, tt2, okMul, okDiv, okMod, okPow, oAddI, oSub, oMul, oDiv, oMod, oPow, oLtI, oLeI, oGtI, oGeI, oMax2, oMin2, oNeg, oAddS, oLtS, fAdd, fSub, fMul, fDiv, fMod, fPow, fNeg, fIx, gOr, gAdd, gAddI, fTb, fTr, truthD, fNotT, fAndT, fOrT, fNotV, fAndV, fOrV, fIf, fTup, fLst, gTupD, gLstD, fInt, oInt, fAbs, oAbs, fLen, oLen, fCall, argsOf, putB, outs, gIx, oIxD, gLt, tYesE, fIsi, oNotV, okV, wipeE, restE, W.isSh, W.owned, fMutN, mApp, R.els, D.its, iRange1, iRange2, iSeq, iEnumA, D.walk, fTuple, gTuple, fList, gList, fSorted, gSort, fMutP, qV, qC, slOf, gSl0, gSlLo, gSlHi, gSl2, fSl2, gCatL, gCatT, els2, fPure, frzE, List.map_cons, List.map_nil, fCallP, fCallKP, fMethP, W.clean, W.cleans, D.tdat, D.tdats, size_ok, size_ok1, List.getElem?_cons_zero, List.getElem?_cons_succ, List.getElem?_nil, List.set_cons_zero, List.set_cons_succ, List.length_cons, List.length_nil, List.replicate_succ, List.replicate_zero, List.cons_append, List.nil_append, List.append_nil, tdats_sD, cleans_sW, Tr.tdat]
  have e : (((t.prs 0).map pD).filter (overD p)).length = t.deep p := rfl
  refine fnP_ret (n := 3) (np := 2) (b := b_law_deep) rfl (en' := [.sh t.D, .sh (pD p), .sh .any]) ?_
  unfold b_law_deep
  have mt := map_tkeyD (t.prs 0)
  generalize (t.prs 0).map pD = as at c e mt
  generalize (t.prs 0).map pK = ks at sp mt
  generalize as.filter (overD p) = fs at c e
  simp [sp, td, iKeys, R.lock, mt, fComp, c, dsh_ds, e, hs, fnP, sSeq, sIf, sAsg, sExpr, sRet, sRetN, sNil, sFor, sPar, sAug, sBk, sCt, gN, gsNil, gsCons, gTupT, gSetI, fC, fVar_eq, vW_sh, vW_lst, vW_ins, vW_dT, evs, fN, fU, gS, gS1, rds, rfz, rtk, R_d_val, R_d_pl, R.fz, R.tk, R_st_val, R_st_pl, R_st_plc, R.out, W.d, W.ds, En.get, En.put, W.get, W.put, oII, tt2, okMul, okDiv, okMod, okPow, oAddI, oSub, oMul, oDiv, oMod, oPow, oLtI, oLeI, oGtI, oGeI, oMax2, oMin2, oNeg, oAddS, oLtS, fAdd, fSub, fMul, fDiv, fMod, fPow, fNeg, fIx, gOr, gAdd, gAddI, fTb, fTr, truthD, fNotT, fAndT, fOrT, fNotV, fAndV, fOrV, fIf, fTup, fLst, gTupD, gLstD, fInt, oInt, fAbs, oAbs, fLen, oLen, fCall, argsOf, putB, outs, gIx, oIxD, gLt, tYesE, fIsi, oNotV, okV, wipeE, restE, W.isSh, W.owned, fMutN, mApp, R.els, D.its, iRange1, iRange2, iSeq, iEnumA, D.walk, fTuple, gTuple, fList, gList, fSorted, gSort, fMutP, qV, qC, slOf, gSl0, gSlLo, gSlHi, gSl2, fSl2, gCatL, gCatT, els2, fPure, frzE, List.map_cons, List.map_nil, fCallP, fCallKP, fMethP, W.clean, W.cleans, D.tdat, D.tdats, size_ok, size_ok1, List.getElem?_cons_zero, List.getElem?_cons_succ, List.getElem?_nil, List.set_cons_zero, List.set_cons_succ, List.length_cons, List.length_nil, List.replicate_succ, List.replicate_zero, List.cons_append, List.nil_append, List.append_nil, tdats_sD, cleans_sW, Tr.tdat]
/-! pairs of a node and a node under it, or nothing -/
def qD : Option (Nat × Nat) → D
  | none => .tup []
  | some q => pD q
def encQ : Option (Nat × Nat) → PyData
  | none => .tuple []
  | some q => encP q
abbrev Pc := (Nat × Nat) × Option (Nat × Nat)
def pcD (x : Pc) : D := .tup [pD x.1, qD x.2]
def encPc (x : Pc) : PyData := .tuple [encP x.1, encQ x.2]
theorem pcD_py (x : Pc) : (pcD x).py = some (encPc x) := by
  obtain ⟨p, _ | q⟩ := x <;> rfl
theorem alikePc (x y : Pc) : PySem.W.alike (encPc x) (encPc y) = true := by
  obtain ⟨p, _ | q⟩ := x <;> obtain ⟨p', _ | q'⟩ := y <;> simp [encPc, encQ, encP, PySem.W.alike, PySem.W.alikeAll]
theorem depthPc (x : Pc) : (encPc x).depth ≤ 60 := by
  obtain ⟨p, _ | q⟩ := x <;> simp [encPc, encQ, encP, PyData.depth, PyData.depthAll]
theorem oSortX_pcs {xs : List Pc} (h : xs.length ≤ 1000000) : oSortX (xs.map pcD) = some ((srt (PySem.W.dataLe false encPc) xs).map pcD) :=
  oSortX_map pcD encPc (bs := xs) (fun x _ => pcD_py x) (fun x _ y _ => alikePc x y) (.inl fun x _ => rfl) (fun x _ => depthPc x) h
def pcW (xs : List Pc) : List W := (xs.map pcD).map W.sh
theorem pcW_app (a b : List Pc) : pcW (a ++ b) = pcW a ++ pcW b := by simp [pcW]
theorem pcW_len (a : List Pc) : (pcW a).length = a.length := by simp [pcW]
theorem pcW_ds (a : List Pc) : W.ds (pcW a) = a.map pcD := dsh_ds _
theorem pcW_mk (a : List Pc) : (a.map pcD).map W.sh = pcW a := rfl
theorem shs_pcW (a : List Pc) : shs (pcW a) = pcW a := shs_sh _
theorem cleans_pcW (a : List Pc) : W.cleans (pcW a) = true := cleans_all fun w hw => by
  obtain ⟨x, hx, rfl⟩ := List.mem_map.mp hw
  obtain ⟨⟨p, _ | q⟩, hy, rfl⟩ := List.mem_map.mp hx <;> rfl
def Tr.pcsAt (t : Tr) (p : Nat × Nat) : List Pc := ((t.belows p).filter fun q => decide (q ≠ p)).map fun q => (p, some q)
def Tr.pcsRaw (t : Tr) : List Pc := ((0, t.leaves.length), none) :: (t.prs 0).flatMap t.pcsAt
def Tr.pcs (t : Tr) : List Pc := srt (PySem.W.dataLe false encPc) t.pcsRaw
theorem Tr.pcsAt_len {t : Tr} {p : Nat × Nat} (h : p ∈ t.prs 0) : (t.pcsAt p).length ≤ 2 * t.leaves.length := by
  have h1 := List.length_filter_le (fun q => decide (q ≠ p)) (t.belows p)
  have h2 := t.below_len p
  have h3 := t.prs_mem 0 p h
  have h4 : wt p ≤ 2 * t.leaves.length := by unfold wt; omega
  unfold Tr.pcsAt
  rw [List.length_map]
  omega
theorem flat_len {t : Tr} : ∀ (ps : List (Nat × Nat)), (∀ p ∈ ps, p ∈ t.prs 0) → (ps.flatMap t.pcsAt).length ≤ ps.length * (2 * t.leaves.length)
  | [], _ => by simp
  | p :: ps, h => by
    have h1 := t.pcsAt_len (h p (by simp))
    have h2 := flat_len (t := t) ps fun q hq => h q (by simp [hq])
    rw [List.flatMap_cons, List.length_append, List.length_cons, Nat.succ_mul]
    omega
theorem Tr.pcsRaw_len {t : Tr} (h : t.leaves.length ≤ 30) : t.pcsRaw.length ≤ 4000 := by
  have h1 := flat_len (t := t) (t.prs 0) fun p hp => hp
  have h2 := t.prs_len 0
  have h3 : (t.prs 0).length * (2 * t.leaves.length) ≤ 60 * 60 := Nat.mul_le_mul (by omega) (by omega)
  unfold Tr.pcsRaw
  rw [List.length_cons]
  omega
theorem dfs_mem {t : Tr} : ∀ (n : Nat) (f w : List (Nat × Nat)), (∀ q ∈ f, q ∈ t.prs 0) → (∀ q ∈ w, q ∈ t.prs 0) → ∀ q ∈ dfs (t.side 0) n f w, q ∈ t.prs 0
  | 0, f, w, hf, _, q, hq => hf q (by simpa only [dfs] using hq)
  | n + 1, f, w, hf, hw, q, hq => by
    unfold dfs at hq
    split at hq
    · exact hf q hq
    · rename_i h e
      have hh : h ∈ t.prs 0 := hw h (List.mem_of_getLast? e)
      obtain ⟨_, s2, _⟩ := wts_side hh
      refine dfs_mem n _ _ (fun x hx => ?_) (fun x hx => ?_) q hq
      · rcases List.mem_append.mp hx with z | z
        · exact hf x z
        · simp only [List.mem_singleton] at z; exact z ▸ hh
      · rcases List.mem_append.mp hx with z | z
        · exact hw x (List.dropLast_subset _ z)
        · exact s2 x z
theorem Tr.belows_mem {t : Tr} {p q : Nat × Nat} (hp : p ∈ t.prs 0) (hq : q ∈ t.belows p) : q ∈ t.prs 0 := by
  unfold Tr.belows at hq
  refine dfs_mem (wt p) [] [p] (by simp) (by simpa using hp) q ?_
  exact (srt_perm leP _).mem_iff.mp hq
theorem Tr.pcs_mem {t : Tr} {x : Pc} (h : x ∈ t.pcs) : x.2 = none ∨ ∃ q, x.2 = some q ∧ q ∈ t.prs 0 ∧ x.1 ∈ t.prs 0 := by
  have h := (srt_perm _ _).mem_iff.mp h
  rcases List.mem_cons.mp h with rfl | h
  · exact .inl rfl
  · obtain ⟨p, hp, hx⟩ := List.mem_flatMap.mp h
    obtain ⟨q, hq, rfl⟩ := List.mem_map.mp hx
    exact .inr ⟨q, rfl, t.belows_mem hp (List.mem_filter.mp hq).1, hp⟩
theorem Tr.pcs_len {t : Tr} (h : t.leaves.length ≤ 30) : t.pcs.length ≤ 4000 := by
  unfold Tr.pcs
  rw [(srt_perm _ _).length_eq]
  exact t.pcsRaw_len h
theorem eqP (p q : Nat × Nat) : eqD (pD q) (pD p) = some (decide (q = p)) := by
  obtain ⟨a, b⟩ := p
  obtain ⟨c, d⟩ := q
  simp [eqD, pD, D.py, D.pys, SeqAt.shaped, PyData.canLay0, PyData.canLayAll0, PyData.depth, PyData.depthAll, PyData.eqv, PyData.eqvAll, Prod.ext_iff]
  have z : ∀ a c : Nat, ((c : Int) == (a : Int)) = decide (c = a) := fun a c => by
    rw [Bool.eq_iff_iff, beq_iff_eq, decide_eq_true_iff]
    omega
  rw [z, z]
theorem pieces_loop {t : Tr} {x0 x2 : W} (hl : t.leaves.length ≤ 30) : ∀ (ps : List (Nat × Nat)) (acc : List Pc) (x4 : W), (∀ p ∈ ps, p ∈ t.prs 0) → acc.length + ps.length * (2 * t.leaves.length) ≤ 10000 →
    ∃ y4, forD (gN 4) l_law_pieces_1 (ps.map pD) [x0, .sh (.lT ((t.prs 0).map pK) (t.lvals 0)), x2, .lst (pcW acc), x4, .sh .any] = some ([x0, .sh (.lT ((t.prs 0).map pK) (t.lvals 0)), x2, .lst (pcW (acc ++ ps.flatMap t.pcsAt)), y4, .sh .any], .nx)
  | [], acc, x4, _, _ => ⟨x4, by simp [forD]⟩
  | p :: ps, acc, x4, h, hs => by
    have hp := h p (by simp)
    have l1 := t.pcsAt_len hp
    rw [List.length_cons, Nat.succ_mul] at hs
    obtain ⟨y4, ih⟩ := pieces_loop (x0 := x0) (x2 := x2) hl ps (acc ++ t.pcsAt p) (.sh (pD p)) (fun q hq => h q (by simp [hq])) (by rw [List.length_append]; omega)
    refine ⟨y4, forD_nx (en1 := [x0, .sh (.lT ((t.prs 0).map pK) (t.lvals 0)), x2, .lst (pcW acc), .sh (pD p), .sh .any]) (en2 := [x0, .sh (.lT ((t.prs 0).map pK) (t.lvals 0)), x2, .lst (pcW (acc ++ t.pcsAt p)), .sh (pD p), .sh .any]) (by simp [gN]) ?_ (by rw [ih, List.flatMap_cons, List.append_assoc])⟩
    have un := under_okG (.inr rfl) hp hl
    have bl := t.below_len p
    have pm := t.prs_mem 0 p hp
    have w4 : wt p ≤ 60 := by unfold wt; omega
    have pn := pD_ne p
    have lt_ne : D.lT ((t.prs 0).map pK) (t.lvals 0) ≠ .any := by simp
    have hsz : acc.length + (t.pcsAt p).length ≤ sizeLine := size_le (by omega)
    have cl := cleans_pW (t.belows p)
    have c := compD_filter (vs := [5]) (g := gN 5) (t := t_law_pieces_1) (f := e_law_pieces_1) (en := [x0, .sh (.lT ((t.prs 0).map pK) (t.lvals 0)), x2, .lst (pcW acc), .sh (pD p), .sh .any]) (fun d => !(eqD d (pD p) == some true)) (fun d => .sh (.tup [pD p, d])) ((t.belows p).map pD) [] (by simp; omega) (by simp [fnP, sSeq, sIf, sAsg, sExpr, sRet, sRetN, sNil, sFor, sPar, sAug, sBk, sCt, gN, gsNil, gsCons, gTupT, gSetI, fC, fVar_eq, vW_sh, vW_lst, vW_ins, vW_dT, evs, fN, fU, gS, gS1, rds, rfz, rtk, R_d_val, R_d_pl, R.fz, R.tk, R_st_val, R_st_pl, R_st_plc, R.out, W.d, W.ds, En.get, En.put, W.get, W.put, oII, tt2, okMul, okDiv, okMod, okPow, oAddI, oSub, oMul, oDiv, oMod, oPow, oLtI, oLeI, oGtI, oGeI, oMax2, oMin2, oNeg, oAddS, oLtS, fAdd, fSub, fMul, fDiv, fMod, fPow, fNeg, fIx, gOr, gAdd, gAddI, fTb, fTr, truthD, fNotT, fAndT, fOrT, fNotV, fAndV, fOrV, fIf, fTup, fLst, gTupD, gLstD, fInt, oInt, fAbs, oAbs, fLen, oLen, fCall, argsOf, putB, outs, gIx, oIxD, gLt, tYesE, fIsi, oNotV, okV, wipeE, restE, W.isSh, W.owned, fMutN, mApp, R.els, D.its, iRange1, iRange2, iSeq, iEnumA, D.walk, fTuple, gTuple, fList, gList, fSorted, gSort, fMutP, qV, qC, slOf, gSl0, gSlLo, gSlHi, gSl2, fSl2, gCatL, gCatT, els2, fPure, frzE, List.map_cons, List.map_nil, fCallP, fCallKP, fMethP, W.clean, W.cleans, D.tdat, D.tdats, size_ok, size_ok1, List.getElem?_cons_zero, List.getElem?_cons_succ, List.getElem?_nil, List.set_cons_zero, List.set_cons_succ, List.length_cons, List.length_nil, List.replicate_succ, List.replicate_zero, List.cons_append, List.nil_append, List.append_nil, tdats_sD, cleans_sW, Tr.tdat]) fun x hx => by
      obtain ⟨k, _, rfl⟩ := List.mem_map.mp hx
      have kn := pD_ne k
      have e := eqP p k
      refine ⟨[x0, .sh (.lT ((t.prs 0).map pK) (t.lvals 0)), x2, .lst (pcW acc), .sh (pD p), .sh (pD k)], [x0, .sh (.lT ((t.prs 0).map pK) (t.lvals 0)), x2, .lst (pcW acc), .sh (pD p), .sh (pD k)], by simp [fnP, sSeq, sIf, sAsg, sExpr, sRet, sRetN, sNil, sFor, sPar, sAug, sBk, sCt, gN, gsNil, gsCons, gTupT, gSetI, fC, fVar_eq, vW_sh, vW_lst, vW_ins, vW_dT, evs, fN, fU, gS, gS1, rds, rfz, rtk, R_d_val, R_d_pl, R.fz, R.tk, R_st_val, R_st_pl, R_st_plc, R.out, W.d, W.ds, En.get, En.put, W.get, W.put, oII, tt2, okMul, okDiv, okMod, okPow, oAddI, oSub, oMul, oDiv, oMod, oPow, oLtI, oLeI, oGtI, oGeI, oMax2, oMin2, oNeg, oAddS, oLtS, fAdd, fSub, fMul, fDiv, fMod, fPow, fNeg, fIx, gOr, gAdd, gAddI, fTb, fTr, truthD, fNotT, fAndT, fOrT, fNotV, fAndV, fOrV, fIf, fTup, fLst, gTupD, gLstD, fInt, oInt, fAbs, oAbs, fLen, oLen, fCall, argsOf, putB, outs, gIx, oIxD, gLt, tYesE, fIsi, oNotV, okV, wipeE, restE, W.isSh, W.owned, fMutN, mApp, R.els, D.its, iRange1, iRange2, iSeq, iEnumA, D.walk, fTuple, gTuple, fList, gList, fSorted, gSort, fMutP, qV, qC, slOf, gSl0, gSlLo, gSlHi, gSl2, fSl2, gCatL, gCatT, els2, fPure, frzE, List.map_cons, List.map_nil, fCallP, fCallKP, fMethP, W.clean, W.cleans, D.tdat, D.tdats, size_ok, size_ok1, List.getElem?_cons_zero, List.getElem?_cons_succ, List.getElem?_nil, List.set_cons_zero, List.set_cons_succ, List.length_cons, List.length_nil, List.replicate_succ, List.replicate_zero, List.cons_append, List.nil_append, List.append_nil, tdats_sD, cleans_sW, Tr.tdat], ?_, rfl, rfl, by simp [fnP, sSeq, sIf, sAsg, sExpr, sRet, sRetN, sNil, sFor, sPar, sAug, sBk, sCt, gN, gsNil, gsCons, gTupT, gSetI, fC, fVar_eq, vW_sh, vW_lst, vW_ins, vW_dT, evs, fN, fU, gS, gS1, rds, rfz, rtk, R_d_val, R_d_pl, R.fz, R.tk, R_st_val, R_st_pl, R_st_plc, R.out, W.d, W.ds, En.get, En.put, W.get, W.put, oII, tt2, okMul, okDiv, okMod, okPow, oAddI, oSub, oMul, oDiv, oMod, oPow, oLtI, oLeI, oGtI, oGeI, oMax2, oMin2, oNeg, oAddS, oLtS, fAdd, fSub, fMul, fDiv, fMod, fPow, fNeg, fIx, gOr, gAdd, gAddI, fTb, fTr, truthD, fNotT, fAndT, fOrT, fNotV, fAndV, fOrV, fIf, fTup, fLst, gTupD, gLstD, fInt, oInt, fAbs, oAbs, fLen, oLen, fCall, argsOf, putB, outs, gIx, oIxD, gLt, tYesE, fIsi, oNotV, okV, wipeE, restE, W.isSh, W.owned, fMutN, mApp, R.els, D.its, iRange1, iRange2, iSeq, iEnumA, D.walk, fTuple, gTuple, fList, gList, fSorted, gSort, fMutP, qV, qC, slOf, gSl0, gSlLo, gSlHi, gSl2, fSl2, gCatL, gCatT, els2, fPure, frzE, List.map_cons, List.map_nil, fCallP, fCallKP, fMethP, W.clean, W.cleans, D.tdat, D.tdats, size_ok, size_ok1, List.getElem?_cons_zero, List.getElem?_cons_succ, List.getElem?_nil, List.set_cons_zero, List.set_cons_succ, List.length_cons, List.length_nil, List.replicate_succ, List.replicate_zero, List.cons_append, List.nil_append, List.append_nil, tdats_sD, cleans_sW, Tr.tdat], [x0, .sh (.lT ((t.prs 0).map pK) (t.lvals 0)), x2, .lst (pcW acc), .sh (pD p), .sh (pD k)], .val (.sh (.tup [pD p, pD k])), [x0, .sh (.lT ((t.prs 0).map pK) (t.lvals 0)), x2, .lst (pcW acc), .sh (pD p), .sh (pD k)], ?_, by simp [fnP, sSeq, sIf, sAsg, sExpr, sRet, sRetN, sNil, sFor, sPar, sAug, sBk, sCt, gN, gsNil, gsCons, gTupT, gSetI, fC, fVar_eq, vW_sh, vW_lst, vW_ins, vW_dT, evs, fN, fU, gS, gS1, rds, rfz, rtk, R_d_val, R_d_pl, R.fz, R.tk, R_st_val, R_st_pl, R_st_plc, R.out, W.d, W.ds, En.get, En.put, W.get, W.put, oII, tt2, okMul, okDiv, okMod, okPow, oAddI, oSub, oMul, oDiv, oMod, oPow, oLtI, oLeI, oGtI, oGeI, oMax2, oMin2, oNeg, oAddS, oLtS, fAdd, fSub, fMul, fDiv, fMod, fPow, fNeg, fIx, gOr, gAdd, gAddI, fTb, fTr, truthD, fNotT, fAndT, fOrT, fNotV, fAndV, fOrV, fIf, fTup, fLst, gTupD, gLstD, fInt, oInt, fAbs, oAbs, fLen, oLen, fCall, argsOf, putB, outs, gIx, oIxD, gLt, tYesE, fIsi, oNotV, okV, wipeE, restE, W.isSh, W.owned, fMutN, mApp, R.els, D.its, iRange1, iRange2, iSeq, iEnumA, D.walk, fTuple, gTuple, fList, gList, fSorted, gSort, fMutP, qV, qC, slOf, gSl0, gSlLo, gSlHi, gSl2, fSl2, gCatL, gCatT, els2, fPure, frzE, List.map_cons, List.map_nil, fCallP, fCallKP, fMethP, W.clean, W.cleans, D.tdat, D.tdats, size_ok, size_ok1, List.getElem?_cons_zero, List.getElem?_cons_succ, List.getElem?_nil, List.set_cons_zero, List.set_cons_succ, List.length_cons, List.length_nil, List.replicate_succ, List.replicate_zero, List.cons_append, List.nil_append, List.append_nil, tdats_sD, cleans_sW, Tr.tdat], rfl, by simp [fnP, sSeq, sIf, sAsg, sExpr, sRet, sRetN, sNil, sFor, sPar, sAug, sBk, sCt, gN, gsNil, gsCons, gTupT, gSetI, fC, fVar_eq, vW_sh, vW_lst, vW_ins, vW_dT, evs, fN, fU, gS, gS1, rds, rfz, rtk, R_d_val, R_d_pl, R.fz, R.tk, R_st_val, R_st_pl, R_st_plc, R.out, W.d, W.ds, En.get, En.put, W.get, W.put, oII, tt2, okMul, okDiv, okMod, okPow, oAddI, oSub, oMul, oDiv, oMod, oPow, oLtI, oLeI, oGtI, oGeI, oMax2, oMin2, oNeg, oAddS, oLtS, fAdd, fSub, fMul, fDiv, fMod, fPow, fNeg, fIx, gOr, gAdd, gAddI, fTb, fTr, truthD, fNotT, fAndT, fOrT, fNotV, fAndV, fOrV, fIf, fTup, fLst, gTupD, gLstD, fInt, oInt, fAbs, oAbs, fLen, oLen, fCall, argsOf, putB, outs, gIx, oIxD, gLt, tYesE, fIsi, oNotV, okV, wipeE, restE, W.isSh, W.owned, fMutN, mApp, R.els, D.its, iRange1, iRange2, iSeq, iEnumA, D.walk, fTuple, gTuple, fList, gList, fSorted, gSort, fMutP, qV, qC, slOf, gSl0, gSlLo, gSlHi, gSl2, fSl2, gCatL, gCatT, els2, fPure, frzE, List.map_cons, List.map_nil, fCallP, fCallKP, fMethP, W.clean, W.cleans, D.tdat, D.tdats, size_ok, size_ok1, List.getElem?_cons_zero, List.getElem?_cons_succ, List.getElem?_nil, List.set_cons_zero, List.set_cons_succ, List.length_cons, List.length_nil, List.replicate_succ, List.replicate_zero, List.cons_append, List.nil_append, List.append_nil, tdats_sD, cleans_sW, Tr.tdat]⟩
      · by_cases h1 : k = p
        · subst h1
          simp [t_law_pieces_1, kn, oNe, e, fnP, sSeq, sIf, sAsg, sExpr, sRet, sRetN, sNil, sFor, sPar, sAug, sBk, sCt, gN, gsNil, gsCons, gTupT, gSetI, fC, fVar_eq, vW_sh, vW_lst, vW_ins, vW_dT, evs, fN, fU, gS, gS1, rds, rfz, rtk, R_d_val, R_d_pl, R.fz, R.tk, R_st_val, R_st_pl, R_st_plc, R.out, W.d, W.ds, En.get, En.put, W.get, W.put, oII, tt2, okMul, okDiv, okMod, okPow, oAddI, oSub, oMul, oDiv, oMod, oPow, oLtI, oLeI, oGtI, oGeI, oMax2, oMin2, oNeg, oAddS, oLtS, fAdd, fSub, fMul, fDiv, fMod, fPow, fNeg, fIx, gOr, gAdd, gAddI, fTb, fTr, truthD, fNotT, fAndT, fOrT, fNotV, fAndV, fOrV, fIf, fTup, fLst, gTupD, gLstD, fInt, oInt, fAbs, oAbs, fLen, oLen, fCall, argsOf, putB, outs, gIx, oIxD, gLt, tYesE, fIsi, oNotV, okV, wipeE, restE, W.isSh, W.owned, fMutN, mApp, R.els, D.its, iRange1, iRange2, iSeq, iEnumA, D.walk, fTuple, gTuple, fList, gList, fSorted, gSort, fMutP, qV, qC, slOf, gSl0, gSlLo, gSlHi, gSl2, fSl2, gCatL, gCatT, els2, fPure, frzE, List.map_cons, List.map_nil, fCallP, fCallKP, fMethP, W.clean, W.cleans, D.tdat, D.tdats, size_ok, size_ok1, List.getElem?_cons_zero, List.getElem?_cons_succ, List.getElem?_nil, List.set_cons_zero, List.set_cons_succ, List.length_cons, List.length_nil, List.replicate_succ, List.replicate_zero, List.cons_append, List.nil_append, List.append_nil, tdats_sD, cleans_sW, Tr.tdat]
        · simp [t_law_pieces_1, kn, pn, oNe, e, h1, fnP, sSeq, sIf, sAsg, sExpr, sRet, sRetN, sNil, sFor, sPar, sAug, sBk, sCt, gN, gsNil, gsCons, gTupT, gSetI, fC, fVar_eq, vW_sh, vW_lst, vW_ins, vW_dT, evs, fN, fU, gS, gS1, rds, rfz, rtk, R_d_val, R_d_pl, R.fz, R.tk, R_st_val, R_st_pl, R_st_plc, R.out, W.d, W.ds, En.get, En.put, W.get, W.put, oII, tt2, okMul, okDiv, okMod, okPow, oAddI, oSub, oMul, oDiv, oMod, oPow, oLtI, oLeI, oGtI, oGeI, oMax2, oMin2, oNeg, oAddS, oLtS, fAdd, fSub, fMul, fDiv, fMod, fPow, fNeg, fIx, gOr, gAdd, gAddI, fTb, fTr, truthD, fNotT, fAndT, fOrT, fNotV, fAndV, fOrV, fIf, fTup, fLst, gTupD, gLstD, fInt, oInt, fAbs, oAbs, fLen, oLen, fCall, argsOf, putB, outs, gIx, oIxD, gLt, tYesE, fIsi, oNotV, okV, wipeE, restE, W.isSh, W.owned, fMutN, mApp, R.els, D.its, iRange1, iRange2, iSeq, iEnumA, D.walk, fTuple, gTuple, fList, gList, fSorted, gSort, fMutP, qV, qC, slOf, gSl0, gSlLo, gSlHi, gSl2, fSl2, gCatL, gCatT, els2, fPure, frzE, List.map_cons, List.map_nil, fCallP, fCallKP, fMethP, W.clean, W.cleans, D.tdat, D.tdats, size_ok, size_ok1, List.getElem?_cons_zero, List.getElem?_cons_succ, List.getElem?_nil, List.set_cons_zero, List.set_cons_succ, List.length_cons, List.length_nil, List.replicate_succ, List.replicate_zero, List.cons_append, List.nil_append, List.append_nil, tdats_sD, cleans_sW, Tr.tdat]
      · simp [e_law_pieces_1, kn, pn, fnP, sSeq, sIf, sAsg, sExpr, sRet, sRetN, sNil, sFor, sPar, sAug, sBk, sCt, gN, gsNil, gsCons, gTupT, gSetI, fC, fVar_eq, vW_sh, vW_lst, vW_ins, vW_dT, evs, fN, fU, gS, gS1, rds, rfz, rtk, R_d_val, R_d_pl, R.fz, R.tk, R_st_val, R_st_pl, R_st_plc, R.out, W.d, W.ds, En.get, En.put, W.get, W.put, oII, tt2, okMul, okDiv, okMod, okPow, oAddI, oSub, oMul, oDiv, oMod, oPow, oLtI, oLeI, oGtI, oGeI, oMax2, oMin2, oNeg, oAddS, oLtS, fAdd, fSub, fMul, fDiv, fMod, fPow, fNeg, fIx, gOr, gAdd, gAddI, fTb, fTr, truthD, fNotT, fAndT, fOrT, fNotV, fAndV, fOrV, fIf, fTup, fLst, gTupD, gLstD, fInt, oInt, fAbs, oAbs, fLen, oLen, fCall, argsOf, putB, outs, gIx, oIxD, gLt, tYesE, fIsi, oNotV, okV, wipeE, restE, W.isSh, W.owned, fMutN, mApp, R.els, D.its, iRange1, iRange2, iSeq, iEnumA, D.walk, fTuple, gTuple, fList, gList, fSorted, gSort, fMutP, qV, qC, slOf, gSl0, gSlLo, gSlHi, gSl2, fSl2, gCatL, gCatT, els2, fPure, frzE, List.map_cons, List.map_nil, fCallP, fCallKP, fMethP, W.clean, W.cleans, D.tdat, D.tdats, size_ok, size_ok1, List.getElem?_cons_zero, List.getElem?_cons_succ, List.getElem?_nil, List.set_cons_zero, List.set_cons_succ, List.length_cons, List.length_nil, List.replicate_succ, List.replicate_zero, List.cons_append, List.nil_append, List.append_nil, tdats_sD, cleans_sW, Tr.tdat]
    have fe : (((t.belows p).map pD).filter fun d => !(eqD d (pD p) == some true)).map (fun d => W.sh (.tup [pD p, d])) = pcW (t.pcsAt p) := by
      unfold pcW Tr.pcsAt
      rw [List.filter_map, List.map_map, List.map_map, List.map_map]
      have : (fun d => !(eqD d (pD p) == some true)) ∘ pD = fun q => decide (q ≠ p) := by
        funext q
        simp only [Function.comp_apply, eqP]
        by_cases h1 : q = p <;> simp [h1]
      rw [this]
      rfl
    rw [fe] at c
    unfold l_law_pieces_1
    generalize (t.prs 0).map pK = ks at un c lt_ne ⊢
    generalize t.lvals 0 = ds at un c lt_ne ⊢
    generalize m_law_under = f at un ⊢
    have cp := c
    generalize t_law_pieces_1 = tt at c
    generalize e_law_pieces_1 = ee at c
    have fc : fComp [5] (iSeq (fCallP f [fVar 1, fVar 4])) (gN 5) tt ee [x0, .sh (.lT ks ds), x2, .lst (pcW acc), .sh (pD p), .sh .any] = some ([x0, .sh (.lT ks ds), x2, .lst (pcW acc), .sh (pD p), .sh .any], .val (.lst (pcW (t.pcsAt p)))) := by
      refine fComp_eq ?_ c
      simp [un, pn, cl, pW_ds, fnP, sSeq, sIf, sAsg, sExpr, sRet, sRetN, sNil, sFor, sPar, sAug, sBk, sCt, gN, gsNil, gsCons, gTupT, gSetI, fC, fVar_eq, vW_sh, vW_lst, vW_ins, vW_dT, evs, fN, fU, gS, gS1, rds, rfz, rtk, R_d_val, R_d_pl, R.fz, R.tk, R_st_val, R_st_pl, R_st_plc, R.out, W.d, W.ds, En.get, En.put, W.get, W.put, oII, tt2, okMul, okDiv, okMod, okPow, oAddI, oSub, oMul, oDiv, oMod, oPow, oLtI, oLeI, oGtI, oGeI, oMax2, oMin2, oNeg, oAddS, oLtS, fAdd, fSub, fMul, fDiv, fMod, fPow, fNeg, fIx, gOr, gAdd, gAddI, fTb, fTr, truthD, fNotT, fAndT, fOrT, fNotV, fAndV, fOrV, fIf, fTup, fLst, gTupD, gLstD, fInt, oInt, fAbs, oAbs, fLen, oLen, fCall, argsOf, putB, outs, gIx, oIxD, gLt, tYesE, fIsi, oNotV, okV, wipeE, restE, W.isSh, W.owned, fMutN, mApp, R.els, D.its, iRange1, iRange2, iSeq, iEnumA, D.walk, fTuple, gTuple, fList, gList, fSorted, gSort, fMutP, qV, qC, slOf, gSl0, gSlLo, gSlHi, gSl2, fSl2, gCatL, gCatT, els2, fPure, frzE, List.map_cons, List.map_nil, fCallP, fCallKP, fMethP, W.clean, W.cleans, D.tdat, D.tdats, size_ok, size_ok1, List.getElem?_cons_zero, List.getElem?_cons_succ, List.getElem?_nil, List.set_cons_zero, List.set_cons_succ, List.length_cons, List.length_nil, List.replicate_succ, List.replicate_zero, List.cons_append, List.nil_append, List.append_nil, tdats_sD, cleans_sW, Tr.tdat]
    simp [fc, els2, R.els, D.its, pcW_ds, pcW_len, hsz, pcW_app, shs_pcW, pcW_mk, -List.map_map, fnP, sSeq, sIf, sAsg, sExpr, sRet, sRetN, sNil, sFor, sPar, sAug, sBk, sCt, gN, gsNil, gsCons, gTupT, gSetI, fC, fVar_eq, vW_sh, vW_lst, vW_ins, vW_dT, evs, fN, fU, gS, gS1, rds, rfz, rtk, R_d_val, R_d_pl, R.fz, R.tk, R_st_val, R_st_pl, R_st_plc, R.out, W.d, W.ds, En.get, En.put, W.get, W.put, oII, tt2, okMul, okDiv, okMod, okPow, oAddI, oSub, oMul, oDiv, oMod, oPow, oLtI, oLeI, oGtI, oGeI, oMax2, oMin2, oNeg, oAddS, oLtS, fAdd, fSub, fMul, fDiv, fMod, fPow, fNeg, fIx, gOr, gAdd, gAddI, fTb, fTr, truthD, fNotT, fAndT, fOrT, fNotV, fAndV, fOrV, fIf, fTup, fLst, gTupD, gLstD, fInt, oInt, fAbs, oAbs, fLen, oLen, fCall, argsOf, putB, outs, gIx, oIxD, gLt, tYesE, fIsi, oNotV, okV, wipeE, restE, W.isSh, W.owned, fMutN, mApp, R.els, D.its, iRange1, iRange2, iSeq, iEnumA, D.walk, fTuple, gTuple, fList, gList, fSorted, gSort, fMutP, qV, qC, slOf, gSl0, gSlLo, gSlHi, gSl2, fSl2, gCatL, gCatT, els2, fPure, frzE, List.map_cons, List.map_nil, fCallP, fCallKP, fMethP, W.clean, W.cleans, D.tdat, D.tdats, size_ok, size_ok1, List.getElem?_cons_zero, List.getElem?_cons_succ, List.getElem?_nil, List.set_cons_zero, List.set_cons_succ, List.length_cons, List.length_nil, List.replicate_succ, List.replicate_zero, List.cons_append, List.nil_append, List.append_nil, tdats_sD, cleans_sW, Tr.tdat]
theorem pieces_ok {t : Tr} (h : t.leaves.length ≤ 30) : m_law_pieces [.sh t.D] = some (.lst (pcW t.pcs), [.sh t.D]) := by
  have td := t.D_ne
  have sp : m_law_spans 40 [.sh t.D, .sh (.int 0)] = _ := spans_ok (n := 40) t 0 (by have := t.dep_lt; omega) h
  have lv := leaves_40 h
  have pl := t.prs_len 0
  have hm : (t.prs 0).length * (2 * t.leaves.length) ≤ 60 * 60 := Nat.mul_le_mul (by omega) (by omega)
  have hd : ((0, t.leaves.length), none) = (((0 : Nat), t.leaves.length), (none : Option (Nat × Nat))) := rfl
  obtain ⟨y4, lp⟩ := pieces_loop (x0 := .sh t.D) (x2 := .sh (pD (0, t.leaves.length))) h (t.prs 0) [((0, t.leaves.length), none)] (.sh .any) (fun p hp => hp) (by simp only [List.length_cons, List.length_nil]; omega)
  have os : oSortX (t.pcsRaw.map pcD) = some (t.pcs.map pcD) := oSortX_pcs (by have := t.pcsRaw_len h; omega)
  rw [List.singleton_append] at lp
  change forD _ _ _ _ = some ([_, _, _, .lst (pcW t.pcsRaw), _, _], _) at lp
  have mt := map_tkeyD (t.prs 0)
  have hsz : t.leaves.length ≤ sizeLine := size_le (by omega)
  have cw := cleans_sW t.leaves
  refine fnP_ret (n := 6) (np := 1) (b := b_law_pieces) rfl (en' := [.sh t.D, .sh (.lT ((t.prs 0).map pK) (t.lvals 0)), .sh (pD (0, t.leaves.length)), .lst (pcW t.pcsRaw), y4, .sh .any]) ?_
  unfold b_law_pieces
  generalize l_law_pieces_1 = body at lp ⊢
  generalize (t.prs 0).map pD = ps at lp mt
  generalize (t.prs 0).map pK = ks at sp lp mt ⊢
  generalize t.lvals 0 = ds at sp lp ⊢
  apply sSeq_nx
  · simp [sp, td, fnP, sSeq, sIf, sAsg, sExpr, sRet, sRetN, sNil, sFor, sPar, sAug, sBk, sCt, gN, gsNil, gsCons, gTupT, gSetI, fC, fVar_eq, vW_sh, vW_lst, vW_ins, vW_dT, evs, fN, fU, gS, gS1, rds, rfz, rtk, R_d_val, R_d_pl, R.fz, R.tk, R_st_val, R_st_pl, R_st_plc, R.out, W.d, W.ds, En.get, En.put, W.get, W.put, oII, tt2, okMul, okDiv, okMod, okPow, oAddI, oSub, oMul, oDiv, oMod, oPow, oLtI, oLeI, oGtI, oGeI, oMax2, oMin2, oNeg, oAddS, oLtS, fAdd, fSub, fMul, fDiv, fMod, fPow, fNeg, fIx, gOr, gAdd, gAddI, fTb, fTr, truthD, fNotT, fAndT, fOrT, fNotV, fAndV, fOrV, fIf, fTup, fLst, gTupD, gLstD, fInt, oInt, fAbs, oAbs, fLen, oLen, fCall, argsOf, putB, outs, gIx, oIxD, gLt, tYesE, fIsi, oNotV, okV, wipeE, restE, W.isSh, W.owned, fMutN, mApp, R.els, D.its, iRange1, iRange2, iSeq, iEnumA, D.walk, fTuple, gTuple, fList, gList, fSorted, gSort, fMutP, qV, qC, slOf, gSl0, gSlLo, gSlHi, gSl2, fSl2, gCatL, gCatT, els2, fPure, frzE, List.map_cons, List.map_nil, fCallP, fCallKP, fMethP, W.clean, W.cleans, D.tdat, D.tdats, size_ok, size_ok1, List.getElem?_cons_zero, List.getElem?_cons_succ, List.getElem?_nil, List.set_cons_zero, List.set_cons_succ, List.length_cons, List.length_nil, List.replicate_succ, List.replicate_zero, List.cons_append, List.nil_append, List.append_nil, tdats_sD, cleans_sW, Tr.tdat]; rfl
  apply sSeq_nx
  · simp [lv, td, cw, sW_ds, sD_len, hsz, fnP, sSeq, sIf, sAsg, sExpr, sRet, sRetN, sNil, sFor, sPar, sAug, sBk, sCt, gN, gsNil, gsCons, gTupT, gSetI, fC, fVar_eq, vW_sh, vW_lst, vW_ins, vW_dT, evs, fN, fU, gS, gS1, rds, rfz, rtk, R_d_val, R_d_pl, R.fz, R.tk, R_st_val, R_st_pl, R_st_plc, R.out, W.d, W.ds, En.get, En.put, W.get, W.put, oII, tt2, okMul, okDiv, okMod, okPow, oAddI, oSub, oMul, oDiv, oMod, oPow, oLtI, oLeI, oGtI, oGeI, oMax2, oMin2, oNeg, oAddS, oLtS, fAdd, fSub, fMul, fDiv, fMod, fPow, fNeg, fIx, gOr, gAdd, gAddI, fTb, fTr, truthD, fNotT, fAndT, fOrT, fNotV, fAndV, fOrV, fIf, fTup, fLst, gTupD, gLstD, fInt, oInt, fAbs, oAbs, fLen, oLen, fCall, argsOf, putB, outs, gIx, oIxD, gLt, tYesE, fIsi, oNotV, okV, wipeE, restE, W.isSh, W.owned, fMutN, mApp, R.els, D.its, iRange1, iRange2, iSeq, iEnumA, D.walk, fTuple, gTuple, fList, gList, fSorted, gSort, fMutP, qV, qC, slOf, gSl0, gSlLo, gSlHi, gSl2, fSl2, gCatL, gCatT, els2, fPure, frzE, List.map_cons, List.map_nil, fCallP, fCallKP, fMethP, W.clean, W.cleans, D.tdat, D.tdats, size_ok, size_ok1, List.getElem?_cons_zero, List.getElem?_cons_succ, List.getElem?_nil, List.set_cons_zero, List.set_cons_succ, List.length_cons, List.length_nil, List.replicate_succ, List.replicate_zero, List.cons_append, List.nil_append, List.append_nil, tdats_sD, cleans_sW, Tr.tdat]; rfl
  apply sSeq_nx
  · simp [fnP, sSeq, sIf, sAsg, sExpr, sRet, sRetN, sNil, sFor, sPar, sAug, sBk, sCt, gN, gsNil, gsCons, gTupT, gSetI, fC, fVar_eq, vW_sh, vW_lst, vW_ins, vW_dT, evs, fN, fU, gS, gS1, rds, rfz, rtk, R_d_val, R_d_pl, R.fz, R.tk, R_st_val, R_st_pl, R_st_plc, R.out, W.d, W.ds, En.get, En.put, W.get, W.put, oII, tt2, okMul, okDiv, okMod, okPow, oAddI, oSub, oMul, oDiv, oMod, oPow, oLtI, oLeI, oGtI, oGeI, oMax2, oMin2, oNeg, oAddS, oLtS, fAdd, fSub, fMul, fDiv, fMod, fPow, fNeg, fIx, gOr, gAdd, gAddI, fTb, fTr, truthD, fNotT, fAndT, fOrT, fNotV, fAndV, fOrV, fIf, fTup, fLst, gTupD, gLstD, fInt, oInt, fAbs, oAbs, fLen, oLen, fCall, argsOf, putB, outs, gIx, oIxD, gLt, tYesE, fIsi, oNotV, okV, wipeE, restE, W.isSh, W.owned, fMutN, mApp, R.els, D.its, iRange1, iRange2, iSeq, iEnumA, D.walk, fTuple, gTuple, fList, gList, fSorted, gSort, fMutP, qV, qC, slOf, gSl0, gSlLo, gSlHi, gSl2, fSl2, gCatL, gCatT, els2, fPure, frzE, List.map_cons, List.map_nil, fCallP, fCallKP, fMethP, W.clean, W.cleans, D.tdat, D.tdats, size_ok, size_ok1, List.getElem?_cons_zero, List.getElem?_cons_succ, List.getElem?_nil, List.set_cons_zero, List.set_cons_succ, List.length_cons, List.length_nil, List.replicate_succ, List.replicate_zero, List.cons_append, List.nil_append, List.append_nil, tdats_sD, cleans_sW, Tr.tdat]; rfl
  apply sSeq_nx
  · refine sFor_eq ?_ lp
    simp [iKeys, R.lock, mt, pcW, pcD, qD, pD, fnP, sSeq, sIf, sAsg, sExpr, sRet, sRetN, sNil, sFor, sPar, sAug, sBk, sCt, gN, gsNil, gsCons, gTupT, gSetI, fC, fVar_eq, vW_sh, vW_lst, vW_ins, vW_dT, evs, fN, fU, gS, gS1, rds, rfz, rtk, R_d_val, R_d_pl, R.fz, R.tk, R_st_val, R_st_pl, R_st_plc, R.out, W.d, W.ds, En.get, En.put, W.get, W.put, oII, tt2, okMul, okDiv, okMod, okPow, oAddI, oSub, oMul, oDiv, oMod, oPow, oLtI, oLeI, oGtI, oGeI, oMax2, oMin2, oNeg, oAddS, oLtS, fAdd, fSub, fMul, fDiv, fMod, fPow, fNeg, fIx, gOr, gAdd, gAddI, fTb, fTr, truthD, fNotT, fAndT, fOrT, fNotV, fAndV, fOrV, fIf, fTup, fLst, gTupD, gLstD, fInt, oInt, fAbs, oAbs, fLen, oLen, fCall, argsOf, putB, outs, gIx, oIxD, gLt, tYesE, fIsi, oNotV, okV, wipeE, restE, W.isSh, W.owned, fMutN, mApp, R.els, D.its, iRange1, iRange2, iSeq, iEnumA, D.walk, fTuple, gTuple, fList, gList, fSorted, gSort, fMutP, qV, qC, slOf, gSl0, gSlLo, gSlHi, gSl2, fSl2, gCatL, gCatT, els2, fPure, frzE, List.map_cons, List.map_nil, fCallP, fCallKP, fMethP, W.clean, W.cleans, D.tdat, D.tdats, size_ok, size_ok1, List.getElem?_cons_zero, List.getElem?_cons_succ, List.getElem?_nil, List.set_cons_zero, List.set_cons_succ, List.length_cons, List.length_nil, List.replicate_succ, List.replicate_zero, List.cons_append, List.nil_append, List.append_nil, tdats_sD, cleans_sW, Tr.tdat]
  · simp [fSortX, gSortX, R.dT, R.els, pcW_ds, os, shs_pcW, pcW_mk, -List.map_map, fnP, sSeq, sIf, sAsg, sExpr, sRet, sRetN, sNil, sFor, sPar, sAug, sBk, sCt, gN, gsNil, gsCons, gTupT, gSetI, fC, fVar_eq, vW_sh, vW_lst, vW_ins, vW_dT, evs, fN, fU, gS, gS1, rds, rfz, rtk, R_d_val, R_d_pl, R.fz, R.tk, R_st_val, R_st_pl, R_st_plc, R.out, W.d, W.ds, En.get, En.put, W.get, W.put, oII, tt2, okMul, okDiv, okMod, okPow, oAddI, oSub, oMul, oDiv, oMod, oPow, oLtI, oLeI, oGtI, oGeI, oMax2, oMin2, oNeg, oAddS, oLtS, fAdd, fSub, fMul, fDiv, fMod, fPow, fNeg, fIx, gOr, gAdd, gAddI, fTb, fTr, truthD, fNotT, fAndT, fOrT, fNotV, fAndV, fOrV, fIf, fTup, fLst, gTupD, gLstD, fInt, oInt, fAbs, oAbs, fLen, oLen, fCall, argsOf, putB, outs, gIx, oIxD, gLt, tYesE, fIsi, oNotV, okV, wipeE, restE, W.isSh, W.owned, fMutN, mApp, R.els, D.its, iRange1, iRange2, iSeq, iEnumA, D.walk, fTuple, gTuple, fList, gList, fSorted, gSort, fMutP, qV, qC, slOf, gSl0, gSlLo, gSlHi, gSl2, fSl2, gCatL, gCatT, els2, fPure, frzE, List.map_cons, List.map_nil, fCallP, fCallKP, fMethP, W.clean, W.cleans, D.tdat, D.tdats, size_ok, size_ok1, List.getElem?_cons_zero, List.getElem?_cons_succ, List.getElem?_nil, List.set_cons_zero, List.set_cons_succ, List.length_cons, List.length_nil, List.replicate_succ, List.replicate_zero, List.cons_append, List.nil_append, List.append_nil, tdats_sD, cleans_sW, Tr.tdat]
def floorsI : List (List Int) := [[], [0, 1, 2, 3, 4, 5], [1, 2, 3], [0, 2, 4, 6], [1, 2, 3, 4, 9, 40]]
def floorsW : List W := floorsI.map fun is => .lst (iW is)
theorem floors_ok {c : Nat} {u : W} (h : Urn c u) (hc : c ≤ 900000) : ∃ (u' : W) (is : List Int), m_law_floors [u] = some (.sh (.tup (is.map D.int)), [u']) ∧ Urn (c + 10) u' ∧ is.length ≤ 6 := by
  obtain ⟨u1, x, w', e1, hu1, hx⟩ := ofW_ok (ws := floorsW) h (by omega) (by decide) (by decide)
  obtain ⟨is, hi, rfl⟩ := List.mem_map.mp hx
  have gl : is.length ≤ 6 := (by decide : ∀ x ∈ floorsI, x.length ≤ 6) _ hi
  simp only [W.d, iW_ds] at e1
  obtain ⟨u2, r, e2, hu2, r0, r1⟩ := take_ok (low := 4) hu1 (by omega) (by omega) (by omega)
  obtain ⟨u3, zs, e3, hu3, sub⟩ := fewI_ok (k := 2) (p := .lst (is.map D.int)) (.inr rfl) hu2 (by omega) (by omega) (by omega) (by omega)
  obtain ⟨u4, r4, e4, hu4, r40, r41⟩ := take_ok (low := 4) hu2 (by omega) (by omega) (by omega)
  have zl := sub.length_le
  obtain ⟨a, b, tu, rfl, _⟩ := id h
  obtain ⟨a1, b1, tu1, rfl, _⟩ := id hu1
  obtain ⟨a2, b2, tu2, rfl, _⟩ := id hu2
  obtain ⟨a3, b3, tu3, rfl, _⟩ := id hu3
  obtain ⟨a4, b4, tu4, rfl, _⟩ := id hu4
  by_cases hr : 0 < r
  · refine ⟨_, zs, ?_, hu3.mono (by omega), by omega⟩
    refine fnP_ret (n := 2) (np := 1) (b := b_law_floors) rfl (en' := [.lst [.sh (.int a3), .sh (.int b3), .sh (.int tu3)], .sh (.lst (is.map D.int))]) ?_
    unfold b_law_floors
    generalize m_law_few = f1 at e3 ⊢
    generalize m_law_of = f2 at e1 ⊢
    generalize m_law_take = f3 at e2 e4 ⊢
    apply sSeq_nx
    · simp only [floorsW, floorsI, iW, List.map_cons, List.map_nil] at e1
      simp [e1, fnP, sSeq, sIf, sAsg, sExpr, sRet, sRetN, sNil, sFor, sPar, sAug, sBk, sCt, gN, gsNil, gsCons, gTupT, gSetI, fC, fVar_eq, vW_sh, vW_lst, vW_ins, vW_dT, evs, fN, fU, gS, gS1, rds, rfz, rtk, R_d_val, R_d_pl, R.fz, R.tk, R_st_val, R_st_pl, R_st_plc, R.out, W.d, W.ds, En.get, En.put, W.get, W.put, oII, tt2, okMul, okDiv, okMod, okPow, oAddI, oSub, oMul, oDiv, oMod, oPow, oLtI, oLeI, oGtI, oGeI, oMax2, oMin2, oNeg, oAddS, oLtS, fAdd, fSub, fMul, fDiv, fMod, fPow, fNeg, fIx, gOr, gAdd, gAddI, fTb, fTr, truthD, fNotT, fAndT, fOrT, fNotV, fAndV, fOrV, fIf, fTup, fLst, gTupD, gLstD, fInt, oInt, fAbs, oAbs, fLen, oLen, fCall, argsOf, putB, outs, gIx, oIxD, gLt, tYesE, fIsi, oNotV, okV, wipeE, restE, W.isSh, W.owned, fMutN, mApp, R.els, D.its, iRange1, iRange2, iSeq, iEnumA, D.walk, fTuple, gTuple, fList, gList, fSorted, gSort, fMutP, qV, qC, slOf, gSl0, gSlLo, gSlHi, gSl2, fSl2, gCatL, gCatT, els2, fPure, frzE, List.map_cons, List.map_nil, fCallP, fCallKP, fMethP, W.clean, W.cleans, D.tdat, D.tdats, size_ok, size_ok1, List.getElem?_cons_zero, List.getElem?_cons_succ, List.getElem?_nil, List.set_cons_zero, List.set_cons_succ, List.length_cons, List.length_nil, List.replicate_succ, List.replicate_zero, List.cons_append, List.nil_append, List.append_nil, tdats_sD, cleans_sW, Tr.tdat]; rfl
    · simp [e2, hr, e3, fnP, sSeq, sIf, sAsg, sExpr, sRet, sRetN, sNil, sFor, sPar, sAug, sBk, sCt, gN, gsNil, gsCons, gTupT, gSetI, fC, fVar_eq, vW_sh, vW_lst, vW_ins, vW_dT, evs, fN, fU, gS, gS1, rds, rfz, rtk, R_d_val, R_d_pl, R.fz, R.tk, R_st_val, R_st_pl, R_st_plc, R.out, W.d, W.ds, En.get, En.put, W.get, W.put, oII, tt2, okMul, okDiv, okMod, okPow, oAddI, oSub, oMul, oDiv, oMod, oPow, oLtI, oLeI, oGtI, oGeI, oMax2, oMin2, oNeg, oAddS, oLtS, fAdd, fSub, fMul, fDiv, fMod, fPow, fNeg, fIx, gOr, gAdd, gAddI, fTb, fTr, truthD, fNotT, fAndT, fOrT, fNotV, fAndV, fOrV, fIf, fTup, fLst, gTupD, gLstD, fInt, oInt, fAbs, oAbs, fLen, oLen, fCall, argsOf, putB, outs, gIx, oIxD, gLt, tYesE, fIsi, oNotV, okV, wipeE, restE, W.isSh, W.owned, fMutN, mApp, R.els, D.its, iRange1, iRange2, iSeq, iEnumA, D.walk, fTuple, gTuple, fList, gList, fSorted, gSort, fMutP, qV, qC, slOf, gSl0, gSlLo, gSlHi, gSl2, fSl2, gCatL, gCatT, els2, fPure, frzE, List.map_cons, List.map_nil, fCallP, fCallKP, fMethP, W.clean, W.cleans, D.tdat, D.tdats, size_ok, size_ok1, List.getElem?_cons_zero, List.getElem?_cons_succ, List.getElem?_nil, List.set_cons_zero, List.set_cons_succ, List.length_cons, List.length_nil, List.replicate_succ, List.replicate_zero, List.cons_append, List.nil_append, List.append_nil, tdats_sD, cleans_sW, Tr.tdat]
  · refine ⟨_, [1 + r4], ?_, hu4.mono (by omega), by simp⟩
    refine fnP_ret (n := 2) (np := 1) (b := b_law_floors) rfl (en' := [.lst [.sh (.int a4), .sh (.int b4), .sh (.int tu4)], .sh (.lst (is.map D.int))]) ?_
    unfold b_law_floors
    generalize m_law_few = f1 at e3 ⊢
    generalize m_law_of = f2 at e1 ⊢
    generalize m_law_take = f3 at e2 e4 ⊢
    apply sSeq_nx
    · simp only [floorsW, floorsI, iW, List.map_cons, List.map_nil] at e1
      simp [e1, fnP, sSeq, sIf, sAsg, sExpr, sRet, sRetN, sNil, sFor, sPar, sAug, sBk, sCt, gN, gsNil, gsCons, gTupT, gSetI, fC, fVar_eq, vW_sh, vW_lst, vW_ins, vW_dT, evs, fN, fU, gS, gS1, rds, rfz, rtk, R_d_val, R_d_pl, R.fz, R.tk, R_st_val, R_st_pl, R_st_plc, R.out, W.d, W.ds, En.get, En.put, W.get, W.put, oII, tt2, okMul, okDiv, okMod, okPow, oAddI, oSub, oMul, oDiv, oMod, oPow, oLtI, oLeI, oGtI, oGeI, oMax2, oMin2, oNeg, oAddS, oLtS, fAdd, fSub, fMul, fDiv, fMod, fPow, fNeg, fIx, gOr, gAdd, gAddI, fTb, fTr, truthD, fNotT, fAndT, fOrT, fNotV, fAndV, fOrV, fIf, fTup, fLst, gTupD, gLstD, fInt, oInt, fAbs, oAbs, fLen, oLen, fCall, argsOf, putB, outs, gIx, oIxD, gLt, tYesE, fIsi, oNotV, okV, wipeE, restE, W.isSh, W.owned, fMutN, mApp, R.els, D.its, iRange1, iRange2, iSeq, iEnumA, D.walk, fTuple, gTuple, fList, gList, fSorted, gSort, fMutP, qV, qC, slOf, gSl0, gSlLo, gSlHi, gSl2, fSl2, gCatL, gCatT, els2, fPure, frzE, List.map_cons, List.map_nil, fCallP, fCallKP, fMethP, W.clean, W.cleans, D.tdat, D.tdats, size_ok, size_ok1, List.getElem?_cons_zero, List.getElem?_cons_succ, List.getElem?_nil, List.set_cons_zero, List.set_cons_succ, List.length_cons, List.length_nil, List.replicate_succ, List.replicate_zero, List.cons_append, List.nil_append, List.append_nil, tdats_sD, cleans_sW, Tr.tdat]; rfl
    · simp [e2, hr, e4, fnP, sSeq, sIf, sAsg, sExpr, sRet, sRetN, sNil, sFor, sPar, sAug, sBk, sCt, gN, gsNil, gsCons, gTupT, gSetI, fC, fVar_eq, vW_sh, vW_lst, vW_ins, vW_dT, evs, fN, fU, gS, gS1, rds, rfz, rtk, R_d_val, R_d_pl, R.fz, R.tk, R_st_val, R_st_pl, R_st_plc, R.out, W.d, W.ds, En.get, En.put, W.get, W.put, oII, tt2, okMul, okDiv, okMod, okPow, oAddI, oSub, oMul, oDiv, oMod, oPow, oLtI, oLeI, oGtI, oGeI, oMax2, oMin2, oNeg, oAddS, oLtS, fAdd, fSub, fMul, fDiv, fMod, fPow, fNeg, fIx, gOr, gAdd, gAddI, fTb, fTr, truthD, fNotT, fAndT, fOrT, fNotV, fAndV, fOrV, fIf, fTup, fLst, gTupD, gLstD, fInt, oInt, fAbs, oAbs, fLen, oLen, fCall, argsOf, putB, outs, gIx, oIxD, gLt, tYesE, fIsi, oNotV, okV, wipeE, restE, W.isSh, W.owned, fMutN, mApp, R.els, D.its, iRange1, iRange2, iSeq, iEnumA, D.walk, fTuple, gTuple, fList, gList, fSorted, gSort, fMutP, qV, qC, slOf, gSl0, gSlLo, gSlHi, gSl2, fSl2, gCatL, gCatT, els2, fPure, frzE, List.map_cons, List.map_nil, fCallP, fCallKP, fMethP, W.clean, W.cleans, D.tdat, D.tdats, size_ok, size_ok1, List.getElem?_cons_zero, List.getElem?_cons_succ, List.getElem?_nil, List.set_cons_zero, List.set_cons_succ, List.length_cons, List.length_nil, List.replicate_succ, List.replicate_zero, List.cons_append, List.nil_append, List.append_nil, tdats_sD, cleans_sW, Tr.tdat]
def likeQ (d : D) : Option (Nat × Nat) → Prop
  | none => d = .tup [] ∨ d = .lst []
  | some q => likeP d q
def likePc (d : D) (x : Pc) : Prop := ∃ n c, (d = .tup [n, c] ∨ d = .lst [n, c]) ∧ likeP n x.1 ∧ likeQ c x.2
def Tr.lets (t : Tr) (is : List Int) (x : Pc) : Bool := match x.2 with
  | none => true
  | some q => decide (((t.deep x.1 : Int) - 1) ∈ is) || !(is.any fun o => decide ((t.deep x.1 : Int) - 1 < o) && decide (o < (t.deep q : Int) - 1))
def likeI (d : D) (is : List Int) : Prop := d = .tup (is.map D.int) ∨ d = .lst (is.map D.int)
def betw (a b : Int) : D → W
  | .int o => .sh (.bl (decide (a < o) && decide (o < b)))
  | d => .sh d
theorem betw_bls (a b : Int) : ∀ is : List Int, D.bls (W.ds ((is.map D.int).map (betw a b))) = some (is.map fun o => decide (a < o) && decide (o < b))
  | [] => rfl
  | i :: is => by
    have := betw_bls a b is
    simp only [List.map_cons, betw, W.ds, W.d, D.bls, this]
theorem is_allowed_ok {g d f : D} {t : Tr} {x : Pc} {is : List Int} (T : TrG g t) (hf : likeI f is) (hl : is.length ≤ 1000) (hd : likePc d x) : m_is_allowed [.sh g, .sh f, .sh d] = some (.sh (.bl (t.lets is x)), [.sh g, .sh f, .sh d]) := by
  obtain ⟨n, c, hd, hn, hc⟩ := hd
  have td := T.ne
  have nn := likeP_ne hn
  have fn : f ≠ .any := by rcases hf with rfl | rfl <;> simp
  have dn := depth_of_ok T hn
  have dd : d ≠ .any := by rcases hd with rfl | rfl <;> simp
  obtain ⟨p, q⟩ := x
  cases q with
  | none =>
    refine fnP_ret (n := 8) (np := 3) (b := b_is_allowed) rfl (en' := [.sh g, .sh f, .sh d, .sh n, .sh c, .sh .any, .sh .any, .sh .any]) ?_
    unfold b_is_allowed
    apply sSeq_nx (en1 := [.sh g, .sh f, .sh d, .sh n, .sh c, .sh .any, .sh .any, .sh .any])
    · rcases hd with rfl | rfl <;> simp [fnP, sSeq, sIf, sAsg, sExpr, sRet, sRetN, sNil, sFor, sPar, sAug, sBk, sCt, gN, gsNil, gsCons, gTupT, gSetI, fC, fVar_eq, vW_sh, vW_lst, vW_ins, vW_dT, evs, fN, fU, gS, gS1, rds, rfz, rtk, R_d_val, R_d_pl, R.fz, R.tk, R_st_val, R_st_pl, R_st_plc, R.out, W.d, W.ds, En.get, En.put, W.get, W.put, oII, tt2, okMul, okDiv, okMod, okPow, oAddI, oSub, oMul, oDiv, oMod, oPow, oLtI, oLeI, oGtI, oGeI, oMax2, oMin2, oNeg, oAddS, oLtS, fAdd, fSub, fMul, fDiv, fMod, fPow, fNeg, fIx, gOr, gAdd, gAddI, fTb, fTr, truthD, fNotT, fAndT, fOrT, fNotV, fAndV, fOrV, fIf, fTup, fLst, gTupD, gLstD, fInt, oInt, fAbs, oAbs, fLen, oLen, fCall, argsOf, putB, outs, gIx, oIxD, gLt, tYesE, fIsi, oNotV, okV, wipeE, restE, W.isSh, W.owned, fMutN, mApp, R.els, D.its, iRange1, iRange2, iSeq, iEnumA, D.walk, fTuple, gTuple, fList, gList, fSorted, gSort, fMutP, qV, qC, slOf, gSl0, gSlLo, gSlHi, gSl2, fSl2, gCatL, gCatT, els2, fPure, frzE, List.map_cons, List.map_nil, fCallP, fCallKP, fMethP, W.clean, W.cleans, D.tdat, D.tdats, size_ok, size_ok1, List.getElem?_cons_zero, List.getElem?_cons_succ, List.getElem?_nil, List.set_cons_zero, List.set_cons_succ, List.length_cons, List.length_nil, List.replicate_succ, List.replicate_zero, List.cons_append, List.nil_append, List.append_nil, tdats_sD, cleans_sW, Tr.tdat]
    have e0 : eqD (.int 0) (.int 0) = some true := eqD_refl (n := 1) (by simp [okD]) (by omega)
    rcases hc with rfl | rfl <;> simp [oEq, e0, Tr.lets, sSeq, fnP, sSeq, sIf, sAsg, sExpr, sRet, sRetN, sNil, sFor, sPar, sAug, sBk, sCt, gN, gsNil, gsCons, gTupT, gSetI, fC, fVar_eq, vW_sh, vW_lst, vW_ins, vW_dT, evs, fN, fU, gS, gS1, rds, rfz, rtk, R_d_val, R_d_pl, R.fz, R.tk, R_st_val, R_st_pl, R_st_plc, R.out, W.d, W.ds, En.get, En.put, W.get, W.put, oII, tt2, okMul, okDiv, okMod, okPow, oAddI, oSub, oMul, oDiv, oMod, oPow, oLtI, oLeI, oGtI, oGeI, oMax2, oMin2, oNeg, oAddS, oLtS, fAdd, fSub, fMul, fDiv, fMod, fPow, fNeg, fIx, gOr, gAdd, gAddI, fTb, fTr, truthD, fNotT, fAndT, fOrT, fNotV, fAndV, fOrV, fIf, fTup, fLst, gTupD, gLstD, fInt, oInt, fAbs, oAbs, fLen, oLen, fCall, argsOf, putB, outs, gIx, oIxD, gLt, tYesE, fIsi, oNotV, okV, wipeE, restE, W.isSh, W.owned, fMutN, mApp, R.els, D.its, iRange1, iRange2, iSeq, iEnumA, D.walk, fTuple, gTuple, fList, gList, fSorted, gSort, fMutP, qV, qC, slOf, gSl0, gSlLo, gSlHi, gSl2, fSl2, gCatL, gCatT, els2, fPure, frzE, List.map_cons, List.map_nil, fCallP, fCallKP, fMethP, W.clean, W.cleans, D.tdat, D.tdats, size_ok, size_ok1, List.getElem?_cons_zero, List.getElem?_cons_succ, List.getElem?_nil, List.set_cons_zero, List.set_cons_succ, List.length_cons, List.length_nil, List.replicate_succ, List.replicate_zero, List.cons_append, List.nil_append, List.append_nil, tdats_sD, cleans_sW, Tr.tdat]
  | some q =>
    have cn := likeP_ne (p := q) hc
    have dc := depth_of_ok T (p := q) hc
    refine fnP_ret (n := 8) (np := 3) (b := b_is_allowed) rfl (en' := [.sh g, .sh f, .sh d, .sh n, .sh c, .sh (.int ((t.deep p : Int) - 1)), .sh (.int ((t.deep q : Int) - 1)), .sh .any]) ?_
    unfold b_is_allowed
    simp only at dn dc
    have lets : t.lets is (p, some q) = (decide (((t.deep p : Int) - 1) ∈ is) || !(is.any fun o => decide ((t.deep p : Int) - 1 < o) && decide (o < (t.deep q : Int) - 1))) := rfl
    rw [lets]
    generalize (t.deep p : Int) - 1 = a at dn ⊢
    generalize (t.deep q : Int) - 1 = b at dc ⊢
    have c1 := compD_map (vs := [7]) (g := gN 7) (f := e_is_allowed_1) (en := [.sh g, .sh f, .sh d, .sh n, .sh c, .sh (.int a), .sh (.int b), .sh .any]) (betw a b) (is.map D.int) [] (by simp; omega) (by simp [fnP, sSeq, sIf, sAsg, sExpr, sRet, sRetN, sNil, sFor, sPar, sAug, sBk, sCt, gN, gsNil, gsCons, gTupT, gSetI, fC, fVar_eq, vW_sh, vW_lst, vW_ins, vW_dT, evs, fN, fU, gS, gS1, rds, rfz, rtk, R_d_val, R_d_pl, R.fz, R.tk, R_st_val, R_st_pl, R_st_plc, R.out, W.d, W.ds, En.get, En.put, W.get, W.put, oII, tt2, okMul, okDiv, okMod, okPow, oAddI, oSub, oMul, oDiv, oMod, oPow, oLtI, oLeI, oGtI, oGeI, oMax2, oMin2, oNeg, oAddS, oLtS, fAdd, fSub, fMul, fDiv, fMod, fPow, fNeg, fIx, gOr, gAdd, gAddI, fTb, fTr, truthD, fNotT, fAndT, fOrT, fNotV, fAndV, fOrV, fIf, fTup, fLst, gTupD, gLstD, fInt, oInt, fAbs, oAbs, fLen, oLen, fCall, argsOf, putB, outs, gIx, oIxD, gLt, tYesE, fIsi, oNotV, okV, wipeE, restE, W.isSh, W.owned, fMutN, mApp, R.els, D.its, iRange1, iRange2, iSeq, iEnumA, D.walk, fTuple, gTuple, fList, gList, fSorted, gSort, fMutP, qV, qC, slOf, gSl0, gSlLo, gSlHi, gSl2, fSl2, gCatL, gCatT, els2, fPure, frzE, List.map_cons, List.map_nil, fCallP, fCallKP, fMethP, W.clean, W.cleans, D.tdat, D.tdats, size_ok, size_ok1, List.getElem?_cons_zero, List.getElem?_cons_succ, List.getElem?_nil, List.set_cons_zero, List.set_cons_succ, List.length_cons, List.length_nil, List.replicate_succ, List.replicate_zero, List.cons_append, List.nil_append, List.append_nil, tdats_sD, cleans_sW, Tr.tdat]) fun x hx => by
      obtain ⟨o, _, rfl⟩ := List.mem_map.mp hx
      refine ⟨[.sh g, .sh f, .sh d, .sh n, .sh c, .sh (.int a), .sh (.int b), .sh (.int o)], [.sh g, .sh f, .sh d, .sh n, .sh c, .sh (.int a), .sh (.int b), .sh (.int o)], .val (betw a b (.int o)), [.sh g, .sh f, .sh d, .sh n, .sh c, .sh (.int a), .sh (.int b), .sh (.int o)], by simp [fnP, sSeq, sIf, sAsg, sExpr, sRet, sRetN, sNil, sFor, sPar, sAug, sBk, sCt, gN, gsNil, gsCons, gTupT, gSetI, fC, fVar_eq, vW_sh, vW_lst, vW_ins, vW_dT, evs, fN, fU, gS, gS1, rds, rfz, rtk, R_d_val, R_d_pl, R.fz, R.tk, R_st_val, R_st_pl, R_st_plc, R.out, W.d, W.ds, En.get, En.put, W.get, W.put, oII, tt2, okMul, okDiv, okMod, okPow, oAddI, oSub, oMul, oDiv, oMod, oPow, oLtI, oLeI, oGtI, oGeI, oMax2, oMin2, oNeg, oAddS, oLtS, fAdd, fSub, fMul, fDiv, fMod, fPow, fNeg, fIx, gOr, gAdd, gAddI, fTb, fTr, truthD, fNotT, fAndT, fOrT, fNotV, fAndV, fOrV, fIf, fTup, fLst, gTupD, gLstD, fInt, oInt, fAbs, oAbs, fLen, oLen, fCall, argsOf, putB, outs, gIx, oIxD, gLt, tYesE, fIsi, oNotV, okV, wipeE, restE, W.isSh, W.owned, fMutN, mApp, R.els, D.its, iRange1, iRange2, iSeq, iEnumA, D.walk, fTuple, gTuple, fList, gList, fSorted, gSort, fMutP, qV, qC, slOf, gSl0, gSlLo, gSlHi, gSl2, fSl2, gCatL, gCatT, els2, fPure, frzE, List.map_cons, List.map_nil, fCallP, fCallKP, fMethP, W.clean, W.cleans, D.tdat, D.tdats, size_ok, size_ok1, List.getElem?_cons_zero, List.getElem?_cons_succ, List.getElem?_nil, List.set_cons_zero, List.set_cons_succ, List.length_cons, List.length_nil, List.replicate_succ, List.replicate_zero, List.cons_append, List.nil_append, List.append_nil, tdats_sD, cleans_sW, Tr.tdat], rfl, ?_, by simp [betw, fnP, sSeq, sIf, sAsg, sExpr, sRet, sRetN, sNil, sFor, sPar, sAug, sBk, sCt, gN, gsNil, gsCons, gTupT, gSetI, fC, fVar_eq, vW_sh, vW_lst, vW_ins, vW_dT, evs, fN, fU, gS, gS1, rds, rfz, rtk, R_d_val, R_d_pl, R.fz, R.tk, R_st_val, R_st_pl, R_st_plc, R.out, W.d, W.ds, En.get, En.put, W.get, W.put, oII, tt2, okMul, okDiv, okMod, okPow, oAddI, oSub, oMul, oDiv, oMod, oPow, oLtI, oLeI, oGtI, oGeI, oMax2, oMin2, oNeg, oAddS, oLtS, fAdd, fSub, fMul, fDiv, fMod, fPow, fNeg, fIx, gOr, gAdd, gAddI, fTb, fTr, truthD, fNotT, fAndT, fOrT, fNotV, fAndV, fOrV, fIf, fTup, fLst, gTupD, gLstD, fInt, oInt, fAbs, oAbs, fLen, oLen, fCall, argsOf, putB, outs, gIx, oIxD, gLt, tYesE, fIsi, oNotV, okV, wipeE, restE, W.isSh, W.owned, fMutN, mApp, R.els, D.its, iRange1, iRange2, iSeq, iEnumA, D.walk, fTuple, gTuple, fList, gList, fSorted, gSort, fMutP, qV, qC, slOf, gSl0, gSlLo, gSlHi, gSl2, fSl2, gCatL, gCatT, els2, fPure, frzE, List.map_cons, List.map_nil, fCallP, fCallKP, fMethP, W.clean, W.cleans, D.tdat, D.tdats, size_ok, size_ok1, List.getElem?_cons_zero, List.getElem?_cons_succ, List.getElem?_nil, List.set_cons_zero, List.set_cons_succ, List.length_cons, List.length_nil, List.replicate_succ, List.replicate_zero, List.cons_append, List.nil_append, List.append_nil, tdats_sD, cleans_sW, Tr.tdat], rfl, by simp [fnP, sSeq, sIf, sAsg, sExpr, sRet, sRetN, sNil, sFor, sPar, sAug, sBk, sCt, gN, gsNil, gsCons, gTupT, gSetI, fC, fVar_eq, vW_sh, vW_lst, vW_ins, vW_dT, evs, fN, fU, gS, gS1, rds, rfz, rtk, R_d_val, R_d_pl, R.fz, R.tk, R_st_val, R_st_pl, R_st_plc, R.out, W.d, W.ds, En.get, En.put, W.get, W.put, oII, tt2, okMul, okDiv, okMod, okPow, oAddI, oSub, oMul, oDiv, oMod, oPow, oLtI, oLeI, oGtI, oGeI, oMax2, oMin2, oNeg, oAddS, oLtS, fAdd, fSub, fMul, fDiv, fMod, fPow, fNeg, fIx, gOr, gAdd, gAddI, fTb, fTr, truthD, fNotT, fAndT, fOrT, fNotV, fAndV, fOrV, fIf, fTup, fLst, gTupD, gLstD, fInt, oInt, fAbs, oAbs, fLen, oLen, fCall, argsOf, putB, outs, gIx, oIxD, gLt, tYesE, fIsi, oNotV, okV, wipeE, restE, W.isSh, W.owned, fMutN, mApp, R.els, D.its, iRange1, iRange2, iSeq, iEnumA, D.walk, fTuple, gTuple, fList, gList, fSorted, gSort, fMutP, qV, qC, slOf, gSl0, gSlLo, gSlHi, gSl2, fSl2, gCatL, gCatT, els2, fPure, frzE, List.map_cons, List.map_nil, fCallP, fCallKP, fMethP, W.clean, W.cleans, D.tdat, D.tdats, size_ok, size_ok1, List.getElem?_cons_zero, List.getElem?_cons_succ, List.getElem?_nil, List.set_cons_zero, List.set_cons_succ, List.length_cons, List.length_nil, List.replicate_succ, List.replicate_zero, List.cons_append, List.nil_append, List.append_nil, tdats_sD, cleans_sW, Tr.tdat]⟩
      by_cases h1 : a < o <;> simp [e_is_allowed_1, fChain, D.v, betw, h1, fnP, sSeq, sIf, sAsg, sExpr, sRet, sRetN, sNil, sFor, sPar, sAug, sBk, sCt, gN, gsNil, gsCons, gTupT, gSetI, fC, fVar_eq, vW_sh, vW_lst, vW_ins, vW_dT, evs, fN, fU, gS, gS1, rds, rfz, rtk, R_d_val, R_d_pl, R.fz, R.tk, R_st_val, R_st_pl, R_st_plc, R.out, W.d, W.ds, En.get, En.put, W.get, W.put, oII, tt2, okMul, okDiv, okMod, okPow, oAddI, oSub, oMul, oDiv, oMod, oPow, oLtI, oLeI, oGtI, oGeI, oMax2, oMin2, oNeg, oAddS, oLtS, fAdd, fSub, fMul, fDiv, fMod, fPow, fNeg, fIx, gOr, gAdd, gAddI, fTb, fTr, truthD, fNotT, fAndT, fOrT, fNotV, fAndV, fOrV, fIf, fTup, fLst, gTupD, gLstD, fInt, oInt, fAbs, oAbs, fLen, oLen, fCall, argsOf, putB, outs, gIx, oIxD, gLt, tYesE, fIsi, oNotV, okV, wipeE, restE, W.isSh, W.owned, fMutN, mApp, R.els, D.its, iRange1, iRange2, iSeq, iEnumA, D.walk, fTuple, gTuple, fList, gList, fSorted, gSort, fMutP, qV, qC, slOf, gSl0, gSlLo, gSlHi, gSl2, fSl2, gCatL, gCatT, els2, fPure, frzE, List.map_cons, List.map_nil, fCallP, fCallKP, fMethP, W.clean, W.cleans, D.tdat, D.tdats, size_ok, size_ok1, List.getElem?_cons_zero, List.getElem?_cons_succ, List.getElem?_nil, List.set_cons_zero, List.set_cons_succ, List.length_cons, List.length_nil, List.replicate_succ, List.replicate_zero, List.cons_append, List.nil_append, List.append_nil, tdats_sD, cleans_sW, Tr.tdat]
    have bl := betw_bls a b is
    have fc : fComp [7] (iSeq (fVar 1)) (gN 7) tYesE e_is_allowed_1 [.sh g, .sh f, .sh d, .sh n, .sh c, .sh (.int a), .sh (.int b), .sh .any] = some ([.sh g, .sh f, .sh d, .sh n, .sh c, .sh (.int a), .sh (.int b), .sh .any], .val (.lst ((is.map D.int).map (betw a b)))) := by
      refine fComp_eq ?_ c1
      rcases hf with rfl | rfl <;> simp [fnP, sSeq, sIf, sAsg, sExpr, sRet, sRetN, sNil, sFor, sPar, sAug, sBk, sCt, gN, gsNil, gsCons, gTupT, gSetI, fC, fVar_eq, vW_sh, vW_lst, vW_ins, vW_dT, evs, fN, fU, gS, gS1, rds, rfz, rtk, R_d_val, R_d_pl, R.fz, R.tk, R_st_val, R_st_pl, R_st_plc, R.out, W.d, W.ds, En.get, En.put, W.get, W.put, oII, tt2, okMul, okDiv, okMod, okPow, oAddI, oSub, oMul, oDiv, oMod, oPow, oLtI, oLeI, oGtI, oGeI, oMax2, oMin2, oNeg, oAddS, oLtS, fAdd, fSub, fMul, fDiv, fMod, fPow, fNeg, fIx, gOr, gAdd, gAddI, fTb, fTr, truthD, fNotT, fAndT, fOrT, fNotV, fAndV, fOrV, fIf, fTup, fLst, gTupD, gLstD, fInt, oInt, fAbs, oAbs, fLen, oLen, fCall, argsOf, putB, outs, gIx, oIxD, gLt, tYesE, fIsi, oNotV, okV, wipeE, restE, W.isSh, W.owned, fMutN, mApp, R.els, D.its, iRange1, iRange2, iSeq, iEnumA, D.walk, fTuple, gTuple, fList, gList, fSorted, gSort, fMutP, qV, qC, slOf, gSl0, gSlLo, gSlHi, gSl2, fSl2, gCatL, gCatT, els2, fPure, frzE, List.map_cons, List.map_nil, fCallP, fCallKP, fMethP, W.clean, W.cleans, D.tdat, D.tdats, size_ok, size_ok1, List.getElem?_cons_zero, List.getElem?_cons_succ, List.getElem?_nil, List.set_cons_zero, List.set_cons_succ, List.length_cons, List.length_nil, List.replicate_succ, List.replicate_zero, List.cons_append, List.nil_append, List.append_nil, tdats_sD, cleans_sW, Tr.tdat]
    have gi : gIn [.sh g, .sh f, .sh d, .sh n, .sh c, .sh (.int a), .sh (.int b), .sh .any] [.val (.sh (.int a)), .val (.sh f)] = some ([.sh g, .sh f, .sh d, .sh n, .sh c, .sh (.int a), .sh (.int b), .sh .any], .val (.sh (.bl (decide (a ∈ is))))) := by
      rcases hf with rfl | rfl <;> simp [gIn, oInS, oInF, D.items, insF_int, fnP, sSeq, sIf, sAsg, sExpr, sRet, sRetN, sNil, sFor, sPar, sAug, sBk, sCt, gN, gsNil, gsCons, gTupT, gSetI, fC, fVar_eq, vW_sh, vW_lst, vW_ins, vW_dT, evs, fN, fU, gS, gS1, rds, rfz, rtk, R_d_val, R_d_pl, R.fz, R.tk, R_st_val, R_st_pl, R_st_plc, R.out, W.d, W.ds, En.get, En.put, W.get, W.put, oII, tt2, okMul, okDiv, okMod, okPow, oAddI, oSub, oMul, oDiv, oMod, oPow, oLtI, oLeI, oGtI, oGeI, oMax2, oMin2, oNeg, oAddS, oLtS, fAdd, fSub, fMul, fDiv, fMod, fPow, fNeg, fIx, gOr, gAdd, gAddI, fTb, fTr, truthD, fNotT, fAndT, fOrT, fNotV, fAndV, fOrV, fIf, fTup, fLst, gTupD, gLstD, fInt, oInt, fAbs, oAbs, fLen, oLen, fCall, argsOf, putB, outs, gIx, oIxD, gLt, tYesE, fIsi, oNotV, okV, wipeE, restE, W.isSh, W.owned, fMutN, mApp, R.els, D.its, iRange1, iRange2, iSeq, iEnumA, D.walk, fTuple, gTuple, fList, gList, fSorted, gSort, fMutP, qV, qC, slOf, gSl0, gSlLo, gSlHi, gSl2, fSl2, gCatL, gCatT, els2, fPure, frzE, List.map_cons, List.map_nil, fCallP, fCallKP, fMethP, W.clean, W.cleans, D.tdat, D.tdats, size_ok, size_ok1, List.getElem?_cons_zero, List.getElem?_cons_succ, List.getElem?_nil, List.set_cons_zero, List.set_cons_succ, List.length_cons, List.length_nil, List.replicate_succ, List.replicate_zero, List.cons_append, List.nil_append, List.append_nil, tdats_sD, cleans_sW, Tr.tdat]
    apply sSeq_nx (en1 := [.sh g, .sh f, .sh d, .sh n, .sh c, .sh .any, .sh .any, .sh .any])
    · rcases hd with rfl | rfl <;> simp [fnP, sSeq, sIf, sAsg, sExpr, sRet, sRetN, sNil, sFor, sPar, sAug, sBk, sCt, gN, gsNil, gsCons, gTupT, gSetI, fC, fVar_eq, vW_sh, vW_lst, vW_ins, vW_dT, evs, fN, fU, gS, gS1, rds, rfz, rtk, R_d_val, R_d_pl, R.fz, R.tk, R_st_val, R_st_pl, R_st_plc, R.out, W.d, W.ds, En.get, En.put, W.get, W.put, oII, tt2, okMul, okDiv, okMod, okPow, oAddI, oSub, oMul, oDiv, oMod, oPow, oLtI, oLeI, oGtI, oGeI, oMax2, oMin2, oNeg, oAddS, oLtS, fAdd, fSub, fMul, fDiv, fMod, fPow, fNeg, fIx, gOr, gAdd, gAddI, fTb, fTr, truthD, fNotT, fAndT, fOrT, fNotV, fAndV, fOrV, fIf, fTup, fLst, gTupD, gLstD, fInt, oInt, fAbs, oAbs, fLen, oLen, fCall, argsOf, putB, outs, gIx, oIxD, gLt, tYesE, fIsi, oNotV, okV, wipeE, restE, W.isSh, W.owned, fMutN, mApp, R.els, D.its, iRange1, iRange2, iSeq, iEnumA, D.walk, fTuple, gTuple, fList, gList, fSorted, gSort, fMutP, qV, qC, slOf, gSl0, gSlLo, gSlHi, gSl2, fSl2, gCatL, gCatT, els2, fPure, frzE, List.map_cons, List.map_nil, fCallP, fCallKP, fMethP, W.clean, W.cleans, D.tdat, D.tdats, size_ok, size_ok1, List.getElem?_cons_zero, List.getElem?_cons_succ, List.getElem?_nil, List.set_cons_zero, List.set_cons_succ, List.length_cons, List.length_nil, List.replicate_succ, List.replicate_zero, List.cons_append, List.nil_append, List.append_nil, tdats_sD, cleans_sW, Tr.tdat]
    have e2 : eqD (.int 2) (.int 0) = some false := by decide +kernel
    apply sSeq_nx (en1 := [.sh g, .sh f, .sh d, .sh n, .sh c, .sh .any, .sh .any, .sh .any])
    · rcases hc with rfl | rfl <;> simp [oEq, e2, fnP, sSeq, sIf, sAsg, sExpr, sRet, sRetN, sNil, sFor, sPar, sAug, sBk, sCt, gN, gsNil, gsCons, gTupT, gSetI, fC, fVar_eq, vW_sh, vW_lst, vW_ins, vW_dT, evs, fN, fU, gS, gS1, rds, rfz, rtk, R_d_val, R_d_pl, R.fz, R.tk, R_st_val, R_st_pl, R_st_plc, R.out, W.d, W.ds, En.get, En.put, W.get, W.put, oII, tt2, okMul, okDiv, okMod, okPow, oAddI, oSub, oMul, oDiv, oMod, oPow, oLtI, oLeI, oGtI, oGeI, oMax2, oMin2, oNeg, oAddS, oLtS, fAdd, fSub, fMul, fDiv, fMod, fPow, fNeg, fIx, gOr, gAdd, gAddI, fTb, fTr, truthD, fNotT, fAndT, fOrT, fNotV, fAndV, fOrV, fIf, fTup, fLst, gTupD, gLstD, fInt, oInt, fAbs, oAbs, fLen, oLen, fCall, argsOf, putB, outs, gIx, oIxD, gLt, tYesE, fIsi, oNotV, okV, wipeE, restE, W.isSh, W.owned, fMutN, mApp, R.els, D.its, iRange1, iRange2, iSeq, iEnumA, D.walk, fTuple, gTuple, fList, gList, fSorted, gSort, fMutP, qV, qC, slOf, gSl0, gSlLo, gSlHi, gSl2, fSl2, gCatL, gCatT, els2, fPure, frzE, List.map_cons, List.map_nil, fCallP, fCallKP, fMethP, W.clean, W.cleans, D.tdat, D.tdats, size_ok, size_ok1, List.getElem?_cons_zero, List.getElem?_cons_succ, List.getElem?_nil, List.set_cons_zero, List.set_cons_succ, List.length_cons, List.length_nil, List.replicate_succ, List.replicate_zero, List.cons_append, List.nil_append, List.append_nil, tdats_sD, cleans_sW, Tr.tdat]
    apply sSeq_nx
    · simp [dn, dc, td, nn, cn, fnP, sSeq, sIf, sAsg, sExpr, sRet, sRetN, sNil, sFor, sPar, sAug, sBk, sCt, gN, gsNil, gsCons, gTupT, gSetI, fC, fVar_eq, vW_sh, vW_lst, vW_ins, vW_dT, evs, fN, fU, gS, gS1, rds, rfz, rtk, R_d_val, R_d_pl, R.fz, R.tk, R_st_val, R_st_pl, R_st_plc, R.out, W.d, W.ds, En.get, En.put, W.get, W.put, oII, tt2, okMul, okDiv, okMod, okPow, oAddI, oSub, oMul, oDiv, oMod, oPow, oLtI, oLeI, oGtI, oGeI, oMax2, oMin2, oNeg, oAddS, oLtS, fAdd, fSub, fMul, fDiv, fMod, fPow, fNeg, fIx, gOr, gAdd, gAddI, fTb, fTr, truthD, fNotT, fAndT, fOrT, fNotV, fAndV, fOrV, fIf, fTup, fLst, gTupD, gLstD, fInt, oInt, fAbs, oAbs, fLen, oLen, fCall, argsOf, putB, outs, gIx, oIxD, gLt, tYesE, fIsi, oNotV, okV, wipeE, restE, W.isSh, W.owned, fMutN, mApp, R.els, D.its, iRange1, iRange2, iSeq, iEnumA, D.walk, fTuple, gTuple, fList, gList, fSorted, gSort, fMutP, qV, qC, slOf, gSl0, gSlLo, gSlHi, gSl2, fSl2, gCatL, gCatT, els2, fPure, frzE, List.map_cons, List.map_nil, fCallP, fCallKP, fMethP, W.clean, W.cleans, D.tdat, D.tdats, size_ok, size_ok1, List.getElem?_cons_zero, List.getElem?_cons_succ, List.getElem?_nil, List.set_cons_zero, List.set_cons_succ, List.length_cons, List.length_nil, List.replicate_succ, List.replicate_zero, List.cons_append, List.nil_append, List.append_nil, tdats_sD, cleans_sW, Tr.tdat]; rfl
    generalize e_is_allowed_1 = ee at fc
    generalize (is.map D.int).map (betw a b) = bs at fc bl
    by_cases h1 : a ∈ is
    · simp [gi, fn, h1, fnP, sSeq, sIf, sAsg, sExpr, sRet, sRetN, sNil, sFor, sPar, sAug, sBk, sCt, gN, gsNil, gsCons, gTupT, gSetI, fC, fVar_eq, vW_sh, vW_lst, vW_ins, vW_dT, evs, fN, fU, gS, gS1, rds, rfz, rtk, R_d_val, R_d_pl, R.fz, R.tk, R_st_val, R_st_pl, R_st_plc, R.out, W.d, W.ds, En.get, En.put, W.get, W.put, oII, tt2, okMul, okDiv, okMod, okPow, oAddI, oSub, oMul, oDiv, oMod, oPow, oLtI, oLeI, oGtI, oGeI, oMax2, oMin2, oNeg, oAddS, oLtS, fAdd, fSub, fMul, fDiv, fMod, fPow, fNeg, fIx, gOr, gAdd, gAddI, fTb, fTr, truthD, fNotT, fAndT, fOrT, fNotV, fAndV, fOrV, fIf, fTup, fLst, gTupD, gLstD, fInt, oInt, fAbs, oAbs, fLen, oLen, fCall, argsOf, putB, outs, gIx, oIxD, gLt, tYesE, fIsi, oNotV, okV, wipeE, restE, W.isSh, W.owned, fMutN, mApp, R.els, D.its, iRange1, iRange2, iSeq, iEnumA, D.walk, fTuple, gTuple, fList, gList, fSorted, gSort, fMutP, qV, qC, slOf, gSl0, gSlLo, gSlHi, gSl2, fSl2, gCatL, gCatT, els2, fPure, frzE, List.map_cons, List.map_nil, fCallP, fCallKP, fMethP, W.clean, W.cleans, D.tdat, D.tdats, size_ok, size_ok1, List.getElem?_cons_zero, List.getElem?_cons_succ, List.getElem?_nil, List.set_cons_zero, List.set_cons_succ, List.length_cons, List.length_nil, List.replicate_succ, List.replicate_zero, List.cons_append, List.nil_append, List.append_nil, tdats_sD, cleans_sW, Tr.tdat]
    · simp [gi, fn, h1, fc, fAny, oAny, D.litems, bl, List.any_map, Function.comp_def, fnP, sSeq, sIf, sAsg, sExpr, sRet, sRetN, sNil, sFor, sPar, sAug, sBk, sCt, gN, gsNil, gsCons, gTupT, gSetI, fC, fVar_eq, vW_sh, vW_lst, vW_ins, vW_dT, evs, fN, fU, gS, gS1, rds, rfz, rtk, R_d_val, R_d_pl, R.fz, R.tk, R_st_val, R_st_pl, R_st_plc, R.out, W.d, W.ds, En.get, En.put, W.get, W.put, oII, tt2, okMul, okDiv, okMod, okPow, oAddI, oSub, oMul, oDiv, oMod, oPow, oLtI, oLeI, oGtI, oGeI, oMax2, oMin2, oNeg, oAddS, oLtS, fAdd, fSub, fMul, fDiv, fMod, fPow, fNeg, fIx, gOr, gAdd, gAddI, fTb, fTr, truthD, fNotT, fAndT, fOrT, fNotV, fAndV, fOrV, fIf, fTup, fLst, gTupD, gLstD, fInt, oInt, fAbs, oAbs, fLen, oLen, fCall, argsOf, putB, outs, gIx, oIxD, gLt, tYesE, fIsi, oNotV, okV, wipeE, restE, W.isSh, W.owned, fMutN, mApp, R.els, D.its, iRange1, iRange2, iSeq, iEnumA, D.walk, fTuple, gTuple, fList, gList, fSorted, gSort, fMutP, qV, qC, slOf, gSl0, gSlLo, gSlHi, gSl2, fSl2, gCatL, gCatT, els2, fPure, frzE, List.map_cons, List.map_nil, fCallP, fCallKP, fMethP, W.clean, W.cleans, D.tdat, D.tdats, size_ok, size_ok1, List.getElem?_cons_zero, List.getElem?_cons_succ, List.getElem?_nil, List.set_cons_zero, List.set_cons_succ, List.length_cons, List.length_nil, List.replicate_succ, List.replicate_zero, List.cons_append, List.nil_append, List.append_nil, tdats_sD, cleans_sW, Tr.tdat]
theorem pcD_like (x : Pc) : likePc (pcD x) x := ⟨pD x.1, qD x.2, .inl rfl, .inl rfl, by
  obtain ⟨p, _ | q⟩ := x
  · exact .inl rfl
  · exact .inl rfl⟩
theorem law_is_let_ok {t : Tr} {x : Pc} {is : List Int} (h : t.leaves.length ≤ 30) (hl : is.length ≤ 1000) : m_law_is_let [.sh t.D, .sh (.tup (is.map D.int)), .sh (pcD x)] = some (.sh (.bl (t.lets is x)), [.sh t.D, .sh (.tup (is.map D.int)), .sh (pcD x)]) := by
  have td := t.D_ne
  obtain ⟨p, q⟩ := x
  have dp := law_deep_ok (p := p) h
  have pn := pD_ne p
  cases q with
  | none =>
    have e0 : eqD (.tup []) (.tup []) = some true := eqD_refl (n := 1) (by simp [okD]) (by omega)
    have i1 : atI [pD p, D.tup []] 1 = some (.tup []) := rfl
    refine fnP_ret (n := 6) (np := 3) (b := b_law_is_let) rfl (en' := [.sh t.D, .sh (.tup (is.map D.int)), .sh (pcD (p, none)), .sh .any, .sh .any, .sh .any]) ?_
    simp [b_law_is_let, pcD, qD, i1, oEq, e0, Tr.lets, sSeq, fnP, sSeq, sIf, sAsg, sExpr, sRet, sRetN, sNil, sFor, sPar, sAug, sBk, sCt, gN, gsNil, gsCons, gTupT, gSetI, fC, fVar_eq, vW_sh, vW_lst, vW_ins, vW_dT, evs, fN, fU, gS, gS1, rds, rfz, rtk, R_d_val, R_d_pl, R.fz, R.tk, R_st_val, R_st_pl, R_st_plc, R.out, W.d, W.ds, En.get, En.put, W.get, W.put, oII, tt2, okMul, okDiv, okMod, okPow, oAddI, oSub, oMul, oDiv, oMod, oPow, oLtI, oLeI, oGtI, oGeI, oMax2, oMin2, oNeg, oAddS, oLtS, fAdd, fSub, fMul, fDiv, fMod, fPow, fNeg, fIx, gOr, gAdd, gAddI, fTb, fTr, truthD, fNotT, fAndT, fOrT, fNotV, fAndV, fOrV, fIf, fTup, fLst, gTupD, gLstD, fInt, oInt, fAbs, oAbs, fLen, oLen, fCall, argsOf, putB, outs, gIx, oIxD, gLt, tYesE, fIsi, oNotV, okV, wipeE, restE, W.isSh, W.owned, fMutN, mApp, R.els, D.its, iRange1, iRange2, iSeq, iEnumA, D.walk, fTuple, gTuple, fList, gList, fSorted, gSort, fMutP, qV, qC, slOf, gSl0, gSlLo, gSlHi, gSl2, fSl2, gCatL, gCatT, els2, fPure, frzE, List.map_cons, List.map_nil, fCallP, fCallKP, fMethP, W.clean, W.cleans, D.tdat, D.tdats, size_ok, size_ok1, List.getElem?_cons_zero, List.getElem?_cons_succ, List.getElem?_nil, List.set_cons_zero, List.set_cons_succ, List.length_cons, List.length_nil, List.replicate_succ, List.replicate_zero, List.cons_append, List.nil_append, List.append_nil, tdats_sD, cleans_sW, Tr.tdat]
  | some q =>
    have dq := law_deep_ok (p := q) h
    have qn := pD_ne q
    have lets : t.lets is (p, some q) = (decide (((t.deep p : Int) - 1) ∈ is) || !(is.any fun o => decide ((t.deep p : Int) - 1 < o) && decide (o < (t.deep q : Int) - 1))) := rfl
    rw [lets]
    have e0 : eqD (pD q) (.tup []) = some false := by
      simp [eqD, pD, D.py, D.pys, SeqAt.shaped, PyData.canLay0, PyData.canLayAll0, PyData.depth, PyData.depthAll, PyData.eqv, PyData.eqvAll]
    have i0 : atI [pD p, pD q] 0 = some (pD p) := rfl
    have i1 : atI [pD p, pD q] 1 = some (pD q) := rfl
    refine fnP_ret (n := 6) (np := 3) (b := b_law_is_let) rfl (en' := [.sh t.D, .sh (.tup (is.map D.int)), .sh (pcD (p, some q)), .sh (.int ((t.deep p : Int) - 1)), .sh (.int ((t.deep q : Int) - 1)), .sh .any]) ?_
    unfold b_law_is_let
    have hp : pcD (p, some q) = .tup [pD p, pD q] := rfl
    rw [hp]
    generalize pD p = dp0 at dp pn i0 i1 ⊢
    generalize pD q = dq0 at dq qn i0 i1 e0 ⊢
    generalize (t.deep p : Int) - 1 = a at dp ⊢
    generalize (t.deep q : Int) - 1 = b at dq ⊢
    have c1 := compD_filter (vs := [5]) (g := gN 5) (t := t_law_is_let_1) (f := fVar 5) (en := [.sh t.D, .sh (.tup (is.map D.int)), .sh (.tup [dp0, dq0]), .sh (.int a), .sh (.int b), .sh .any]) (fun d => match d with | .int o => decide (a < o) && decide (o < b) | _ => false) W.sh (is.map D.int) [] (by simp; omega) (by simp [fnP, sSeq, sIf, sAsg, sExpr, sRet, sRetN, sNil, sFor, sPar, sAug, sBk, sCt, gN, gsNil, gsCons, gTupT, gSetI, fC, fVar_eq, vW_sh, vW_lst, vW_ins, vW_dT, evs, fN, fU, gS, gS1, rds, rfz, rtk, R_d_val, R_d_pl, R.fz, R.tk, R_st_val, R_st_pl, R_st_plc, R.out, W.d, W.ds, En.get, En.put, W.get, W.put, oII, tt2, okMul, okDiv, okMod, okPow, oAddI, oSub, oMul, oDiv, oMod, oPow, oLtI, oLeI, oGtI, oGeI, oMax2, oMin2, oNeg, oAddS, oLtS, fAdd, fSub, fMul, fDiv, fMod, fPow, fNeg, fIx, gOr, gAdd, gAddI, fTb, fTr, truthD, fNotT, fAndT, fOrT, fNotV, fAndV, fOrV, fIf, fTup, fLst, gTupD, gLstD, fInt, oInt, fAbs, oAbs, fLen, oLen, fCall, argsOf, putB, outs, gIx, oIxD, gLt, tYesE, fIsi, oNotV, okV, wipeE, restE, W.isSh, W.owned, fMutN, mApp, R.els, D.its, iRange1, iRange2, iSeq, iEnumA, D.walk, fTuple, gTuple, fList, gList, fSorted, gSort, fMutP, qV, qC, slOf, gSl0, gSlLo, gSlHi, gSl2, fSl2, gCatL, gCatT, els2, fPure, frzE, List.map_cons, List.map_nil, fCallP, fCallKP, fMethP, W.clean, W.cleans, D.tdat, D.tdats, size_ok, size_ok1, List.getElem?_cons_zero, List.getElem?_cons_succ, List.getElem?_nil, List.set_cons_zero, List.set_cons_succ, List.length_cons, List.length_nil, List.replicate_succ, List.replicate_zero, List.cons_append, List.nil_append, List.append_nil, tdats_sD, cleans_sW, Tr.tdat]) fun x hx => by
      obtain ⟨o, _, rfl⟩ := List.mem_map.mp hx
      refine ⟨[.sh t.D, .sh (.tup (is.map D.int)), .sh (.tup [dp0, dq0]), .sh (.int a), .sh (.int b), .sh (.int o)], [.sh t.D, .sh (.tup (is.map D.int)), .sh (.tup [dp0, dq0]), .sh (.int a), .sh (.int b), .sh (.int o)], by simp [fnP, sSeq, sIf, sAsg, sExpr, sRet, sRetN, sNil, sFor, sPar, sAug, sBk, sCt, gN, gsNil, gsCons, gTupT, gSetI, fC, fVar_eq, vW_sh, vW_lst, vW_ins, vW_dT, evs, fN, fU, gS, gS1, rds, rfz, rtk, R_d_val, R_d_pl, R.fz, R.tk, R_st_val, R_st_pl, R_st_plc, R.out, W.d, W.ds, En.get, En.put, W.get, W.put, oII, tt2, okMul, okDiv, okMod, okPow, oAddI, oSub, oMul, oDiv, oMod, oPow, oLtI, oLeI, oGtI, oGeI, oMax2, oMin2, oNeg, oAddS, oLtS, fAdd, fSub, fMul, fDiv, fMod, fPow, fNeg, fIx, gOr, gAdd, gAddI, fTb, fTr, truthD, fNotT, fAndT, fOrT, fNotV, fAndV, fOrV, fIf, fTup, fLst, gTupD, gLstD, fInt, oInt, fAbs, oAbs, fLen, oLen, fCall, argsOf, putB, outs, gIx, oIxD, gLt, tYesE, fIsi, oNotV, okV, wipeE, restE, W.isSh, W.owned, fMutN, mApp, R.els, D.its, iRange1, iRange2, iSeq, iEnumA, D.walk, fTuple, gTuple, fList, gList, fSorted, gSort, fMutP, qV, qC, slOf, gSl0, gSlLo, gSlHi, gSl2, fSl2, gCatL, gCatT, els2, fPure, frzE, List.map_cons, List.map_nil, fCallP, fCallKP, fMethP, W.clean, W.cleans, D.tdat, D.tdats, size_ok, size_ok1, List.getElem?_cons_zero, List.getElem?_cons_succ, List.getElem?_nil, List.set_cons_zero, List.set_cons_succ, List.length_cons, List.length_nil, List.replicate_succ, List.replicate_zero, List.cons_append, List.nil_append, List.append_nil, tdats_sD, cleans_sW, Tr.tdat], ?_, rfl, rfl, by simp [fnP, sSeq, sIf, sAsg, sExpr, sRet, sRetN, sNil, sFor, sPar, sAug, sBk, sCt, gN, gsNil, gsCons, gTupT, gSetI, fC, fVar_eq, vW_sh, vW_lst, vW_ins, vW_dT, evs, fN, fU, gS, gS1, rds, rfz, rtk, R_d_val, R_d_pl, R.fz, R.tk, R_st_val, R_st_pl, R_st_plc, R.out, W.d, W.ds, En.get, En.put, W.get, W.put, oII, tt2, okMul, okDiv, okMod, okPow, oAddI, oSub, oMul, oDiv, oMod, oPow, oLtI, oLeI, oGtI, oGeI, oMax2, oMin2, oNeg, oAddS, oLtS, fAdd, fSub, fMul, fDiv, fMod, fPow, fNeg, fIx, gOr, gAdd, gAddI, fTb, fTr, truthD, fNotT, fAndT, fOrT, fNotV, fAndV, fOrV, fIf, fTup, fLst, gTupD, gLstD, fInt, oInt, fAbs, oAbs, fLen, oLen, fCall, argsOf, putB, outs, gIx, oIxD, gLt, tYesE, fIsi, oNotV, okV, wipeE, restE, W.isSh, W.owned, fMutN, mApp, R.els, D.its, iRange1, iRange2, iSeq, iEnumA, D.walk, fTuple, gTuple, fList, gList, fSorted, gSort, fMutP, qV, qC, slOf, gSl0, gSlLo, gSlHi, gSl2, fSl2, gCatL, gCatT, els2, fPure, frzE, List.map_cons, List.map_nil, fCallP, fCallKP, fMethP, W.clean, W.cleans, D.tdat, D.tdats, size_ok, size_ok1, List.getElem?_cons_zero, List.getElem?_cons_succ, List.getElem?_nil, List.set_cons_zero, List.set_cons_succ, List.length_cons, List.length_nil, List.replicate_succ, List.replicate_zero, List.cons_append, List.nil_append, List.append_nil, tdats_sD, cleans_sW, Tr.tdat], [.sh t.D, .sh (.tup (is.map D.int)), .sh (.tup [dp0, dq0]), .sh (.int a), .sh (.int b), .sh (.int o)], .val (.sh (.int o)), [.sh t.D, .sh (.tup (is.map D.int)), .sh (.tup [dp0, dq0]), .sh (.int a), .sh (.int b), .sh (.int o)], by simp [fnP, sSeq, sIf, sAsg, sExpr, sRet, sRetN, sNil, sFor, sPar, sAug, sBk, sCt, gN, gsNil, gsCons, gTupT, gSetI, fC, fVar_eq, vW_sh, vW_lst, vW_ins, vW_dT, evs, fN, fU, gS, gS1, rds, rfz, rtk, R_d_val, R_d_pl, R.fz, R.tk, R_st_val, R_st_pl, R_st_plc, R.out, W.d, W.ds, En.get, En.put, W.get, W.put, oII, tt2, okMul, okDiv, okMod, okPow, oAddI, oSub, oMul, oDiv, oMod, oPow, oLtI, oLeI, oGtI, oGeI, oMax2, oMin2, oNeg, oAddS, oLtS, fAdd, fSub, fMul, fDiv, fMod, fPow, fNeg, fIx, gOr, gAdd, gAddI, fTb, fTr, truthD, fNotT, fAndT, fOrT, fNotV, fAndV, fOrV, fIf, fTup, fLst, gTupD, gLstD, fInt, oInt, fAbs, oAbs, fLen, oLen, fCall, argsOf, putB, outs, gIx, oIxD, gLt, tYesE, fIsi, oNotV, okV, wipeE, restE, W.isSh, W.owned, fMutN, mApp, R.els, D.its, iRange1, iRange2, iSeq, iEnumA, D.walk, fTuple, gTuple, fList, gList, fSorted, gSort, fMutP, qV, qC, slOf, gSl0, gSlLo, gSlHi, gSl2, fSl2, gCatL, gCatT, els2, fPure, frzE, List.map_cons, List.map_nil, fCallP, fCallKP, fMethP, W.clean, W.cleans, D.tdat, D.tdats, size_ok, size_ok1, List.getElem?_cons_zero, List.getElem?_cons_succ, List.getElem?_nil, List.set_cons_zero, List.set_cons_succ, List.length_cons, List.length_nil, List.replicate_succ, List.replicate_zero, List.cons_append, List.nil_append, List.append_nil, tdats_sD, cleans_sW, Tr.tdat], by simp [fnP, sSeq, sIf, sAsg, sExpr, sRet, sRetN, sNil, sFor, sPar, sAug, sBk, sCt, gN, gsNil, gsCons, gTupT, gSetI, fC, fVar_eq, vW_sh, vW_lst, vW_ins, vW_dT, evs, fN, fU, gS, gS1, rds, rfz, rtk, R_d_val, R_d_pl, R.fz, R.tk, R_st_val, R_st_pl, R_st_plc, R.out, W.d, W.ds, En.get, En.put, W.get, W.put, oII, tt2, okMul, okDiv, okMod, okPow, oAddI, oSub, oMul, oDiv, oMod, oPow, oLtI, oLeI, oGtI, oGeI, oMax2, oMin2, oNeg, oAddS, oLtS, fAdd, fSub, fMul, fDiv, fMod, fPow, fNeg, fIx, gOr, gAdd, gAddI, fTb, fTr, truthD, fNotT, fAndT, fOrT, fNotV, fAndV, fOrV, fIf, fTup, fLst, gTupD, gLstD, fInt, oInt, fAbs, oAbs, fLen, oLen, fCall, argsOf, putB, outs, gIx, oIxD, gLt, tYesE, fIsi, oNotV, okV, wipeE, restE, W.isSh, W.owned, fMutN, mApp, R.els, D.its, iRange1, iRange2, iSeq, iEnumA, D.walk, fTuple, gTuple, fList, gList, fSorted, gSort, fMutP, qV, qC, slOf, gSl0, gSlLo, gSlHi, gSl2, fSl2, gCatL, gCatT, els2, fPure, frzE, List.map_cons, List.map_nil, fCallP, fCallKP, fMethP, W.clean, W.cleans, D.tdat, D.tdats, size_ok, size_ok1, List.getElem?_cons_zero, List.getElem?_cons_succ, List.getElem?_nil, List.set_cons_zero, List.set_cons_succ, List.length_cons, List.length_nil, List.replicate_succ, List.replicate_zero, List.cons_append, List.nil_append, List.append_nil, tdats_sD, cleans_sW, Tr.tdat], rfl, by simp [fnP, sSeq, sIf, sAsg, sExpr, sRet, sRetN, sNil, sFor, sPar, sAug, sBk, sCt, gN, gsNil, gsCons, gTupT, gSetI, fC, fVar_eq, vW_sh, vW_lst, vW_ins, vW_dT, evs, fN, fU, gS, gS1, rds, rfz, rtk, R_d_val, R_d_pl, R.fz, R.tk, R_st_val, R_st_pl, R_st_plc, R.out, W.d, W.ds, En.get, En.put, W.get, W.put, oII, tt2, okMul, okDiv, okMod, okPow, oAddI, oSub, oMul, oDiv, oMod, oPow, oLtI, oLeI, oGtI, oGeI, oMax2, oMin2, oNeg, oAddS, oLtS, fAdd, fSub, fMul, fDiv, fMod, fPow, fNeg, fIx, gOr, gAdd, gAddI, fTb, fTr, truthD, fNotT, fAndT, fOrT, fNotV, fAndV, fOrV, fIf, fTup, fLst, gTupD, gLstD, fInt, oInt, fAbs, oAbs, fLen, oLen, fCall, argsOf, putB, outs, gIx, oIxD, gLt, tYesE, fIsi, oNotV, okV, wipeE, restE, W.isSh, W.owned, fMutN, mApp, R.els, D.its, iRange1, iRange2, iSeq, iEnumA, D.walk, fTuple, gTuple, fList, gList, fSorted, gSort, fMutP, qV, qC, slOf, gSl0, gSlLo, gSlHi, gSl2, fSl2, gCatL, gCatT, els2, fPure, frzE, List.map_cons, List.map_nil, fCallP, fCallKP, fMethP, W.clean, W.cleans, D.tdat, D.tdats, size_ok, size_ok1, List.getElem?_cons_zero, List.getElem?_cons_succ, List.getElem?_nil, List.set_cons_zero, List.set_cons_succ, List.length_cons, List.length_nil, List.replicate_succ, List.replicate_zero, List.cons_append, List.nil_append, List.append_nil, tdats_sD, cleans_sW, Tr.tdat]⟩
      by_cases h1 : a < o <;> simp [t_law_is_let_1, fChain, D.v, h1, fnP, sSeq, sIf, sAsg, sExpr, sRet, sRetN, sNil, sFor, sPar, sAug, sBk, sCt, gN, gsNil, gsCons, gTupT, gSetI, fC, fVar_eq, vW_sh, vW_lst, vW_ins, vW_dT, evs, fN, fU, gS, gS1, rds, rfz, rtk, R_d_val, R_d_pl, R.fz, R.tk, R_st_val, R_st_pl, R_st_plc, R.out, W.d, W.ds, En.get, En.put, W.get, W.put, oII, tt2, okMul, okDiv, okMod, okPow, oAddI, oSub, oMul, oDiv, oMod, oPow, oLtI, oLeI, oGtI, oGeI, oMax2, oMin2, oNeg, oAddS, oLtS, fAdd, fSub, fMul, fDiv, fMod, fPow, fNeg, fIx, gOr, gAdd, gAddI, fTb, fTr, truthD, fNotT, fAndT, fOrT, fNotV, fAndV, fOrV, fIf, fTup, fLst, gTupD, gLstD, fInt, oInt, fAbs, oAbs, fLen, oLen, fCall, argsOf, putB, outs, gIx, oIxD, gLt, tYesE, fIsi, oNotV, okV, wipeE, restE, W.isSh, W.owned, fMutN, mApp, R.els, D.its, iRange1, iRange2, iSeq, iEnumA, D.walk, fTuple, gTuple, fList, gList, fSorted, gSort, fMutP, qV, qC, slOf, gSl0, gSlLo, gSlHi, gSl2, fSl2, gCatL, gCatT, els2, fPure, frzE, List.map_cons, List.map_nil, fCallP, fCallKP, fMethP, W.clean, W.cleans, D.tdat, D.tdats, size_ok, size_ok1, List.getElem?_cons_zero, List.getElem?_cons_succ, List.getElem?_nil, List.set_cons_zero, List.set_cons_succ, List.length_cons, List.length_nil, List.replicate_succ, List.replicate_zero, List.cons_append, List.nil_append, List.append_nil, tdats_sD, cleans_sW, Tr.tdat]
    rw [List.filter_map] at c1
    have fe : ((fun d => match d with | D.int o => decide (a < o) && decide (o < b) | _ => false) ∘ D.int) = fun o : Int => decide (a < o) && decide (o < b) := rfl
    rw [fe] at c1
    have fc := fComp_eq (fi := iSeq (fVar 1)) (en := [.sh t.D, .sh (.tup (is.map D.int)), .sh (.tup [dp0, dq0]), .sh (.int a), .sh (.int b), .sh .any]) (by simp [fnP, sSeq, sIf, sAsg, sExpr, sRet, sRetN, sNil, sFor, sPar, sAug, sBk, sCt, gN, gsNil, gsCons, gTupT, gSetI, fC, fVar_eq, vW_sh, vW_lst, vW_ins, vW_dT, evs, fN, fU, gS, gS1, rds, rfz, rtk, R_d_val, R_d_pl, R.fz, R.tk, R_st_val, R_st_pl, R_st_plc, R.out, W.d, W.ds, En.get, En.put, W.get, W.put, oII, tt2, okMul, okDiv, okMod, okPow, oAddI, oSub, oMul, oDiv, oMod, oPow, oLtI, oLeI, oGtI, oGeI, oMax2, oMin2, oNeg, oAddS, oLtS, fAdd, fSub, fMul, fDiv, fMod, fPow, fNeg, fIx, gOr, gAdd, gAddI, fTb, fTr, truthD, fNotT, fAndT, fOrT, fNotV, fAndV, fOrV, fIf, fTup, fLst, gTupD, gLstD, fInt, oInt, fAbs, oAbs, fLen, oLen, fCall, argsOf, putB, outs, gIx, oIxD, gLt, tYesE, fIsi, oNotV, okV, wipeE, restE, W.isSh, W.owned, fMutN, mApp, R.els, D.its, iRange1, iRange2, iSeq, iEnumA, D.walk, fTuple, gTuple, fList, gList, fSorted, gSort, fMutP, qV, qC, slOf, gSl0, gSlLo, gSlHi, gSl2, fSl2, gCatL, gCatT, els2, fPure, frzE, List.map_cons, List.map_nil, fCallP, fCallKP, fMethP, W.clean, W.cleans, D.tdat, D.tdats, size_ok, size_ok1, List.getElem?_cons_zero, List.getElem?_cons_succ, List.getElem?_nil, List.set_cons_zero, List.set_cons_succ, List.length_cons, List.length_nil, List.replicate_succ, List.replicate_zero, List.cons_append, List.nil_append, List.append_nil, tdats_sD, cleans_sW, Tr.tdat]) c1
    have fl := List.length_filter_le (fun o : Int => decide (a < o) && decide (o < b)) is
    have en := eq_nil_ints (is := is.filter fun o : Int => decide (a < o) && decide (o < b)) (by omega)
    have an : decide (is.filter (fun o : Int => decide (a < o) && decide (o < b)) = []) = !(is.any fun o => decide (a < o) && decide (o < b)) := by
      rw [Bool.eq_iff_iff]
      simp [List.filter_eq_nil_iff]
    rw [an] at en
    generalize is.filter (fun o : Int => decide (a < o) && decide (o < b)) = fs at fc en
    generalize (is.any fun o => decide (a < o) && decide (o < b)) = bo at en ⊢
    generalize t_law_is_let_1 = tt at fc ⊢
    have gi : insF (.int a) (is.map D.int) = some (decide (a ∈ is)) := insF_int a is
    apply sSeq_nx
    · simp [i1, oEq, e0, fnP, sSeq, sIf, sAsg, sExpr, sRet, sRetN, sNil, sFor, sPar, sAug, sBk, sCt, gN, gsNil, gsCons, gTupT, gSetI, fC, fVar_eq, vW_sh, vW_lst, vW_ins, vW_dT, evs, fN, fU, gS, gS1, rds, rfz, rtk, R_d_val, R_d_pl, R.fz, R.tk, R_st_val, R_st_pl, R_st_plc, R.out, W.d, W.ds, En.get, En.put, W.get, W.put, oII, tt2, okMul, okDiv, okMod, okPow, oAddI, oSub, oMul, oDiv, oMod, oPow, oLtI, oLeI, oGtI, oGeI, oMax2, oMin2, oNeg, oAddS, oLtS, fAdd, fSub, fMul, fDiv, fMod, fPow, fNeg, fIx, gOr, gAdd, gAddI, fTb, fTr, truthD, fNotT, fAndT, fOrT, fNotV, fAndV, fOrV, fIf, fTup, fLst, gTupD, gLstD, fInt, oInt, fAbs, oAbs, fLen, oLen, fCall, argsOf, putB, outs, gIx, oIxD, gLt, tYesE, fIsi, oNotV, okV, wipeE, restE, W.isSh, W.owned, fMutN, mApp, R.els, D.its, iRange1, iRange2, iSeq, iEnumA, D.walk, fTuple, gTuple, fList, gList, fSorted, gSort, fMutP, qV, qC, slOf, gSl0, gSlLo, gSlHi, gSl2, fSl2, gCatL, gCatT, els2, fPure, frzE, List.map_cons, List.map_nil, fCallP, fCallKP, fMethP, W.clean, W.cleans, D.tdat, D.tdats, size_ok, size_ok1, List.getElem?_cons_zero, List.getElem?_cons_succ, List.getElem?_nil, List.set_cons_zero, List.set_cons_succ, List.length_cons, List.length_nil, List.replicate_succ, List.replicate_zero, List.cons_append, List.nil_append, List.append_nil, tdats_sD, cleans_sW, Tr.tdat]; rfl
    apply sSeq_nx
    · simp [i0, i1, dp, dq, td, pn, qn, fnP, sSeq, sIf, sAsg, sExpr, sRet, sRetN, sNil, sFor, sPar, sAug, sBk, sCt, gN, gsNil, gsCons, gTupT, gSetI, fC, fVar_eq, vW_sh, vW_lst, vW_ins, vW_dT, evs, fN, fU, gS, gS1, rds, rfz, rtk, R_d_val, R_d_pl, R.fz, R.tk, R_st_val, R_st_pl, R_st_plc, R.out, W.d, W.ds, En.get, En.put, W.get, W.put, oII, tt2, okMul, okDiv, okMod, okPow, oAddI, oSub, oMul, oDiv, oMod, oPow, oLtI, oLeI, oGtI, oGeI, oMax2, oMin2, oNeg, oAddS, oLtS, fAdd, fSub, fMul, fDiv, fMod, fPow, fNeg, fIx, gOr, gAdd, gAddI, fTb, fTr, truthD, fNotT, fAndT, fOrT, fNotV, fAndV, fOrV, fIf, fTup, fLst, gTupD, gLstD, fInt, oInt, fAbs, oAbs, fLen, oLen, fCall, argsOf, putB, outs, gIx, oIxD, gLt, tYesE, fIsi, oNotV, okV, wipeE, restE, W.isSh, W.owned, fMutN, mApp, R.els, D.its, iRange1, iRange2, iSeq, iEnumA, D.walk, fTuple, gTuple, fList, gList, fSorted, gSort, fMutP, qV, qC, slOf, gSl0, gSlLo, gSlHi, gSl2, fSl2, gCatL, gCatT, els2, fPure, frzE, List.map_cons, List.map_nil, fCallP, fCallKP, fMethP, W.clean, W.cleans, D.tdat, D.tdats, size_ok, size_ok1, List.getElem?_cons_zero, List.getElem?_cons_succ, List.getElem?_nil, List.set_cons_zero, List.set_cons_succ, List.length_cons, List.length_nil, List.replicate_succ, List.replicate_zero, List.cons_append, List.nil_append, List.append_nil, tdats_sD, cleans_sW, Tr.tdat]; rfl
    by_cases h1 : a ∈ is
    · simp [gIn, oInS, oInF, D.items, gi, h1, fnP, sSeq, sIf, sAsg, sExpr, sRet, sRetN, sNil, sFor, sPar, sAug, sBk, sCt, gN, gsNil, gsCons, gTupT, gSetI, fC, fVar_eq, vW_sh, vW_lst, vW_ins, vW_dT, evs, fN, fU, gS, gS1, rds, rfz, rtk, R_d_val, R_d_pl, R.fz, R.tk, R_st_val, R_st_pl, R_st_plc, R.out, W.d, W.ds, En.get, En.put, W.get, W.put, oII, tt2, okMul, okDiv, okMod, okPow, oAddI, oSub, oMul, oDiv, oMod, oPow, oLtI, oLeI, oGtI, oGeI, oMax2, oMin2, oNeg, oAddS, oLtS, fAdd, fSub, fMul, fDiv, fMod, fPow, fNeg, fIx, gOr, gAdd, gAddI, fTb, fTr, truthD, fNotT, fAndT, fOrT, fNotV, fAndV, fOrV, fIf, fTup, fLst, gTupD, gLstD, fInt, oInt, fAbs, oAbs, fLen, oLen, fCall, argsOf, putB, outs, gIx, oIxD, gLt, tYesE, fIsi, oNotV, okV, wipeE, restE, W.isSh, W.owned, fMutN, mApp, R.els, D.its, iRange1, iRange2, iSeq, iEnumA, D.walk, fTuple, gTuple, fList, gList, fSorted, gSort, fMutP, qV, qC, slOf, gSl0, gSlLo, gSlHi, gSl2, fSl2, gCatL, gCatT, els2, fPure, frzE, List.map_cons, List.map_nil, fCallP, fCallKP, fMethP, W.clean, W.cleans, D.tdat, D.tdats, size_ok, size_ok1, List.getElem?_cons_zero, List.getElem?_cons_succ, List.getElem?_nil, List.set_cons_zero, List.set_cons_succ, List.length_cons, List.length_nil, List.replicate_succ, List.replicate_zero, List.cons_append, List.nil_append, List.append_nil, tdats_sD, cleans_sW, Tr.tdat]
    · simp [gIn, oInS, oInF, D.items, gi, h1, fc, dsh_ds, -List.map_map, oEq, en, fnP, sSeq, sIf, sAsg, sExpr, sRet, sRetN, sNil, sFor, sPar, sAug, sBk, sCt, gN, gsNil, gsCons, gTupT, gSetI, fC, fVar_eq, vW_sh, vW_lst, vW_ins, vW_dT, evs, fN, fU, gS, gS1, rds, rfz, rtk, R_d_val, R_d_pl, R.fz, R.tk, R_st_val, R_st_pl, R_st_plc, R.out, W.d, W.ds, En.get, En.put, W.get, W.put, oII, tt2, okMul, okDiv, okMod, okPow, oAddI, oSub, oMul, oDiv, oMod, oPow, oLtI, oLeI, oGtI, oGeI, oMax2, oMin2, oNeg, oAddS, oLtS, fAdd, fSub, fMul, fDiv, fMod, fPow, fNeg, fIx, gOr, gAdd, gAddI, fTb, fTr, truthD, fNotT, fAndT, fOrT, fNotV, fAndV, fOrV, fIf, fTup, fLst, gTupD, gLstD, fInt, oInt, fAbs, oAbs, fLen, oLen, fCall, argsOf, putB, outs, gIx, oIxD, gLt, tYesE, fIsi, oNotV, okV, wipeE, restE, W.isSh, W.owned, fMutN, mApp, R.els, D.its, iRange1, iRange2, iSeq, iEnumA, D.walk, fTuple, gTuple, fList, gList, fSorted, gSort, fMutP, qV, qC, slOf, gSl0, gSlLo, gSlHi, gSl2, fSl2, gCatL, gCatT, els2, fPure, frzE, List.map_cons, List.map_nil, fCallP, fCallKP, fMethP, W.clean, W.cleans, D.tdat, D.tdats, size_ok, size_ok1, List.getElem?_cons_zero, List.getElem?_cons_succ, List.getElem?_nil, List.set_cons_zero, List.set_cons_succ, List.length_cons, List.length_nil, List.replicate_succ, List.replicate_zero, List.cons_append, List.nil_append, List.append_nil, tdats_sD, cleans_sW, Tr.tdat]
end Pu

namespace Pu
open PySem L2
theorem softPc (x : Pc) : likePc (toL 40 (pcD x)) x := by
  obtain ⟨p, _ | q⟩ := x
  · exact ⟨.lst [.int (p.1 : Int), .int (p.2 : Int)], .lst [], .inr rfl, .inr rfl, .inr rfl⟩
  · exact ⟨.lst [.int (p.1 : Int), .int (p.2 : Int)], .lst [.int (q.1 : Int), .int (q.2 : Int)], .inr rfl, .inr rfl, .inr rfl⟩
theorem okD_pc {n : Nat} (x : Pc) : okD (n + 3) (pcD x) := by
  obtain ⟨p, _ | q⟩ := x
  · refine okD_tup (n := n + 2) (by simp) fun y hy => ?_
    simp only [List.mem_cons, List.not_mem_nil, or_false] at hy
    rcases hy with rfl | rfl
    · exact okD_pD p
    · exact okD_tup (n := n + 1) (by simp) (by simp)
  · refine okD_tup (n := n + 2) (by simp) fun y hy => ?_
    simp only [List.mem_cons, List.not_mem_nil, or_false] at hy
    rcases hy with rfl | rfl
    · exact okD_pD p
    · exact okD_pD q
theorem same_two {b : D} (h : okD 39 b) : m_law_same 40 [.sh (.lst [b, b]), .sh (.lst [b, b])] = some (.sh (.bl true), [.sh (.lst [b, b]), .sh (.lst [b, b])]) :=
  same_ok (okD_lst (n := 39) (by simp) fun x hx => by
    simp only [List.mem_cons, List.not_mem_nil, or_false, or_self] at hx
    exact hx ▸ h) (by omega) (.inl rfl) (.inl rfl)
theorem piece_ok {t : Tr} {x : Pc} {is : List Int} {g : D} {wa wb x0 x1 x6 x7 : W} (T1 : TrG t.D t) (T2 : TrG g t) (hl : is.length ≤ 6) (ha : wa.d = g) (hb : wb = .lst (iW is) ∨ wb = .sh (.lst (is.map D.int))) :
    ∃ y6 y7, l_law_right_1 [x0, x1, .lst [wa, wb], .sh (pcD x), .sh t.D, .sh (.tup (is.map D.int)), x6, x7] = some ([x0, x1, .lst [.sh g, .sh (.lst (is.map D.int))], .sh (pcD x), .sh t.D, .sh (.tup (is.map D.int)), y6, y7], .nx) := by
  have lt := law_is_let_ok (x := x) (is := is) T1.len (by omega)
  have a1 := is_allowed_ok (is := is) T1 (.inl rfl) (by omega) (pcD_like x)
  have a2 := is_allowed_ok (is := is) T2 (.inr rfl) (by omega) (softPc x)
  have ls := lists_ok (okD_pc (n := 37) x) (w := .sh (pcD x)) (.inl rfl)
  have cl := okD_clean (okD_pc (n := 37) x)
  have wd : (toW 40 (pcD x)).d = toL 40 (pcD x) := toW_d
  have tn : toL 40 (pcD x) ≠ .any := okD_ne (okD_toL (okD_pc (n := 37) x))
  have td := T1.ne
  have gd := T2.ne
  have xn := okD_ne (okD_pc (n := 0) x)
  have sm := same_two (b := .bl (t.lets is x)) (by simp [okD])
  generalize t.lets is x = b at lt a1 a2 sm
  generalize pcD x = dx at *
  generalize toL 40 dx = lx at *
  generalize toW 40 dx = wx at *
  refine ⟨.sh (.bl b), .lst [.sh (.bl b), .sh (.bl b)], ?_⟩
  unfold l_law_right_1
  generalize m_law_same 40 = f3 at sm ⊢
  generalize m_law_is_let = f4 at lt ⊢
  generalize m_is_allowed = f5 at a1 a2 ⊢
  generalize m_law_lists 40 = f6 at ls ⊢
  clear T2
  apply sSeq_nx
  · simp [lt, td, xn, fnP, sSeq, sIf, sAsg, sExpr, sRet, sRetN, sNil, sFor, sPar, sAug, sBk, sCt, gN, gsNil, gsCons, gTupT, gSetI, fC, fVar_eq, vW_sh, vW_lst, vW_ins, vW_dT, evs, fN, fU, gS, gS1, rds, rfz, rtk, R_d_val, R_d_pl, R.fz, R.tk, R_st_val, R_st_pl, R_st_plc, R.out, W.d, W.ds, En.get, En.put, W.get, W.put, oII, tt2, okMul, okDiv, okMod, okPow, oAddI, oSub, oMul, oDiv, oMod, oPow, oLtI, oLeI, oGtI, oGeI, oMax2, oMin2, oNeg, oAddS, oLtS, fAdd, fSub, fMul, fDiv, fMod, fPow, fNeg, fIx, gOr, gAdd, gAddI, fTb, fTr, truthD, fNotT, fAndT, fOrT, fNotV, fAndV, fOrV, fIf, fTup, fLst, gTupD, gLstD, fInt, oInt, fAbs, oAbs, fLen, oLen, fCall, argsOf, putB, outs, gIx, oIxD, gLt, tYesE, fIsi, oNotV, okV, wipeE, restE, W.isSh, W.owned, fMutN, mApp, R.els, D.its, iRange1, iRange2, iSeq, iEnumA, D.walk, fTuple, gTuple, fList, gList, fSorted, gSort, fMutP, qV, qC, slOf, gSl0, gSlLo, gSlHi, gSl2, fSl2, gCatL, gCatT, els2, fPure, frzE, List.map_cons, List.map_nil, fCallP, fCallKP, fMethP, W.clean, W.cleans, D.tdat, D.tdats, size_ok, size_ok1, List.getElem?_cons_zero, List.getElem?_cons_succ, List.getElem?_nil, List.set_cons_zero, List.set_cons_succ, List.length_cons, List.length_nil, List.replicate_succ, List.replicate_zero, List.cons_append, List.nil_append, List.append_nil, tdats_sD, cleans_sW, Tr.tdat]; rfl
  apply sSeq_nx (en1 := [x0, x1, .lst [.sh g, .sh (.lst (is.map D.int))], .sh dx, .sh t.D, .sh (.tup (is.map D.int)), .sh (.bl b), .lst [.sh (.bl b), .sh (.bl b)]])
  · have ix0 : ixN 2 0 = some 0 := by decide
    have ix1 : ixN 2 1 = some 1 := by decide
    subst ha
    rcases hb with rfl | rfl
    all_goals
      cases wa with
      | sh d =>
        simp only [W.d] at a2 gd
        simp [a1, a2, ix0, ix1, ls, cl, wd, iW_ds, td, xn, gd, tn, fnP, sSeq, sIf, sAsg, sExpr, sRet, sRetN, sNil, sFor, sPar, sAug, sBk, sCt, gN, gsNil, gsCons, gTupT, gSetI, fC, fVar_eq, vW_sh, vW_lst, vW_ins, vW_dT, evs, fN, fU, gS, gS1, rds, rfz, rtk, R_d_val, R_d_pl, R.fz, R.tk, R_st_val, R_st_pl, R_st_plc, R.out, W.d, W.ds, En.get, En.put, W.get, W.put, oII, tt2, okMul, okDiv, okMod, okPow, oAddI, oSub, oMul, oDiv, oMod, oPow, oLtI, oLeI, oGtI, oGeI, oMax2, oMin2, oNeg, oAddS, oLtS, fAdd, fSub, fMul, fDiv, fMod, fPow, fNeg, fIx, gOr, gAdd, gAddI, fTb, fTr, truthD, fNotT, fAndT, fOrT, fNotV, fAndV, fOrV, fIf, fTup, fLst, gTupD, gLstD, fInt, oInt, fAbs, oAbs, fLen, oLen, fCall, argsOf, putB, outs, gIx, oIxD, gLt, tYesE, fIsi, oNotV, okV, wipeE, restE, W.isSh, W.owned, fMutN, mApp, R.els, D.its, iRange1, iRange2, iSeq, iEnumA, D.walk, fTuple, gTuple, fList, gList, fSorted, gSort, fMutP, qV, qC, slOf, gSl0, gSlLo, gSlHi, gSl2, fSl2, gCatL, gCatT, els2, fPure, frzE, List.map_cons, List.map_nil, fCallP, fCallKP, fMethP, W.clean, W.cleans, D.tdat, D.tdats, size_ok, size_ok1, List.getElem?_cons_zero, List.getElem?_cons_succ, List.getElem?_nil, List.set_cons_zero, List.set_cons_succ, List.length_cons, List.length_nil, List.replicate_succ, List.replicate_zero, List.cons_append, List.nil_append, List.append_nil, tdats_sD, cleans_sW, Tr.tdat]
      | _ =>
        simp only [W.d] at a2 gd
        simp [a1, a2, ix0, ix1, ls, cl, wd, iW_ds, td, xn, tn, fnP, sSeq, sIf, sAsg, sExpr, sRet, sRetN, sNil, sFor, sPar, sAug, sBk, sCt, gN, gsNil, gsCons, gTupT, gSetI, fC, fVar_eq, vW_sh, vW_lst, vW_ins, vW_dT, evs, fN, fU, gS, gS1, rds, rfz, rtk, R_d_val, R_d_pl, R.fz, R.tk, R_st_val, R_st_pl, R_st_plc, R.out, W.d, W.ds, En.get, En.put, W.get, W.put, oII, tt2, okMul, okDiv, okMod, okPow, oAddI, oSub, oMul, oDiv, oMod, oPow, oLtI, oLeI, oGtI, oGeI, oMax2, oMin2, oNeg, oAddS, oLtS, fAdd, fSub, fMul, fDiv, fMod, fPow, fNeg, fIx, gOr, gAdd, gAddI, fTb, fTr, truthD, fNotT, fAndT, fOrT, fNotV, fAndV, fOrV, fIf, fTup, fLst, gTupD, gLstD, fInt, oInt, fAbs, oAbs, fLen, oLen, fCall, argsOf, putB, outs, gIx, oIxD, gLt, tYesE, fIsi, oNotV, okV, wipeE, restE, W.isSh, W.owned, fMutN, mApp, R.els, D.its, iRange1, iRange2, iSeq, iEnumA, D.walk, fTuple, gTuple, fList, gList, fSorted, gSort, fMutP, qV, qC, slOf, gSl0, gSlLo, gSlHi, gSl2, fSl2, gCatL, gCatT, els2, fPure, frzE, List.map_cons, List.map_nil, fCallP, fCallKP, fMethP, W.clean, W.cleans, D.tdat, D.tdats, size_ok, size_ok1, List.getElem?_cons_zero, List.getElem?_cons_succ, List.getElem?_nil, List.set_cons_zero, List.set_cons_succ, List.length_cons, List.length_nil, List.replicate_succ, List.replicate_zero, List.cons_append, List.nil_append, List.append_nil, tdats_sD, cleans_sW, Tr.tdat]
  · simp [sm, fnP, sSeq, sIf, sAsg, sExpr, sRet, sRetN, sNil, sFor, sPar, sAug, sBk, sCt, gN, gsNil, gsCons, gTupT, gSetI, fC, fVar_eq, vW_sh, vW_lst, vW_ins, vW_dT, evs, fN, fU, gS, gS1, rds, rfz, rtk, R_d_val, R_d_pl, R.fz, R.tk, R_st_val, R_st_pl, R_st_plc, R.out, W.d, W.ds, En.get, En.put, W.get, W.put, oII, tt2, okMul, okDiv, okMod, okPow, oAddI, oSub, oMul, oDiv, oMod, oPow, oLtI, oLeI, oGtI, oGeI, oMax2, oMin2, oNeg, oAddS, oLtS, fAdd, fSub, fMul, fDiv, fMod, fPow, fNeg, fIx, gOr, gAdd, gAddI, fTb, fTr, truthD, fNotT, fAndT, fOrT, fNotV, fAndV, fOrV, fIf, fTup, fLst, gTupD, gLstD, fInt, oInt, fAbs, oAbs, fLen, oLen, fCall, argsOf, putB, outs, gIx, oIxD, gLt, tYesE, fIsi, oNotV, okV, wipeE, restE, W.isSh, W.owned, fMutN, mApp, R.els, D.its, iRange1, iRange2, iSeq, iEnumA, D.walk, fTuple, gTuple, fList, gList, fSorted, gSort, fMutP, qV, qC, slOf, gSl0, gSlLo, gSlHi, gSl2, fSl2, gCatL, gCatT, els2, fPure, frzE, List.map_cons, List.map_nil, fCallP, fCallKP, fMethP, W.clean, W.cleans, D.tdat, D.tdats, size_ok, size_ok1, List.getElem?_cons_zero, List.getElem?_cons_succ, List.getElem?_nil, List.set_cons_zero, List.set_cons_succ, List.length_cons, List.length_nil, List.replicate_succ, List.replicate_zero, List.cons_append, List.nil_append, List.append_nil, tdats_sD, cleans_sW, Tr.tdat]
theorem pieces_walk {t : Tr} {is : List Int} {g : D} {x0 x1 : W} (T1 : TrG t.D t) (T2 : TrG g t) (hl : is.length ≤ 6) : ∀ (xs : List Pc) (x3 x6 x7 wa wb : W), wa.d = g → (wb = .lst (iW is) ∨ wb = .sh (.lst (is.map D.int))) →
    ∃ y3 y6 y7 wc we, forD (gN 3) l_law_right_1 (xs.map pcD) [x0, x1, .lst [wa, wb], x3, .sh t.D, .sh (.tup (is.map D.int)), x6, x7] = some ([x0, x1, .lst [wc, we], y3, .sh t.D, .sh (.tup (is.map D.int)), y6, y7], .nx) ∧ wc.d = g ∧ we.d = .lst (is.map D.int)
  | [], x3, x6, x7, wa, wb, ha, hb => ⟨x3, x6, x7, wa, wb, by simp [forD], ha, by rcases hb with rfl | rfl <;> simp [W.d, iW_ds]⟩
  | x :: xs, x3, x6, x7, wa, wb, ha, hb => by
    obtain ⟨y6, y7, e⟩ := piece_ok (x := x) (x0 := x0) (x1 := x1) (x6 := x6) (x7 := x7) T1 T2 hl ha hb
    obtain ⟨z3, z6, z7, wc, we, e2, h1, h2⟩ := pieces_walk (x0 := x0) (x1 := x1) T1 T2 hl xs (.sh (pcD x)) y6 y7 (.sh g) (.sh (.lst (is.map D.int))) rfl (.inr rfl)
    exact ⟨z3, z6, z7, wc, we, forD_nx (by simp [gN]) e e2, h1, h2⟩
theorem right_step {c : Nat} {u x1 x2 x3 x4 x5 x6 x7 : W} (h : Urn c u) (hc : c ≤ 700000) : ∃ u' ys, l_law_right_2 [u, x1, x2, x3, x4, x5, x6, x7] = some (u' :: ys, .nx) ∧ ys.length = 7 ∧ Urn (c + 100) u' := by
  obtain ⟨u1, t, e1, hu1, hl, hnd, hx⟩ := tale_ok (top := 8) h (by omega) (by omega) (by omega)
  obtain ⟨u2, is, e2, hu2, il⟩ := floors_ok hu1 (by omega)
  have hok : ∀ x ∈ t.leaves, PyData.strOk x = true := fun x z => pool16_ok x (hx x z)
  have T1 : TrG t.D t := TrG.self (by omega) hok
  have treeOk : okT 39 t.D := t.okT hok (by have := t.dep_lt; omega)
  have T2 : TrG (toL 39 t.D) t := ⟨okD_mono (okD_toL (okT_D treeOk)) (by omega), toT_toL' treeOk (by omega), by omega, hok⟩
  have wd : (toW 39 t.D).d = toL 39 t.D := toW_d
  have okp : okD 40 (.lst [t.D, .tup (is.map D.int)]) := okD_lst (n := 39) (by simp) fun x hx => by
    simp only [List.mem_cons, List.not_mem_nil, or_false] at hx
    rcases hx with rfl | rfl
    · exact okT_D treeOk
    · exact okD_intsT (n := 37) (by omega)
  have ls := lists_ok okp (w := .sh (.lst [t.D, .tup (is.map D.int)])) (.inl rfl)
  have iwm : is.map (toW 38 ∘ D.int) = iW is := rfl
  have tw : toW 40 (.lst [t.D, .tup (is.map D.int)]) = .lst [toW 39 t.D, .lst (iW is)] :=
    (toW_lst (n := 39)).trans (by rw [List.map_cons, List.map_cons, List.map_nil, (toW_tup (n := 38) : toW 39 (.tup (is.map D.int)) = _), List.map_map, iwm])
  rw [tw] at ls
  have okL := okD_toL okp
  have eqS := eqD_refl okL (by omega)
  have td2 : (toW 40 (.lst [t.D, .tup (is.map D.int)])).d = toL 40 (.lst [t.D, .tup (is.map D.int)]) := toW_d
  rw [tw] at td2
  have cl := okD_clean okp
  rw [tw] at cl
  have pc := pieces_ok (t := t) (by omega)
  have cp := cleans_pcW t.pcs
  have td := T1.ne
  obtain ⟨a, b, tu, rfl, _⟩ := id h
  obtain ⟨a1, b1, tu1, rfl, _⟩ := id hu1
  obtain ⟨a2, b2, tu2, rfl, _⟩ := id hu2
  replace e1 : m_law_tale [W.lst [W.sh (D.int a), W.sh (D.int b), W.sh (D.int tu)], W.sh (D.int 8)] = some (W.sh t.D, [W.lst [W.sh (D.int a1), W.sh (D.int b1), W.sh (D.int tu1)], W.sh (D.int 8)]) := e1
  generalize toW 39 t.D = wg at ls wd cl td2
  obtain ⟨y3, y6, y7, wc, we, lp, hc, he⟩ := pieces_walk (x0 := W.lst [W.sh (D.int a2), W.sh (D.int b2), W.sh (D.int tu2)]) (x1 := x1) T1 T2 il t.pcs x3 x6 x7 wg (.lst (iW is)) wd (.inl rfl)
  refine ⟨.lst [W.sh (D.int a2), W.sh (D.int b2), W.sh (D.int tu2)], [x1, .lst [wc, we], y3, .sh t.D, .sh (.tup (is.map D.int)), y6, y7], ?_, rfl, hu2.mono (by omega)⟩
  unfold l_law_right_2
  generalize m_law_tale = f1 at e1 ⊢
  generalize m_law_lists 40 = f2 at ls ⊢
  generalize m_law_floors = f3 at e2 ⊢
  generalize m_law_pieces = f4 at pc ⊢
  generalize l_law_right_1 = body at lp ⊢
  apply sSeq_nx
  · simp [e1, e2, td, fnP, sSeq, sIf, sAsg, sExpr, sRet, sRetN, sNil, sFor, sPar, sAug, sBk, sCt, gN, gsNil, gsCons, gTupT, gSetI, fC, fVar_eq, vW_sh, vW_lst, vW_ins, vW_dT, evs, fN, fU, gS, gS1, rds, rfz, rtk, R_d_val, R_d_pl, R.fz, R.tk, R_st_val, R_st_pl, R_st_plc, R.out, W.d, W.ds, En.get, En.put, W.get, W.put, oII, tt2, okMul, okDiv, okMod, okPow, oAddI, oSub, oMul, oDiv, oMod, oPow, oLtI, oLeI, oGtI, oGeI, oMax2, oMin2, oNeg, oAddS, oLtS, fAdd, fSub, fMul, fDiv, fMod, fPow, fNeg, fIx, gOr, gAdd, gAddI, fTb, fTr, truthD, fNotT, fAndT, fOrT, fNotV, fAndV, fOrV, fIf, fTup, fLst, gTupD, gLstD, fInt, oInt, fAbs, oAbs, fLen, oLen, fCall, argsOf, putB, outs, gIx, oIxD, gLt, tYesE, fIsi, oNotV, okV, wipeE, restE, W.isSh, W.owned, fMutN, mApp, R.els, D.its, iRange1, iRange2, iSeq, iEnumA, D.walk, fTuple, gTuple, fList, gList, fSorted, gSort, fMutP, qV, qC, slOf, gSl0, gSlLo, gSlHi, gSl2, fSl2, gCatL, gCatT, els2, fPure, frzE, List.map_cons, List.map_nil, fCallP, fCallKP, fMethP, W.clean, W.cleans, D.tdat, D.tdats, size_ok, size_ok1, List.getElem?_cons_zero, List.getElem?_cons_succ, List.getElem?_nil, List.set_cons_zero, List.set_cons_succ, List.length_cons, List.length_nil, List.replicate_succ, List.replicate_zero, List.cons_append, List.nil_append, List.append_nil, tdats_sD, cleans_sW, Tr.tdat]; rfl
  apply sSeq_nx
  · simp [W.clean, W.cleans] at cl
    simp [ls, td, cl, fnP, sSeq, sIf, sAsg, sExpr, sRet, sRetN, sNil, sFor, sPar, sAug, sBk, sCt, gN, gsNil, gsCons, gTupT, gSetI, fC, fVar_eq, vW_sh, vW_lst, vW_ins, vW_dT, evs, fN, fU, gS, gS1, rds, rfz, rtk, R_d_val, R_d_pl, R.fz, R.tk, R_st_val, R_st_pl, R_st_plc, R.out, W.d, W.ds, En.get, En.put, W.get, W.put, oII, tt2, okMul, okDiv, okMod, okPow, oAddI, oSub, oMul, oDiv, oMod, oPow, oLtI, oLeI, oGtI, oGeI, oMax2, oMin2, oNeg, oAddS, oLtS, fAdd, fSub, fMul, fDiv, fMod, fPow, fNeg, fIx, gOr, gAdd, gAddI, fTb, fTr, truthD, fNotT, fAndT, fOrT, fNotV, fAndV, fOrV, fIf, fTup, fLst, gTupD, gLstD, fInt, oInt, fAbs, oAbs, fLen, oLen, fCall, argsOf, putB, outs, gIx, oIxD, gLt, tYesE, fIsi, oNotV, okV, wipeE, restE, W.isSh, W.owned, fMutN, mApp, R.els, D.its, iRange1, iRange2, iSeq, iEnumA, D.walk, fTuple, gTuple, fList, gList, fSorted, gSort, fMutP, qV, qC, slOf, gSl0, gSlLo, gSlHi, gSl2, fSl2, gCatL, gCatT, els2, fPure, frzE, List.map_cons, List.map_nil, fCallP, fCallKP, fMethP, W.clean, W.cleans, D.tdat, D.tdats, size_ok, size_ok1, List.getElem?_cons_zero, List.getElem?_cons_succ, List.getElem?_nil, List.set_cons_zero, List.set_cons_succ, List.length_cons, List.length_nil, List.replicate_succ, List.replicate_zero, List.cons_append, List.nil_append, List.append_nil, tdats_sD, cleans_sW, Tr.tdat]; rfl
  apply sSeq_nx
  · refine sFor_eq ?_ lp
    simp [pc, td, cp, pcW_ds, D.walk, fnP, sSeq, sIf, sAsg, sExpr, sRet, sRetN, sNil, sFor, sPar, sAug, sBk, sCt, gN, gsNil, gsCons, gTupT, gSetI, fC, fVar_eq, vW_sh, vW_lst, vW_ins, vW_dT, evs, fN, fU, gS, gS1, rds, rfz, rtk, R_d_val, R_d_pl, R.fz, R.tk, R_st_val, R_st_pl, R_st_plc, R.out, W.d, W.ds, En.get, En.put, W.get, W.put, oII, tt2, okMul, okDiv, okMod, okPow, oAddI, oSub, oMul, oDiv, oMod, oPow, oLtI, oLeI, oGtI, oGeI, oMax2, oMin2, oNeg, oAddS, oLtS, fAdd, fSub, fMul, fDiv, fMod, fPow, fNeg, fIx, gOr, gAdd, gAddI, fTb, fTr, truthD, fNotT, fAndT, fOrT, fNotV, fAndV, fOrV, fIf, fTup, fLst, gTupD, gLstD, fInt, oInt, fAbs, oAbs, fLen, oLen, fCall, argsOf, putB, outs, gIx, oIxD, gLt, tYesE, fIsi, oNotV, okV, wipeE, restE, W.isSh, W.owned, fMutN, mApp, R.els, D.its, iRange1, iRange2, iSeq, iEnumA, D.walk, fTuple, gTuple, fList, gList, fSorted, gSort, fMutP, qV, qC, slOf, gSl0, gSlLo, gSlHi, gSl2, fSl2, gCatL, gCatT, els2, fPure, frzE, List.map_cons, List.map_nil, fCallP, fCallKP, fMethP, W.clean, W.cleans, D.tdat, D.tdats, size_ok, size_ok1, List.getElem?_cons_zero, List.getElem?_cons_succ, List.getElem?_nil, List.set_cons_zero, List.set_cons_succ, List.length_cons, List.length_nil, List.replicate_succ, List.replicate_zero, List.cons_append, List.nil_append, List.append_nil, tdats_sD, cleans_sW, Tr.tdat]
  · simp [W.clean, W.cleans] at cl
    rw [← td2] at eqS
    simp only [W.d, W.ds, wd, iW_ds] at eqS
    simp [ls, td, cl, wd, hc, he, iW_ds, oNe, eqS, fnP, sSeq, sIf, sAsg, sExpr, sRet, sRetN, sNil, sFor, sPar, sAug, sBk, sCt, gN, gsNil, gsCons, gTupT, gSetI, fC, fVar_eq, vW_sh, vW_lst, vW_ins, vW_dT, evs, fN, fU, gS, gS1, rds, rfz, rtk, R_d_val, R_d_pl, R.fz, R.tk, R_st_val, R_st_pl, R_st_plc, R.out, W.d, W.ds, En.get, En.put, W.get, W.put, oII, tt2, okMul, okDiv, okMod, okPow, oAddI, oSub, oMul, oDiv, oMod, oPow, oLtI, oLeI, oGtI, oGeI, oMax2, oMin2, oNeg, oAddS, oLtS, fAdd, fSub, fMul, fDiv, fMod, fPow, fNeg, fIx, gOr, gAdd, gAddI, fTb, fTr, truthD, fNotT, fAndT, fOrT, fNotV, fAndV, fOrV, fIf, fTup, fLst, gTupD, gLstD, fInt, oInt, fAbs, oAbs, fLen, oLen, fCall, argsOf, putB, outs, gIx, oIxD, gLt, tYesE, fIsi, oNotV, okV, wipeE, restE, W.isSh, W.owned, fMutN, mApp, R.els, D.its, iRange1, iRange2, iSeq, iEnumA, D.walk, fTuple, gTuple, fList, gList, fSorted, gSort, fMutP, qV, qC, slOf, gSl0, gSlLo, gSlHi, gSl2, fSl2, gCatL, gCatT, els2, fPure, frzE, List.map_cons, List.map_nil, fCallP, fCallKP, fMethP, W.clean, W.cleans, D.tdat, D.tdats, size_ok, size_ok1, List.getElem?_cons_zero, List.getElem?_cons_succ, List.getElem?_nil, List.set_cons_zero, List.set_cons_succ, List.length_cons, List.length_nil, List.replicate_succ, List.replicate_zero, List.cons_append, List.nil_append, List.append_nil, tdats_sD, cleans_sW, Tr.tdat]
theorem by_hand : m_law_hand_right [] = some (.sh (.bl true), []) := isT0_eq (by decide +kernel)
theorem right_ok {u : W} (h : Urn 0 u) : ∃ u', m_law_right [u] = some (.sh (.bl true), [u']) := by
  obtain ⟨u', ys, e, hl, hu⟩ := urn_loopP (body := l_law_right_2) (P := fun ys => ys.length = 7) (K := 100) (B := 700000) (i := 0) (fun xs d h => by simp at h ⊢; omega) (fun c u xs hu hc hx => match xs, hx with
    | [x1, x2, x3, x4, x5, x6, x7], _ => right_step hu hc) ((List.range 4).map fun (k : Nat) => D.int (k : Int)) 0 u [.sh .any, .sh .any, .sh .any, .sh .any, .sh .any, .sh .any, .sh .any] h (by rw [range_len]; omega) rfl
  refine ⟨u', fnP_ret (n := 8) (np := 1) (b := b_law_right) (en' := u' :: ys) rfl (sSeq_nx (en1 := [u, .sh .any, .sh .any, .sh .any, .sh .any, .sh .any, .sh .any, .sh .any]) ?_ (sSeq_nx (sFor_eq ?_ e) ?_))⟩
  · have bh := by_hand
    generalize m_law_hand_right = f at bh ⊢
    simp [bh, fnP, sSeq, sIf, sAsg, sExpr, sRet, sRetN, sNil, sFor, sPar, sAug, sBk, sCt, gN, gsNil, gsCons, gTupT, gSetI, fC, fVar_eq, vW_sh, vW_lst, vW_ins, vW_dT, evs, fN, fU, gS, gS1, rds, rfz, rtk, R_d_val, R_d_pl, R.fz, R.tk, R_st_val, R_st_pl, R_st_plc, R.out, W.d, W.ds, En.get, En.put, W.get, W.put, oII, tt2, okMul, okDiv, okMod, okPow, oAddI, oSub, oMul, oDiv, oMod, oPow, oLtI, oLeI, oGtI, oGeI, oMax2, oMin2, oNeg, oAddS, oLtS, fAdd, fSub, fMul, fDiv, fMod, fPow, fNeg, fIx, gOr, gAdd, gAddI, fTb, fTr, truthD, fNotT, fAndT, fOrT, fNotV, fAndV, fOrV, fIf, fTup, fLst, gTupD, gLstD, fInt, oInt, fAbs, oAbs, fLen, oLen, fCall, argsOf, putB, outs, gIx, oIxD, gLt, tYesE, fIsi, oNotV, okV, wipeE, restE, W.isSh, W.owned, fMutN, mApp, R.els, D.its, iRange1, iRange2, iSeq, iEnumA, D.walk, fTuple, gTuple, fList, gList, fSorted, gSort, fMutP, qV, qC, slOf, gSl0, gSlLo, gSlHi, gSl2, fSl2, gCatL, gCatT, els2, fPure, frzE, List.map_cons, List.map_nil, fCallP, fCallKP, fMethP, W.clean, W.cleans, D.tdat, D.tdats, size_ok, size_ok1, List.getElem?_cons_zero, List.getElem?_cons_succ, List.getElem?_nil, List.set_cons_zero, List.set_cons_succ, List.length_cons, List.length_nil, List.replicate_succ, List.replicate_zero, List.cons_append, List.nil_append, List.append_nil, tdats_sD, cleans_sW, Tr.tdat]
  · simp [fnP, sSeq, sIf, sAsg, sExpr, sRet, sRetN, sNil, sFor, sPar, sAug, sBk, sCt, gN, gsNil, gsCons, gTupT, gSetI, fC, fVar_eq, vW_sh, vW_lst, vW_ins, vW_dT, evs, fN, fU, gS, gS1, rds, rfz, rtk, R_d_val, R_d_pl, R.fz, R.tk, R_st_val, R_st_pl, R_st_plc, R.out, W.d, W.ds, En.get, En.put, W.get, W.put, oII, tt2, okMul, okDiv, okMod, okPow, oAddI, oSub, oMul, oDiv, oMod, oPow, oLtI, oLeI, oGtI, oGeI, oMax2, oMin2, oNeg, oAddS, oLtS, fAdd, fSub, fMul, fDiv, fMod, fPow, fNeg, fIx, gOr, gAdd, gAddI, fTb, fTr, truthD, fNotT, fAndT, fOrT, fNotV, fAndV, fOrV, fIf, fTup, fLst, gTupD, gLstD, fInt, oInt, fAbs, oAbs, fLen, oLen, fCall, argsOf, putB, outs, gIx, oIxD, gLt, tYesE, fIsi, oNotV, okV, wipeE, restE, W.isSh, W.owned, fMutN, mApp, R.els, D.its, iRange1, iRange2, iSeq, iEnumA, D.walk, fTuple, gTuple, fList, gList, fSorted, gSort, fMutP, qV, qC, slOf, gSl0, gSlLo, gSlHi, gSl2, fSl2, gCatL, gCatT, els2, fPure, frzE, List.map_cons, List.map_nil, fCallP, fCallKP, fMethP, W.clean, W.cleans, D.tdat, D.tdats, size_ok, size_ok1, List.getElem?_cons_zero, List.getElem?_cons_succ, List.getElem?_nil, List.set_cons_zero, List.set_cons_succ, List.length_cons, List.length_nil, List.replicate_succ, List.replicate_zero, List.cons_append, List.nil_append, List.append_nil, tdats_sD, cleans_sW, Tr.tdat]
  · simp [fnP, sSeq, sIf, sAsg, sExpr, sRet, sRetN, sNil, sFor, sPar, sAug, sBk, sCt, gN, gsNil, gsCons, gTupT, gSetI, fC, fVar_eq, vW_sh, vW_lst, vW_ins, vW_dT, evs, fN, fU, gS, gS1, rds, rfz, rtk, R_d_val, R_d_pl, R.fz, R.tk, R_st_val, R_st_pl, R_st_plc, R.out, W.d, W.ds, En.get, En.put, W.get, W.put, oII, tt2, okMul, okDiv, okMod, okPow, oAddI, oSub, oMul, oDiv, oMod, oPow, oLtI, oLeI, oGtI, oGeI, oMax2, oMin2, oNeg, oAddS, oLtS, fAdd, fSub, fMul, fDiv, fMod, fPow, fNeg, fIx, gOr, gAdd, gAddI, fTb, fTr, truthD, fNotT, fAndT, fOrT, fNotV, fAndV, fOrV, fIf, fTup, fLst, gTupD, gLstD, fInt, oInt, fAbs, oAbs, fLen, oLen, fCall, argsOf, putB, outs, gIx, oIxD, gLt, tYesE, fIsi, oNotV, okV, wipeE, restE, W.isSh, W.owned, fMutN, mApp, R.els, D.its, iRange1, iRange2, iSeq, iEnumA, D.walk, fTuple, gTuple, fList, gList, fSorted, gSort, fMutP, qV, qC, slOf, gSl0, gSlLo, gSlHi, gSl2, fSl2, gCatL, gCatT, els2, fPure, frzE, List.map_cons, List.map_nil, fCallP, fCallKP, fMethP, W.clean, W.cleans, D.tdat, D.tdats, size_ok, size_ok1, List.getElem?_cons_zero, List.getElem?_cons_succ, List.getElem?_nil, List.set_cons_zero, List.set_cons_succ, List.length_cons, List.length_nil, List.replicate_succ, List.replicate_zero, List.cons_append, List.nil_append, List.append_nil, tdats_sD, cleans_sW, Tr.tdat]
theorem law_step {ns cs : List Int} {k : Nat} (hk : k < cs.length) : l_law_1 [.sh (.frl (ns.map D.int)), .lst (iW cs), .sh (.int k)] = some ([.sh (.frl (ns.map D.int)), .lst (iW cs), .sh (.int k)], .nx) := by
  obtain ⟨u, e1, hu, cl⟩ := box_ok hk
  obtain ⟨u', e2⟩ := right_ok hu
  obtain ⟨a, b, t, rfl, _⟩ := id hu
  unfold l_law_1
  generalize m_law_box = f1 at e1 ⊢
  generalize m_law_right = f2 at e2 ⊢
  simp [e1, e2, iW_ds, fnP, sSeq, sIf, sAsg, sExpr, sRet, sRetN, sNil, sFor, sPar, sAug, sBk, sCt, gN, gsNil, gsCons, gTupT, gSetI, fC, fVar_eq, vW_sh, vW_lst, vW_ins, vW_dT, evs, fN, fU, gS, gS1, rds, rfz, rtk, R_d_val, R_d_pl, R.fz, R.tk, R_st_val, R_st_pl, R_st_plc, R.out, W.d, W.ds, En.get, En.put, W.get, W.put, oII, tt2, okMul, okDiv, okMod, okPow, oAddI, oSub, oMul, oDiv, oMod, oPow, oLtI, oLeI, oGtI, oGeI, oMax2, oMin2, oNeg, oAddS, oLtS, fAdd, fSub, fMul, fDiv, fMod, fPow, fNeg, fIx, gOr, gAdd, gAddI, fTb, fTr, truthD, fNotT, fAndT, fOrT, fNotV, fAndV, fOrV, fIf, fTup, fLst, gTupD, gLstD, fInt, oInt, fAbs, oAbs, fLen, oLen, fCall, argsOf, putB, outs, gIx, oIxD, gLt, tYesE, fIsi, oNotV, okV, wipeE, restE, W.isSh, W.owned, fMutN, mApp, R.els, D.its, iRange1, iRange2, iSeq, iEnumA, D.walk, fTuple, gTuple, fList, gList, fSorted, gSort, fMutP, qV, qC, slOf, gSl0, gSlLo, gSlHi, gSl2, fSl2, gCatL, gCatT, els2, fPure, frzE, List.map_cons, List.map_nil, fCallP, fCallKP, fMethP, W.clean, W.cleans, D.tdat, D.tdats, size_ok, size_ok1, List.getElem?_cons_zero, List.getElem?_cons_succ, List.getElem?_nil, List.set_cons_zero, List.set_cons_succ, List.length_cons, List.length_nil, List.replicate_succ, List.replicate_zero, List.cons_append, List.nil_append, List.append_nil, tdats_sD, cleans_sW, Tr.tdat]
theorem law_loop {ns cs : List Int} : ∀ (ks : List Nat) (x2 : W), (∀ k ∈ ks, k < cs.length) → ∃ y2, forD (gN 2) l_law_1 (ks.map fun (k : Nat) => D.int (k : Int)) [.sh (.frl (ns.map D.int)), .lst (iW cs), x2] = some ([.sh (.frl (ns.map D.int)), .lst (iW cs), y2], .nx)
  | [], x2, _ => ⟨x2, by simp [forD]⟩
  | k :: ks, x2, h => by
    have e := law_step (ns := ns) (h k (by simp))
    obtain ⟨y2, e2⟩ := law_loop (ns := ns) ks (.sh (.int k)) fun j hj => h j (by simp [hj])
    exact ⟨y2, forD_nx (by simp [gN]) e e2⟩
theorem law_true (ns : List Int) (h : ns.length ≤ 63) : ∃ ws, m_law [.sh (.frl (ns.map D.int))] = some (.sh (.bl true), ws) := by
  obtain ⟨cs, e, c0, c3⟩ := cells_ok ns h
  obtain ⟨y2, lp⟩ := law_loop (ns := ns) (cs := cs) (List.range cs.length) (.sh .any) fun k hk => List.mem_range.mp hk
  have s1 : (-4611686018427387904 : Int) ≤ cs.length := by omega
  have s2 : (cs.length : Int) < 4611686018427387904 := by omega
  refine ⟨_, fnP_ret (n := 3) (np := 1) (b := b_law) rfl (en' := [.sh (.frl (ns.map D.int)), .lst (iW cs), y2]) ?_⟩
  unfold b_law
  generalize m_law_cells = f1 at e ⊢
  refine sSeq_nx (en1 := [.sh (.frl (ns.map D.int)), .lst (iW cs), .sh .any]) ?_ (sSeq_nx (sFor_eq ?_ lp) ?_)
  · simp [e, cleans_iW, fnP, sSeq, sIf, sAsg, sExpr, sRet, sRetN, sNil, sFor, sPar, sAug, sBk, sCt, gN, gsNil, gsCons, gTupT, gSetI, fC, fVar_eq, vW_sh, vW_lst, vW_ins, vW_dT, evs, fN, fU, gS, gS1, rds, rfz, rtk, R_d_val, R_d_pl, R.fz, R.tk, R_st_val, R_st_pl, R_st_plc, R.out, W.d, W.ds, En.get, En.put, W.get, W.put, oII, tt2, okMul, okDiv, okMod, okPow, oAddI, oSub, oMul, oDiv, oMod, oPow, oLtI, oLeI, oGtI, oGeI, oMax2, oMin2, oNeg, oAddS, oLtS, fAdd, fSub, fMul, fDiv, fMod, fPow, fNeg, fIx, gOr, gAdd, gAddI, fTb, fTr, truthD, fNotT, fAndT, fOrT, fNotV, fAndV, fOrV, fIf, fTup, fLst, gTupD, gLstD, fInt, oInt, fAbs, oAbs, fLen, oLen, fCall, argsOf, putB, outs, gIx, oIxD, gLt, tYesE, fIsi, oNotV, okV, wipeE, restE, W.isSh, W.owned, fMutN, mApp, R.els, D.its, iRange1, iRange2, iSeq, iEnumA, D.walk, fTuple, gTuple, fList, gList, fSorted, gSort, fMutP, qV, qC, slOf, gSl0, gSlLo, gSlHi, gSl2, fSl2, gCatL, gCatT, els2, fPure, frzE, List.map_cons, List.map_nil, fCallP, fCallKP, fMethP, W.clean, W.cleans, D.tdat, D.tdats, size_ok, size_ok1, List.getElem?_cons_zero, List.getElem?_cons_succ, List.getElem?_nil, List.set_cons_zero, List.set_cons_succ, List.length_cons, List.length_nil, List.replicate_succ, List.replicate_zero, List.cons_append, List.nil_append, List.append_nil, tdats_sD, cleans_sW, Tr.tdat]
  · simp [iW_ds, s1, s2, fnP, sSeq, sIf, sAsg, sExpr, sRet, sRetN, sNil, sFor, sPar, sAug, sBk, sCt, gN, gsNil, gsCons, gTupT, gSetI, fC, fVar_eq, vW_sh, vW_lst, vW_ins, vW_dT, evs, fN, fU, gS, gS1, rds, rfz, rtk, R_d_val, R_d_pl, R.fz, R.tk, R_st_val, R_st_pl, R_st_plc, R.out, W.d, W.ds, En.get, En.put, W.get, W.put, oII, tt2, okMul, okDiv, okMod, okPow, oAddI, oSub, oMul, oDiv, oMod, oPow, oLtI, oLeI, oGtI, oGeI, oMax2, oMin2, oNeg, oAddS, oLtS, fAdd, fSub, fMul, fDiv, fMod, fPow, fNeg, fIx, gOr, gAdd, gAddI, fTb, fTr, truthD, fNotT, fAndT, fOrT, fNotV, fAndV, fOrV, fIf, fTup, fLst, gTupD, gLstD, fInt, oInt, fAbs, oAbs, fLen, oLen, fCall, argsOf, putB, outs, gIx, oIxD, gLt, tYesE, fIsi, oNotV, okV, wipeE, restE, W.isSh, W.owned, fMutN, mApp, R.els, D.its, iRange1, iRange2, iSeq, iEnumA, D.walk, fTuple, gTuple, fList, gList, fSorted, gSort, fMutP, qV, qC, slOf, gSl0, gSlLo, gSlHi, gSl2, fSl2, gCatL, gCatT, els2, fPure, frzE, List.map_cons, List.map_nil, fCallP, fCallKP, fMethP, W.clean, W.cleans, D.tdat, D.tdats, size_ok, size_ok1, List.getElem?_cons_zero, List.getElem?_cons_succ, List.getElem?_nil, List.set_cons_zero, List.set_cons_succ, List.length_cons, List.length_nil, List.replicate_succ, List.replicate_zero, List.cons_append, List.nil_append, List.append_nil, tdats_sD, cleans_sW, Tr.tdat]
  · simp [fnP, sSeq, sIf, sAsg, sExpr, sRet, sRetN, sNil, sFor, sPar, sAug, sBk, sCt, gN, gsNil, gsCons, gTupT, gSetI, fC, fVar_eq, vW_sh, vW_lst, vW_ins, vW_dT, evs, fN, fU, gS, gS1, rds, rfz, rtk, R_d_val, R_d_pl, R.fz, R.tk, R_st_val, R_st_pl, R_st_plc, R.out, W.d, W.ds, En.get, En.put, W.get, W.put, oII, tt2, okMul, okDiv, okMod, okPow, oAddI, oSub, oMul, oDiv, oMod, oPow, oLtI, oLeI, oGtI, oGeI, oMax2, oMin2, oNeg, oAddS, oLtS, fAdd, fSub, fMul, fDiv, fMod, fPow, fNeg, fIx, gOr, gAdd, gAddI, fTb, fTr, truthD, fNotT, fAndT, fOrT, fNotV, fAndV, fOrV, fIf, fTup, fLst, gTupD, gLstD, fInt, oInt, fAbs, oAbs, fLen, oLen, fCall, argsOf, putB, outs, gIx, oIxD, gLt, tYesE, fIsi, oNotV, okV, wipeE, restE, W.isSh, W.owned, fMutN, mApp, R.els, D.its, iRange1, iRange2, iSeq, iEnumA, D.walk, fTuple, gTuple, fList, gList, fSorted, gSort, fMutP, qV, qC, slOf, gSl0, gSlLo, gSlHi, gSl2, fSl2, gCatL, gCatT, els2, fPure, frzE, List.map_cons, List.map_nil, fCallP, fCallKP, fMethP, W.clean, W.cleans, D.tdat, D.tdats, size_ok, size_ok1, List.getElem?_cons_zero, List.getElem?_cons_succ, List.getElem?_nil, List.set_cons_zero, List.set_cons_succ, List.length_cons, List.length_nil, List.replicate_succ, List.replicate_zero, List.cons_append, List.nil_append, List.append_nil, tdats_sD, cleans_sW, Tr.tdat]
end Pu

namespace Pu
open PySem PySem.Spec PyProof.Rows L2
def top (i : Nat) : Stmt := PySem.Challenge.pw_lockedout_k32_which_parts_are_allowed.main.body.getD i (.Pass ⟨0, 0, 0, 0⟩)
abbrev s_law_cells : Stmt := top 12
abbrev s_law_same : Stmt := top 15
abbrev s_Tree_nodes : Stmt := inClass (top 4) 5
abbrev s_Tree_grown : Stmt := inClass (top 4) 2
abbrev s_tupled : Stmt := top 2
abbrev s_Tree_init : Stmt := inClass (top 4) 1
abbrev s_nodes_in : Stmt := top 5
abbrev s_depth_of : Stmt := top 7
abbrev s_is_allowed : Stmt := top 8
abbrev s_law_lists : Stmt := top 14
abbrev s_law_hand_right : Stmt := top 27
abbrev s_law_leaves : Stmt := top 20
abbrev s_law_spans : Stmt := top 21
abbrev s_law_under : Stmt := top 22
abbrev s_law_pieces : Stmt := top 23
abbrev s_law_take : Stmt := top 11
abbrev s_law_shape : Stmt := top 18
abbrev s_law_words : Stmt := top 17
abbrev s_law_tale : Stmt := top 19
abbrev s_law_of : Stmt := top 13
abbrev s_law_few : Stmt := top 16
abbrev s_law_floors : Stmt := top 26
abbrev s_law_deep : Stmt := top 24
abbrev s_law_is_let : Stmt := top 25
abbrev s_law_right : Stmt := top 28
abbrev s_law_box : Stmt := top 10
abbrev s_law : Stmt := top 29
structure Tx (K : PySem.W.Frag) (mg : Str → Option Value) where
  f_law_cells : Addr
  d_law_cells : FuncData
  F_law_cells : Fun K "_law_cells" "_law_cells" s_law_cells f_law_cells d_law_cells
  B_law_cells : Binds K d_law_cells ["_law_script", "_law_top"] []
  g_law_cells : mg "_law_cells" = some (.ref f_law_cells)
  f_law_same : Addr
  d_law_same : FuncData
  F_law_same : Fun K "_law_same" "_law_same" s_law_same f_law_same d_law_same
  B_law_same : Binds K d_law_same ["_law_got", "_law_goal"] []
  g_law_same : mg "_law_same" = some (.ref f_law_same)
  f_Tree_nodes : Addr
  d_Tree_nodes : FuncData
  F_Tree_nodes : Fun K "nodes" "Tree.nodes" s_Tree_nodes f_Tree_nodes d_Tree_nodes
  B_Tree_nodes : Binds K d_Tree_nodes ["self"] []
  f_Tree_grown : Addr
  d_Tree_grown : FuncData
  F_Tree_grown : Fun K "grown" "Tree.grown" s_Tree_grown f_Tree_grown d_Tree_grown
  B_Tree_grown : Binds K d_Tree_grown ["self", "tree"] []
  f_tupled : Addr
  d_tupled : FuncData
  F_tupled : Fun K "tupled" "tupled" s_tupled f_tupled d_tupled
  B_tupled : Binds K d_tupled ["thing"] []
  g_tupled : mg "tupled" = some (.ref f_tupled)
  f_Tree_init : Addr
  d_Tree_init : FuncData
  F_Tree_init : Fun K "__init__" "Tree.__init__" s_Tree_init f_Tree_init d_Tree_init
  B_Tree_init : Binds K d_Tree_init ["self", "tree"] []
  f_nodes_in : Addr
  d_nodes_in : FuncData
  F_nodes_in : Fun K "nodes_in" "nodes_in" s_nodes_in f_nodes_in d_nodes_in
  B_nodes_in : Binds K d_nodes_in ["tree"] []
  g_nodes_in : mg "nodes_in" = some (.ref f_nodes_in)
  f_depth_of : Addr
  d_depth_of : FuncData
  F_depth_of : Fun K "depth_of" "depth_of" s_depth_of f_depth_of d_depth_of
  B_depth_of : Binds K d_depth_of ["tree", "node"] []
  g_depth_of : mg "depth_of" = some (.ref f_depth_of)
  f_is_allowed : Addr
  d_is_allowed : FuncData
  F_is_allowed : Fun K "is_allowed" "is_allowed" s_is_allowed f_is_allowed d_is_allowed
  B_is_allowed : Binds K d_is_allowed ["tree", "layers", "part"] []
  g_is_allowed : mg "is_allowed" = some (.ref f_is_allowed)
  f_law_lists : Addr
  d_law_lists : FuncData
  F_law_lists : Fun K "_law_lists" "_law_lists" s_law_lists f_law_lists d_law_lists
  B_law_lists : Binds K d_law_lists ["_law_matter"] []
  g_law_lists : mg "_law_lists" = some (.ref f_law_lists)
  f_law_hand_right : Addr
  d_law_hand_right : FuncData
  F_law_hand_right : Fun K "_law_hand_right" "_law_hand_right" s_law_hand_right f_law_hand_right d_law_hand_right
  B_law_hand_right : Binds K d_law_hand_right [] []
  g_law_hand_right : mg "_law_hand_right" = some (.ref f_law_hand_right)
  f_law_leaves : Addr
  d_law_leaves : FuncData
  F_law_leaves : Fun K "_law_leaves" "_law_leaves" s_law_leaves f_law_leaves d_law_leaves
  B_law_leaves : Binds K d_law_leaves ["_law_tale_here"] []
  g_law_leaves : mg "_law_leaves" = some (.ref f_law_leaves)
  f_law_spans : Addr
  d_law_spans : FuncData
  F_law_spans : Fun K "_law_spans" "_law_spans" s_law_spans f_law_spans d_law_spans
  B_law_spans : Binds K d_law_spans ["_law_tale_here", "_law_first"] []
  g_law_spans : mg "_law_spans" = some (.ref f_law_spans)
  f_law_under : Addr
  d_law_under : FuncData
  F_law_under : Fun K "_law_under" "_law_under" s_law_under f_law_under d_law_under
  B_law_under : Binds K d_law_under ["_law_spans_here", "_law_knot"] []
  g_law_under : mg "_law_under" = some (.ref f_law_under)
  f_law_pieces : Addr
  d_law_pieces : FuncData
  F_law_pieces : Fun K "_law_pieces" "_law_pieces" s_law_pieces f_law_pieces d_law_pieces
  B_law_pieces : Binds K d_law_pieces ["_law_tale_here"] []
  g_law_pieces : mg "_law_pieces" = some (.ref f_law_pieces)
  f_law_take : Addr
  d_law_take : FuncData
  F_law_take : Fun K "_law_take" "_law_take" s_law_take f_law_take d_law_take
  B_law_take : Binds K d_law_take ["_law_urn", "_law_low_so"] []
  g_law_take : mg "_law_take" = some (.ref f_law_take)
  f_law_shape : Addr
  d_law_shape : FuncData
  F_law_shape : Fun K "_law_shape" "_law_shape" s_law_shape f_law_shape d_law_shape
  B_law_shape : Binds K d_law_shape ["_law_urn", "_law_row"] []
  g_law_shape : mg "_law_shape" = some (.ref f_law_shape)
  f_law_words : Addr
  d_law_words : FuncData
  F_law_words : Fun K "_law_words" "_law_words" s_law_words f_law_words d_law_words
  B_law_words : Binds K d_law_words ["_law_urn", "_law_many_so"] []
  g_law_words : mg "_law_words" = some (.ref f_law_words)
  f_law_tale : Addr
  d_law_tale : FuncData
  F_law_tale : Fun K "_law_tale" "_law_tale" s_law_tale f_law_tale d_law_tale
  B_law_tale : Binds K d_law_tale ["_law_urn", "_law_top"] []
  g_law_tale : mg "_law_tale" = some (.ref f_law_tale)
  f_law_of : Addr
  d_law_of : FuncData
  F_law_of : Fun K "_law_of" "_law_of" s_law_of f_law_of d_law_of
  B_law_of : Binds K d_law_of ["_law_urn", "_law_some"] []
  g_law_of : mg "_law_of" = some (.ref f_law_of)
  f_law_few : Addr
  d_law_few : FuncData
  F_law_few : Fun K "_law_few" "_law_few" s_law_few f_law_few d_law_few
  B_law_few : Binds K d_law_few ["_law_urn", "_law_pool", "_law_one_of"] []
  g_law_few : mg "_law_few" = some (.ref f_law_few)
  f_law_floors : Addr
  d_law_floors : FuncData
  F_law_floors : Fun K "_law_floors" "_law_floors" s_law_floors f_law_floors d_law_floors
  B_law_floors : Binds K d_law_floors ["_law_urn"] []
  g_law_floors : mg "_law_floors" = some (.ref f_law_floors)
  f_law_deep : Addr
  d_law_deep : FuncData
  F_law_deep : Fun K "_law_deep" "_law_deep" s_law_deep f_law_deep d_law_deep
  B_law_deep : Binds K d_law_deep ["_law_tale_here", "_law_knot"] []
  g_law_deep : mg "_law_deep" = some (.ref f_law_deep)
  f_law_is_let : Addr
  d_law_is_let : FuncData
  F_law_is_let : Fun K "_law_is_let" "_law_is_let" s_law_is_let f_law_is_let d_law_is_let
  B_law_is_let : Binds K d_law_is_let ["_law_tale_here", "_law_floors_so", "_law_piece"] []
  g_law_is_let : mg "_law_is_let" = some (.ref f_law_is_let)
  f_law_right : Addr
  d_law_right : FuncData
  F_law_right : Fun K "_law_right" "_law_right" s_law_right f_law_right d_law_right
  B_law_right : Binds K d_law_right ["_law_urn"] []
  g_law_right : mg "_law_right" = some (.ref f_law_right)
  f_law_box : Addr
  d_law_box : FuncData
  F_law_box : Fun K "_law_box" "_law_box" s_law_box f_law_box d_law_box
  B_law_box : Binds K d_law_box ["_law_script", "_law_k"] []
  g_law_box : mg "_law_box" = some (.ref f_law_box)
  f_law : Addr
  d_law : FuncData
  F_law : Fun K "law" "law" s_law f_law d_law
  B_law : Binds K d_law ["_law_script"] []
  g_law : mg "law" = some (.ref f_law)
  k_is_allowed_0 : KBp K d_is_allowed ["tree", "layers", "part"] 0 ["part", "layers", "tree"] [2, 1, 0]
  z_abs : mg "abs" = none
  z_all : mg "all" = none
  z_any : mg "any" = none
  z_bool : mg "bool" = none
  z_dict : mg "dict" = none
  z_enumerate : mg "enumerate" = none
  z_int : mg "int" = none
  z_isinstance : mg "isinstance" = none
  z_len : mg "len" = none
  z_list : mg "list" = none
  z_range : mg "range" = none
  z_sorted : mg "sorted" = none
  z_str : mg "str" = none
  z_tuple : mg "tuple" = none
  z_zip : mg "zip" = none
  C_Tree : Addr
  c_Tree : mg "Tree" = some (.ref C_Tree)
  s_Tree : SlX.SCls K C_Tree
  mk_Tree : Mk K C_Tree f_Tree_init
  m_Tree_grown : Meth K C_Tree "grown" f_Tree_grown
  m_Tree_nodes : Meth K C_Tree "nodes" f_Tree_nodes
  sl_Tree_own_boxes : ClsF K mg "Tree" "own_boxes" 0
  sl_Tree_own_head : ClsF K mg "Tree" "own_head" 1
  sl_Tree_own_sides : ClsF K mg "Tree" "own_sides" 2
section
variable {P : Program} {w : World} {K : PySem.W.Frag} {mg : Str → Option Value} {base : Heap}
theorem sc_law_cells : FnScope ["_law_script", "_law_top", "_law_cells_here", "_law_k", "_law_cell", "_law_at_so"] ["_law_script", "_law_top"] (defScope s_law_cells) := ⟨rfl, rfl, rfl, by decide +kernel, rfl, by decide +kernel, by decide +kernel⟩
theorem ok_law_cells (T : Tx K mg) : FnOk P w K mg base CX0 1 T.f_law_cells T.d_law_cells ["_law_script", "_law_top"] (spP K mg m_law_cells) := by
  refine fn_ok T.F_law_cells sc_law_cells (by decide) fun cdv A outer s H E hr => ?_
  have hu : (A.deeper (envOfC "_law_cells" (defScope s_law_cells) s.heap.objs.size T.f_law_cells cdv)).units + 65 < cLine := by have := hr.un; omega
  have hu1 : (A.deeper (envOfC "_law_cells" (defScope s_law_cells) s.heap.objs.size T.f_law_cells cdv)).units + 1 < cLine := by have := hr.un; omega
  exact (ss_cons (ss_asg (se_or (c_list T.z_list (se_slHi (se_var (pv 0)) (se_var (pv 1)))) (se_one (se_lst (sa_cons se_int sa_nil)))) (sg_name (i := 2) sc_law_cells.nd rfl (.inl rfl) (by decide)))
    (ss_cons (ss_for PassesOwn.never rfl (si_enumA rfl T.z_enumerate (se_sl2 (se_var (pv 0)) (se_var (pv 1)) se_int)) (sg_tup (n := 2) rfl (sgs_cons (sg_name (i := 3) sc_law_cells.nd rfl (.inl rfl) (by decide)) (sgs_cons (sg_name (i := 4) sc_law_cells.nd rfl (.inl rfl) (by decide)) sgs_nil))) (ss_cons (ss_asg (se_mod (c_int T.z_int (se_var (pv 3))) (se_var (pv 1))) (sg_name (i := 5) sc_law_cells.nd rfl (.inl rfl) (by decide)))
    (ss_one (ss_asg (se_add (se_ix (se_var (pv 2)) (se_var (pv 5))) (se_mul (se_var (pv 4)) (se_add (se_var (pv 3)) se_int))) (sg_sub (se_var (pv 2)) (se_var (pv 5)) (pg_sub (se_var (pv 2)) (se_var (pv 5)) set_list))))))
    (ss_one (ss_ret (se_var (pv 2))))))
theorem sc_law_same : FnScope ["_law_got", "_law_goal", "_law_mine_so", "_law_own"] ["_law_got", "_law_goal"] (defScope s_law_same) := ⟨rfl, rfl, rfl, by decide +kernel, rfl, by decide +kernel, by decide +kernel⟩
theorem ok_law_same (T : Tx K mg) : ∀ n : Nat, FnOk P w K mg base CX0 (0 + n) T.f_law_same T.d_law_same ["_law_got", "_law_goal"] (spP K mg (m_law_same n))
  | 0 => fn_none.mono (Nat.zero_le _)
  | n + 1 => by
    have IH := ok_law_same T n
    refine fn_ok T.F_law_same sc_law_same (by decide) fun cdv A outer s H E hr => ?_
    have hu : (A.deeper (envOfC "_law_same" (defScope s_law_same) s.heap.objs.size T.f_law_same cdv)).units + 65 < cLine := by have := hr.un; omega
    have hu1 : (A.deeper (envOfC "_law_same" (defScope s_law_same) s.heap.objs.size T.f_law_same cdv)).units + 1 < cLine := by have := hr.un; omega
    exact (ss_cons (ss_if (st_tr (se_isiT rfl T.z_isinstance (se_var (pv 1)) (ty_cons rfl T.z_list b_list (ty_cons rfl T.z_tuple b_tuple ty_nil)) (by decide))) (ss_cons (ss_if (st_w (sw_or (st_ne hu (se_isi1 rfl T.z_isinstance (se_var (pv 0)) rfl T.z_list b_list) (se_isi1 rfl T.z_isinstance (se_var (pv 1)) rfl T.z_list b_list)) (sw_or1 (st_ne hu (se_isi1 rfl T.z_isinstance (se_var (pv 0)) rfl T.z_tuple b_tuple) (se_isi1 rfl T.z_isinstance (se_var (pv 1)) rfl T.z_tuple b_tuple))))) (ss_one (ss_ret se_bl)) ss_nil)
      (ss_one (ss_ret (se_and (se_eq hu (c_len T.z_len (se_var (pv 0))) (c_len T.z_len (se_var (pv 1)))) (se_one (c_all rfl T.z_all (se_compn (own := [("_law_mine_so", 2), ("_law_own", 3)]) (n := 4) rfl rfl sc_law_same.nd (si_zip rfl T.z_zip (se_var (pv 0)) (se_var (pv 1))) (blkOk_by (by kernel_rfl)) (fun _ _ _ _ _ => (sg_tup (n := 2) rfl (sgs_cons (sg_name (i := 2) sc_law_same.nd rfl (.inl rfl) (by decide)) (sgs_cons (sg_name (i := 3) sc_law_same.nd rfl (.inl rfl) (by decide)) sgs_nil)))) (fun _ _ _ _ _ => sts_nil) (fun _ _ _ _ _ => (se_callP IH hr rfl T.g_law_same T.F_law_same.kp T.B_law_same (sa_cons (se_var (pv 2)) (sa_cons (se_var (pv 3)) sa_nil))))))))))) ss_nil)
      (ss_cons (ss_if (st_w (sw_or (st_isN (se_var (pv 1)) se_non) (sw_or1 (st_tr (se_isiT rfl T.z_isinstance (se_var (pv 1)) (ty_cons rfl T.z_bool b_bool (ty_cons rfl T.z_str b_str ty_nil)) (by decide)))))) (ss_one (ss_ret (se_and (se_eq hu (se_var (pv 0)) (se_var (pv 1))) (se_and (se_eq hu (se_isi1 rfl T.z_isinstance (se_var (pv 0)) rfl T.z_bool b_bool) (se_isi1 rfl T.z_isinstance (se_var (pv 1)) rfl T.z_bool b_bool)) (se_one (se_eq hu (se_isN (se_var (pv 0)) se_non) (se_isN (se_var (pv 1)) se_non))))))) ss_nil)
      (ss_one (ss_ret (se_and (se_isi1 rfl T.z_isinstance (se_var (pv 0)) rfl T.z_int b_int) (se_and (se_not (se_isi1 rfl T.z_isinstance (se_var (pv 0)) rfl T.z_bool b_bool)) (se_one (se_eq hu (se_var (pv 0)) (se_var (pv 1))))))))))
theorem sc_Tree_nodes : FnScope ["self"] ["self"] (defScope s_Tree_nodes) := ⟨rfl, rfl, rfl, by decide +kernel, rfl, by decide +kernel, by decide +kernel⟩
theorem ok_Tree_nodes (T : Tx K mg) : FnOk P w K mg base CX0 1 T.f_Tree_nodes T.d_Tree_nodes ["self"] (spP K mg m_Tree_nodes) := by
  refine fn_ok T.F_Tree_nodes sc_Tree_nodes (by decide) fun cdv A outer s H E hr => ?_
  have hu : (A.deeper (envOfC "Tree.nodes" (defScope s_Tree_nodes) s.heap.objs.size T.f_Tree_nodes cdv)).units + 65 < cLine := by have := hr.un; omega
  have hu1 : (A.deeper (envOfC "Tree.nodes" (defScope s_Tree_nodes) s.heap.objs.size T.f_Tree_nodes cdv)).units + 1 < cLine := by have := hr.un; omega
  exact (ss_one (ss_ret (c_sortX hu rfl T.z_sorted (se_fld T.sl_Tree_own_sides (se_var (pv 0)) rfl))))
theorem sc_Tree_grown : FnScope ["self", "tree", "sides", "node"] ["self", "tree"] (defScope s_Tree_grown) := ⟨rfl, rfl, rfl, by decide +kernel, rfl, by decide +kernel, by decide +kernel⟩
theorem ok_Tree_grown (T : Tx K mg) : ∀ n : Nat, FnOk P w K mg base CX0 (0 + n) T.f_Tree_grown T.d_Tree_grown ["self", "tree"] (spP K mg (m_Tree_grown n))
  | 0 => fn_none.mono (Nat.zero_le _)
  | n + 1 => by
    have IH := ok_Tree_grown T n
    refine fn_ok T.F_Tree_grown sc_Tree_grown (by decide) fun cdv A outer s H E hr => ?_
    have hu : (A.deeper (envOfC "Tree.grown" (defScope s_Tree_grown) s.heap.objs.size T.f_Tree_grown cdv)).units + 65 < cLine := by have := hr.un; omega
    have hu1 : (A.deeper (envOfC "Tree.grown" (defScope s_Tree_grown) s.heap.objs.size T.f_Tree_grown cdv)).units + 1 < cLine := by have := hr.un; omega
    exact (ss_cons (ss_if (st_tr (se_isi1 rfl T.z_isinstance (se_var (pv 1)) rfl T.z_str b_str)) (ss_cons (ss_asg (se_tup (sa_cons (c_len T.z_len (se_fld T.sl_Tree_own_boxes (se_var (pv 0)) rfl)) (sa_cons (se_add (c_len T.z_len (se_fld T.sl_Tree_own_boxes (se_var (pv 0)) rfl)) se_int) sa_nil))) (sg_name (i := 3) sc_Tree_grown.nd rfl (.inl rfl) (by decide)))
      (ss_cons (ss_expr (se_appP rfl rfl rfl rfl (se_fld T.sl_Tree_own_boxes (se_var (pv 0)) rfl) (sq_var (pv 1))))
      (ss_cons (ss_dputP hu1 (se_fld T.sl_Tree_own_sides (se_var (pv 0)) rfl) (sq_var (pv 3)) (se_tup sa_nil))
      (ss_one (ss_ret (se_var (pv 3))))))) ss_nil)
      (ss_cons (ss_asg (se_tup (sa_cons (se_meth (pl := _) T.c_Tree T.s_Tree T.m_Tree_grown (fnR_of IH T.B_Tree_grown) hr (se_var (pv 0)) (sa_cons (se_ix (se_var (pv 1)) se_int) sa_nil)) (sa_cons (se_meth (pl := _) T.c_Tree T.s_Tree T.m_Tree_grown (fnR_of IH T.B_Tree_grown) hr (se_var (pv 0)) (sa_cons (se_ix (se_var (pv 1)) se_int) sa_nil)) sa_nil))) (sg_name (i := 2) sc_Tree_grown.nd rfl (.inl rfl) (by decide)))
      (ss_cons (ss_asg (se_tup (sa_cons (se_ix (se_ix (se_var (pv 2)) se_int) se_int) (sa_cons (se_ix (se_ix (se_var (pv 2)) se_int) se_int) sa_nil))) (sg_name (i := 3) sc_Tree_grown.nd rfl (.inl rfl) (by decide)))
      (ss_cons (ss_dputP hu1 (se_fld T.sl_Tree_own_sides (se_var (pv 0)) rfl) (sq_var (pv 3)) (se_var (pv 2)))
      (ss_one (ss_ret (se_var (pv 3))))))))
theorem sc_tupled : FnScope ["thing", "part"] ["thing"] (defScope s_tupled) := ⟨rfl, rfl, rfl, by decide +kernel, rfl, by decide +kernel, by decide +kernel⟩
theorem ok_tupled (T : Tx K mg) : ∀ n : Nat, FnOk P w K mg base CX0 (0 + n) T.f_tupled T.d_tupled ["thing"] (spP K mg (m_tupled n))
  | 0 => fn_none.mono (Nat.zero_le _)
  | n + 1 => by
    have IH := ok_tupled T n
    refine fn_ok T.F_tupled sc_tupled (by decide) fun cdv A outer s H E hr => ?_
    have hu : (A.deeper (envOfC "tupled" (defScope s_tupled) s.heap.objs.size T.f_tupled cdv)).units + 65 < cLine := by have := hr.un; omega
    have hu1 : (A.deeper (envOfC "tupled" (defScope s_tupled) s.heap.objs.size T.f_tupled cdv)).units + 1 < cLine := by have := hr.un; omega
    exact (ss_one (ss_ret (se_if (st_tr (se_isiT rfl T.z_isinstance (se_var (pv 0)) (ty_cons rfl T.z_list b_list (ty_cons rfl T.z_tuple b_tuple ty_nil)) (by decide))) (c_tuple T.z_tuple (se_compn (own := [("part", 1)]) (n := 2) rfl rfl sc_tupled.nd (si_seq (se_var (pv 0))) (blkOk_by (by kernel_rfl)) (fun _ _ _ _ _ => (sg_name (i := 1) sc_tupled.nd rfl (.inl rfl) (by decide))) (fun _ _ _ _ _ => sts_nil) (fun _ _ _ _ _ => (se_callP IH hr rfl T.g_tupled T.F_tupled.kp T.B_tupled (sa_cons (se_var (pv 1)) sa_nil))))) (se_var (pv 0)))))
theorem sc_Tree_init : FnScope ["self", "tree"] ["self", "tree"] (defScope s_Tree_init) := ⟨rfl, rfl, rfl, by decide +kernel, rfl, by decide +kernel, by decide +kernel⟩
theorem ok_Tree_init (T : Tx K mg) : FnOk P w K mg base CX0 41 T.f_Tree_init T.d_Tree_init ["self", "tree"] (spP K mg m_Tree_init) := by
  have h_Tree_grown : FnOk P w K mg base CX0 40 T.f_Tree_grown T.d_Tree_grown ["self", "tree"] (spP K mg (m_Tree_grown 40)) := (ok_Tree_grown T 40).mono (by omega)
  have h_tupled : FnOk P w K mg base CX0 40 T.f_tupled T.d_tupled ["thing"] (spP K mg (m_tupled 40)) := (ok_tupled T 40).mono (by omega)
  refine fn_ok T.F_Tree_init sc_Tree_init (by decide) fun cdv A outer s H E hr => ?_
  have hu : (A.deeper (envOfC "Tree.__init__" (defScope s_Tree_init) s.heap.objs.size T.f_Tree_init cdv)).units + 65 < cLine := by have := hr.un; omega
  have hu1 : (A.deeper (envOfC "Tree.__init__" (defScope s_Tree_init) s.heap.objs.size T.f_Tree_init cdv)).units + 1 < cLine := by have := hr.un; omega
  exact (ss_cons (ss_fld T.sl_Tree_own_boxes (pv 0) (se_lst sa_nil))
    (ss_cons (ss_fld T.sl_Tree_own_sides (pv 0) se_newT)
    (ss_one (ss_fld T.sl_Tree_own_head (pv 0) (se_meth (pl := _) T.c_Tree T.s_Tree T.m_Tree_grown (fnR_of h_Tree_grown T.B_Tree_grown) hr (se_var (pv 0)) (sa_cons (se_callP h_tupled hr rfl T.g_tupled T.F_tupled.kp T.B_tupled (sa_cons (se_var (pv 1)) sa_nil)) sa_nil))))))
theorem sc_nodes_in : FnScope ["tree"] ["tree"] (defScope s_nodes_in) := ⟨rfl, rfl, rfl, by decide +kernel, rfl, by decide +kernel, by decide +kernel⟩
theorem ok_nodes_in (T : Tx K mg) : FnOk P w K mg base CX0 43 T.f_nodes_in T.d_nodes_in ["tree"] (spP K mg m_nodes_in) := by
  have h_Tree_nodes : FnOk P w K mg base CX0 42 T.f_Tree_nodes T.d_Tree_nodes ["self"] (spP K mg m_Tree_nodes) := (ok_Tree_nodes T).mono (by omega)
  have h_Tree_initm : FnOk P w K mg base CX0 41 T.f_Tree_init T.d_Tree_init ["self", "tree"] (spP K mg m_Tree_init) := (ok_Tree_init T).mono (by omega)
  refine fn_ok T.F_nodes_in sc_nodes_in (by decide) fun cdv A outer s H E hr => ?_
  have hu : (A.deeper (envOfC "nodes_in" (defScope s_nodes_in) s.heap.objs.size T.f_nodes_in cdv)).units + 65 < cLine := by have := hr.un; omega
  have hu1 : (A.deeper (envOfC "nodes_in" (defScope s_nodes_in) s.heap.objs.size T.f_nodes_in cdv)).units + 1 < cLine := by have := hr.un; omega
  exact (ss_one (ss_ret (se_methP0 (pl := _) T.c_Tree T.s_Tree T.m_Tree_nodes (fnR_of h_Tree_nodes T.B_Tree_nodes) hr (se_make T.mk_Tree T.c_Tree h_Tree_initm hr rfl T.B_Tree_init (sa_cons (se_var (pv 0)) sa_nil)))))
theorem sc_depth_of : FnScope ["tree", "node", "own"] ["tree", "node"] (defScope s_depth_of) := ⟨rfl, rfl, rfl, by decide +kernel, rfl, by decide +kernel, by decide +kernel⟩
theorem ok_depth_of (T : Tx K mg) : FnOk P w K mg base CX0 44 T.f_depth_of T.d_depth_of ["tree", "node"] (spP K mg m_depth_of) := by
  have h_nodes_in : FnOk P w K mg base CX0 43 T.f_nodes_in T.d_nodes_in ["tree"] (spP K mg m_nodes_in) := (ok_nodes_in T).mono (by omega)
  refine fn_ok T.F_depth_of sc_depth_of (by decide) fun cdv A outer s H E hr => ?_
  have hu : (A.deeper (envOfC "depth_of" (defScope s_depth_of) s.heap.objs.size T.f_depth_of cdv)).units + 65 < cLine := by have := hr.un; omega
  have hu1 : (A.deeper (envOfC "depth_of" (defScope s_depth_of) s.heap.objs.size T.f_depth_of cdv)).units + 1 < cLine := by have := hr.un; omega
  exact (ss_one (ss_ret (se_sub (c_len T.z_len (se_compn (own := [("own", 2)]) (n := 3) rfl rfl sc_depth_of.nd (si_seq (se_callP h_nodes_in hr rfl T.g_nodes_in T.F_nodes_in.kp T.B_nodes_in (sa_cons (se_var (pv 0)) sa_nil))) (blkOk_by (by kernel_rfl)) (fun _ _ _ _ _ => (sg_name (i := 2) sc_depth_of.nd rfl (.inl rfl) (by decide))) (fun _ _ _ _ _ => (sts_one (st_w (sw_and (st_le (se_ix (se_var (pv 2)) se_int) (se_ix (se_var (pv 1)) se_int)) (sw_and1 (st_le (se_ix (se_var (pv 1)) se_int) (se_ix (se_var (pv 2)) se_int))))))) (fun _ _ _ _ _ => (se_var (pv 2))))) se_int)))
theorem sc_is_allowed : FnScope ["tree", "layers", "part", "node", "cut", "top", "low", "own"] ["tree", "layers", "part"] (defScope s_is_allowed) := ⟨rfl, rfl, rfl, by decide +kernel, rfl, by decide +kernel, by decide +kernel⟩
theorem ok_is_allowed (T : Tx K mg) : FnOk P w K mg base CX0 45 T.f_is_allowed T.d_is_allowed ["tree", "layers", "part"] (spP K mg m_is_allowed) := by
  have h_depth_of : FnOk P w K mg base CX0 44 T.f_depth_of T.d_depth_of ["tree", "node"] (spP K mg m_depth_of) := (ok_depth_of T).mono (by omega)
  refine fn_ok T.F_is_allowed sc_is_allowed (by decide) fun cdv A outer s H E hr => ?_
  have hu : (A.deeper (envOfC "is_allowed" (defScope s_is_allowed) s.heap.objs.size T.f_is_allowed cdv)).units + 65 < cLine := by have := hr.un; omega
  have hu1 : (A.deeper (envOfC "is_allowed" (defScope s_is_allowed) s.heap.objs.size T.f_is_allowed cdv)).units + 1 < cLine := by have := hr.un; omega
  exact (ss_cons (ss_asg (se_var (pv 2)) (sg_tup (n := 2) rfl (sgs_cons (sg_name (i := 3) sc_is_allowed.nd rfl (.inl rfl) (by decide)) (sgs_cons (sg_name (i := 4) sc_is_allowed.nd rfl (.inl rfl) (by decide)) sgs_nil))))
    (ss_cons (ss_if (st_eq hu (c_len T.z_len (se_var (pv 4))) se_int) (ss_one (ss_ret se_bl)) ss_nil)
    (ss_cons (ss_parT (n := 2) rfl (sa_cons (se_callP h_depth_of hr rfl T.g_depth_of T.F_depth_of.kp T.B_depth_of (sa_cons (se_var (pv 0)) (sa_cons (se_var (pv 3)) sa_nil))) (sa_cons (se_callP h_depth_of hr rfl T.g_depth_of T.F_depth_of.kp T.B_depth_of (sa_cons (se_var (pv 0)) (sa_cons (se_var (pv 4)) sa_nil))) sa_nil)) (sgs_cons (sg_name (i := 5) sc_is_allowed.nd rfl (.inr rfl) (by decide)) (sgs_cons (sg_name (i := 6) sc_is_allowed.nd rfl (.inr rfl) (by decide)) sgs_nil)) (by decide) rfl)
    (ss_one (ss_ret (se_or (se_in hu (se_var (pv 5)) (se_var (pv 1))) (se_one (se_not (c_any rfl T.z_any (se_compn (own := [("own", 7)]) (n := 8) rfl rfl sc_is_allowed.nd (si_seq (se_var (pv 1))) (blkOk_by (by kernel_rfl)) (fun _ _ _ _ _ => (sg_name (i := 7) sc_is_allowed.nd rfl (.inl rfl) (by decide))) (fun _ _ _ _ _ => sts_nil) (fun _ _ _ _ _ => (se_chain op_lt op_lt (cI _) (cI _) (se_var (pv 5)) (se_var (pv 7)) (se_var (pv 6))))))))))))))
theorem sc_law_lists : FnScope ["_law_matter", "_law_bit"] ["_law_matter"] (defScope s_law_lists) := ⟨rfl, rfl, rfl, by decide +kernel, rfl, by decide +kernel, by decide +kernel⟩
theorem ok_law_lists (T : Tx K mg) : ∀ n : Nat, FnOk P w K mg base CX0 (0 + n) T.f_law_lists T.d_law_lists ["_law_matter"] (spP K mg (m_law_lists n))
  | 0 => fn_none.mono (Nat.zero_le _)
  | n + 1 => by
    have IH := ok_law_lists T n
    refine fn_ok T.F_law_lists sc_law_lists (by decide) fun cdv A outer s H E hr => ?_
    have hu : (A.deeper (envOfC "_law_lists" (defScope s_law_lists) s.heap.objs.size T.f_law_lists cdv)).units + 65 < cLine := by have := hr.un; omega
    have hu1 : (A.deeper (envOfC "_law_lists" (defScope s_law_lists) s.heap.objs.size T.f_law_lists cdv)).units + 1 < cLine := by have := hr.un; omega
    exact (ss_one (ss_ret (se_if (st_tr (se_isiT rfl T.z_isinstance (se_var (pv 0)) (ty_cons rfl T.z_list b_list (ty_cons rfl T.z_tuple b_tuple ty_nil)) (by decide))) (se_compn (own := [("_law_bit", 1)]) (n := 2) rfl rfl sc_law_lists.nd (si_seq (se_var (pv 0))) (blkOk_by (by kernel_rfl)) (fun _ _ _ _ _ => (sg_name (i := 1) sc_law_lists.nd rfl (.inl rfl) (by decide))) (fun _ _ _ _ _ => sts_nil) (fun _ _ _ _ _ => (se_callP IH hr rfl T.g_law_lists T.F_law_lists.kp T.B_law_lists (sa_cons (se_var (pv 1)) sa_nil)))) (se_var (pv 0)))))
theorem sc_law_hand_right : FnScope ["_law_five", "_law_rows", "_law_told", "_law_floors_so", "_law_piece", "_law_due", "_law_comb", "_law_halves", "_law_tale_here"] [] (defScope s_law_hand_right) := ⟨rfl, rfl, rfl, by decide +kernel, rfl, by decide +kernel, by decide +kernel⟩
theorem ok_law_hand_right (T : Tx K mg) : FnOk P w K mg base CX0 46 T.f_law_hand_right T.d_law_hand_right [] (spP K mg m_law_hand_right) := by
  have h_law_same : FnOk P w K mg base CX0 45 T.f_law_same T.d_law_same ["_law_got", "_law_goal"] (spP K mg (m_law_same 40)) := (ok_law_same T 40).mono (by omega)
  have h_is_allowed : FnOk P w K mg base CX0 45 T.f_is_allowed T.d_is_allowed ["tree", "layers", "part"] (spP K mg m_is_allowed) := (ok_is_allowed T).mono (by omega)
  have h_law_lists : FnOk P w K mg base CX0 45 T.f_law_lists T.d_law_lists ["_law_matter"] (spP K mg (m_law_lists 40)) := (ok_law_lists T 40).mono (by omega)
  refine fn_ok T.F_law_hand_right sc_law_hand_right (by decide) fun cdv A outer s H E hr => ?_
  have hu : (A.deeper (envOfC "_law_hand_right" (defScope s_law_hand_right) s.heap.objs.size T.f_law_hand_right cdv)).units + 65 < cLine := by have := hr.un; omega
  have hu1 : (A.deeper (envOfC "_law_hand_right" (defScope s_law_hand_right) s.heap.objs.size T.f_law_hand_right cdv)).units + 1 < cLine := by have := hr.un; omega
  exact (ss_cons (ss_asg (se_tup (sa_cons (se_tup (sa_cons se_str (sa_cons se_str sa_nil))) (sa_cons (se_tup (sa_cons (se_tup (sa_cons se_str (sa_cons se_str sa_nil))) (sa_cons se_str sa_nil))) sa_nil))) (sg_name (i := 0) sc_law_hand_right.nd rfl (.inl rfl) (by decide)))
    (ss_cons (ss_asg (se_lst (sa_cons (se_tup (sa_cons (se_tup (sa_cons se_int sa_nil)) (sa_cons (se_tup (sa_cons (se_tup (sa_cons se_int (sa_cons se_int sa_nil))) (sa_cons (se_tup (sa_cons se_int (sa_cons se_int sa_nil))) sa_nil))) (sa_cons se_bl sa_nil)))) (sa_cons (se_tup (sa_cons (se_tup (sa_cons se_int sa_nil)) (sa_cons (se_tup (sa_cons (se_tup (sa_cons se_int (sa_cons se_int sa_nil))) (sa_cons (se_tup (sa_cons se_int (sa_cons se_int sa_nil))) sa_nil))) (sa_cons se_bl sa_nil)))) (sa_cons (se_tup (sa_cons (se_tup (sa_cons se_int sa_nil)) (sa_cons (se_tup (sa_cons (se_tup (sa_cons se_int (sa_cons se_int sa_nil))) (sa_cons (se_tup sa_nil) sa_nil))) (sa_cons se_bl sa_nil)))) sa_nil)))) (sg_name (i := 1) sc_law_hand_right.nd rfl (.inl rfl) (by decide)))
    (ss_cons (ss_asg (se_add (se_var (pv 1)) (se_lst (sa_cons (se_tup (sa_cons (se_tup (sa_cons se_int sa_nil)) (sa_cons (se_tup (sa_cons (se_tup (sa_cons se_int (sa_cons se_int sa_nil))) (sa_cons (se_tup (sa_cons se_int (sa_cons se_int sa_nil))) sa_nil))) (sa_cons se_bl sa_nil)))) (sa_cons (se_tup (sa_cons (se_tup (sa_cons se_int (sa_cons se_int sa_nil))) (sa_cons (se_tup (sa_cons (se_tup (sa_cons se_int (sa_cons se_int sa_nil))) (sa_cons (se_tup (sa_cons se_int (sa_cons se_int sa_nil))) sa_nil))) (sa_cons se_bl sa_nil)))) sa_nil)))) (sg_name (i := 1) sc_law_hand_right.nd rfl (.inl rfl) (by decide)))
    (ss_cons (ss_asg (se_add (se_var (pv 1)) (se_lst (sa_cons (se_tup (sa_cons (se_tup (sa_cons se_int sa_nil)) (sa_cons (se_tup (sa_cons (se_tup (sa_cons se_int (sa_cons se_int sa_nil))) (sa_cons (se_tup (sa_cons se_int (sa_cons se_int sa_nil))) sa_nil))) (sa_cons se_bl sa_nil)))) sa_nil))) (sg_name (i := 1) sc_law_hand_right.nd rfl (.inl rfl) (by decide)))
    (ss_cons (ss_asg (se_add (se_var (pv 1)) (se_lst (sa_cons (se_tup (sa_cons (se_tup (sa_cons se_int sa_nil)) (sa_cons (se_tup (sa_cons (se_tup (sa_cons se_int (sa_cons se_int sa_nil))) (sa_cons (se_tup (sa_cons se_int (sa_cons se_int sa_nil))) sa_nil))) (sa_cons se_bl sa_nil)))) (sa_cons (se_tup (sa_cons (se_tup (sa_cons se_int sa_nil)) (sa_cons (se_tup (sa_cons (se_tup (sa_cons se_int (sa_cons se_int sa_nil))) (sa_cons (se_tup (sa_cons se_int (sa_cons se_int sa_nil))) sa_nil))) (sa_cons se_bl sa_nil)))) sa_nil)))) (sg_name (i := 1) sc_law_hand_right.nd rfl (.inl rfl) (by decide)))
    (ss_cons (ss_asg (se_add (se_var (pv 1)) (se_lst (sa_cons (se_tup (sa_cons (se_tup (sa_cons se_int sa_nil)) (sa_cons (se_tup (sa_cons (se_tup (sa_cons se_int (sa_cons se_int sa_nil))) (sa_cons (se_tup (sa_cons se_int (sa_cons se_int sa_nil))) sa_nil))) (sa_cons se_bl sa_nil)))) sa_nil))) (sg_name (i := 1) sc_law_hand_right.nd rfl (.inl rfl) (by decide)))
    (ss_cons (ss_asg (se_add (se_var (pv 1)) (se_lst (sa_cons (se_tup (sa_cons (se_tup (sa_cons se_int (sa_cons se_int sa_nil))) (sa_cons (se_tup (sa_cons (se_tup (sa_cons se_int (sa_cons se_int sa_nil))) (sa_cons (se_tup (sa_cons se_int (sa_cons se_int sa_nil))) sa_nil))) (sa_cons se_bl sa_nil)))) (sa_cons (se_tup (sa_cons (se_tup sa_nil) (sa_cons (se_tup (sa_cons (se_tup (sa_cons se_int (sa_cons se_int sa_nil))) (sa_cons (se_tup (sa_cons se_int (sa_cons se_int sa_nil))) sa_nil))) (sa_cons se_bl sa_nil)))) sa_nil)))) (sg_name (i := 1) sc_law_hand_right.nd rfl (.inl rfl) (by decide)))
    (ss_cons (ss_asg (se_add (se_var (pv 1)) (se_lst (sa_cons (se_tup (sa_cons (se_tup (sa_cons se_int sa_nil)) (sa_cons (se_tup (sa_cons (se_tup (sa_cons se_int (sa_cons se_int sa_nil))) (sa_cons (se_tup (sa_cons se_int (sa_cons se_int sa_nil))) sa_nil))) (sa_cons se_bl sa_nil)))) sa_nil))) (sg_name (i := 1) sc_law_hand_right.nd rfl (.inl rfl) (by decide)))
    (ss_cons (ss_asg (se_add (se_var (pv 1)) (se_lst (sa_cons (se_tup (sa_cons (se_tup (sa_cons se_int (sa_cons se_int sa_nil))) (sa_cons (se_tup (sa_cons (se_tup (sa_cons se_int (sa_cons se_int sa_nil))) (sa_cons (se_tup (sa_cons se_int (sa_cons se_int sa_nil))) sa_nil))) (sa_cons se_bl sa_nil)))) (sa_cons (se_tup (sa_cons (se_tup (sa_cons se_int (sa_cons se_int sa_nil))) (sa_cons (se_tup (sa_cons (se_tup (sa_cons se_int (sa_cons se_int sa_nil))) (sa_cons (se_tup (sa_cons se_int (sa_cons se_int sa_nil))) sa_nil))) (sa_cons se_bl sa_nil)))) sa_nil)))) (sg_name (i := 1) sc_law_hand_right.nd rfl (.inl rfl) (by decide)))
    (ss_cons (ss_asg (se_add (se_var (pv 1)) (se_lst (sa_cons (se_tup (sa_cons (se_tup (sa_cons se_int (sa_cons se_int sa_nil))) (sa_cons (se_tup (sa_cons (se_tup (sa_cons se_int (sa_cons se_int sa_nil))) (sa_cons (se_tup (sa_cons se_int (sa_cons se_int sa_nil))) sa_nil))) (sa_cons se_bl sa_nil)))) sa_nil))) (sg_name (i := 1) sc_law_hand_right.nd rfl (.inl rfl) (by decide)))
    (ss_cons (ss_for PassesOwn.never rfl (si_seq (se_var (pv 1))) (sg_tup (n := 3) rfl (sgs_cons (sg_name (i := 3) sc_law_hand_right.nd rfl (.inl rfl) (by decide)) (sgs_cons (sg_name (i := 4) sc_law_hand_right.nd rfl (.inl rfl) (by decide)) (sgs_cons (sg_name (i := 5) sc_law_hand_right.nd rfl (.inl rfl) (by decide)) sgs_nil)))) (ss_cons (ss_asg (se_lst (sa_cons (se_callP h_is_allowed hr rfl T.g_is_allowed T.F_is_allowed.kp T.B_is_allowed (sa_cons (se_var (pv 0)) (sa_cons (se_var (pv 3)) (sa_cons (se_var (pv 4)) sa_nil)))) sa_nil)) (sg_name (i := 2) sc_law_hand_right.nd rfl (.inl rfl) (by decide)))
    (ss_cons (ss_expr (se_appN rfl rfl rfl rfl (pv 2) (se_callKP0 h_is_allowed hr rfl T.g_is_allowed T.F_is_allowed.kp T.k_is_allowed_0 (sk_cons (se_callP h_law_lists hr rfl T.g_law_lists T.F_law_lists.kp T.B_law_lists (sa_cons (se_var (pv 4)) sa_nil)) (sk_cons (c_list T.z_list (se_var (pv 3))) (sk_cons (se_callP h_law_lists hr rfl T.g_law_lists T.F_law_lists.kp T.B_law_lists (sa_cons (se_var (pv 0)) sa_nil)) sk_nil))) (by decide) rfl)))
    (ss_one (ss_if (st_not (st_tr (se_pure (se_callP h_law_same hr rfl T.g_law_same T.F_law_same.kp T.B_law_same (sa_cons (se_var (pv 2)) (sa_cons (se_lst (sa_cons (se_var (pv 5)) (sa_cons (se_var (pv 5)) sa_nil))) sa_nil)))))) (ss_one (ss_ret se_bl)) ss_nil)))))
    (ss_cons (ss_parT (n := 2) rfl (sa_cons (se_tup (sa_cons (se_tup (sa_cons (se_tup (sa_cons se_str (sa_cons se_str sa_nil))) (sa_cons se_str sa_nil))) (sa_cons se_str sa_nil))) (sa_cons (se_tup (sa_cons (se_tup (sa_cons se_str (sa_cons se_str sa_nil))) (sa_cons (se_tup (sa_cons se_str (sa_cons se_str sa_nil))) sa_nil))) sa_nil)) (sgs_cons (sg_name (i := 6) sc_law_hand_right.nd rfl (.inl rfl) (by decide)) (sgs_cons (sg_name (i := 7) sc_law_hand_right.nd rfl (.inl rfl) (by decide)) sgs_nil)) (by decide) rfl)
    (ss_cons (ss_setLcn (i := 2) (own := [("_law_tale_here", 8)]) (n := 9) rfl rfl sc_law_hand_right.nd rfl rfl (by decide) rfl (si_seq (se_tup (sa_cons (se_var (pv 6)) (sa_cons (se_var (pv 7)) (sa_cons (se_var (pv 6)) sa_nil))))) (blkOk_by (by kernel_rfl)) (fun _ _ _ _ _ => (sg_name (i := 8) sc_law_hand_right.nd rfl (.inl rfl) (by decide))) (fun _ _ _ _ _ => sts_nil) (fun _ _ _ _ _ => (se_callP h_is_allowed hr rfl T.g_is_allowed T.F_is_allowed.kp T.B_is_allowed (sa_cons (se_var (pv 8)) (sa_cons (se_tup (sa_cons se_int sa_nil)) (sa_cons (se_tup (sa_cons (se_tup (sa_cons se_int (sa_cons se_int sa_nil))) (sa_cons (se_tup (sa_cons se_int (sa_cons se_int sa_nil))) sa_nil))) sa_nil))))))
    (ss_cons (ss_asg (se_add (se_var (pv 2)) (se_lst (sa_cons (se_callP h_is_allowed hr rfl T.g_is_allowed T.F_is_allowed.kp T.B_is_allowed (sa_cons se_str (sa_cons (se_tup (sa_cons se_int (sa_cons se_int sa_nil))) (sa_cons (se_tup (sa_cons (se_tup (sa_cons se_int (sa_cons se_int sa_nil))) (sa_cons (se_tup sa_nil) sa_nil))) sa_nil)))) (sa_cons (se_callP h_is_allowed hr rfl T.g_is_allowed T.F_is_allowed.kp T.B_is_allowed (sa_cons (se_tup (sa_cons se_str (sa_cons se_str sa_nil))) (sa_cons (se_tup (sa_cons se_int sa_nil)) (sa_cons (se_tup (sa_cons (se_tup (sa_cons se_int (sa_cons se_int sa_nil))) (sa_cons (se_tup (sa_cons se_int (sa_cons se_int sa_nil))) sa_nil))) sa_nil)))) sa_nil)))) (sg_name (i := 2) sc_law_hand_right.nd rfl (.inl rfl) (by decide)))
    (ss_one (ss_ret (se_callP h_law_same hr rfl T.g_law_same T.F_law_same.kp T.B_law_same (sa_cons (se_var (pv 2)) (sa_cons (se_lst (sa_cons se_bl (sa_cons se_bl (sa_cons se_bl (sa_cons se_bl (sa_cons se_bl sa_nil)))))) sa_nil)))))))))))))))))))
theorem sc_law_leaves : FnScope ["_law_tale_here"] ["_law_tale_here"] (defScope s_law_leaves) := ⟨rfl, rfl, rfl, by decide +kernel, rfl, by decide +kernel, by decide +kernel⟩
theorem ok_law_leaves (T : Tx K mg) : ∀ n : Nat, FnOk P w K mg base CX0 (0 + n) T.f_law_leaves T.d_law_leaves ["_law_tale_here"] (spP K mg (m_law_leaves n))
  | 0 => fn_none.mono (Nat.zero_le _)
  | n + 1 => by
    have IH := ok_law_leaves T n
    refine fn_ok T.F_law_leaves sc_law_leaves (by decide) fun cdv A outer s H E hr => ?_
    have hu : (A.deeper (envOfC "_law_leaves" (defScope s_law_leaves) s.heap.objs.size T.f_law_leaves cdv)).units + 65 < cLine := by have := hr.un; omega
    have hu1 : (A.deeper (envOfC "_law_leaves" (defScope s_law_leaves) s.heap.objs.size T.f_law_leaves cdv)).units + 1 < cLine := by have := hr.un; omega
    exact (ss_one (ss_ret (se_if (st_tr (se_isi1 rfl T.z_isinstance (se_var (pv 0)) rfl T.z_str b_str)) (se_lst (sa_cons (se_var (pv 0)) sa_nil)) (se_add (se_callP IH hr rfl T.g_law_leaves T.F_law_leaves.kp T.B_law_leaves (sa_cons (se_ix (se_var (pv 0)) se_int) sa_nil)) (se_callP IH hr rfl T.g_law_leaves T.F_law_leaves.kp T.B_law_leaves (sa_cons (se_ix (se_var (pv 0)) se_int) sa_nil))))))
theorem sc_law_spans : FnScope ["_law_tale_here", "_law_first", "_law_far", "_law_mid", "_law_found", "_law_later", "_law_own"] ["_law_tale_here", "_law_first"] (defScope s_law_spans) := ⟨rfl, rfl, rfl, by decide +kernel, rfl, by decide +kernel, by decide +kernel⟩
theorem ok_law_spans (T : Tx K mg) : ∀ n : Nat, FnOk P w K mg base CX0 (40 + n) T.f_law_spans T.d_law_spans ["_law_tale_here", "_law_first"] (spP K mg (m_law_spans n))
  | 0 => fn_none.mono (Nat.zero_le _)
  | n + 1 => by
    have IH := ok_law_spans T n
    have h_law_leaves : FnOk P w K mg base CX0 (40 + n) T.f_law_leaves T.d_law_leaves ["_law_tale_here"] (spP K mg (m_law_leaves 40)) := (ok_law_leaves T 40).mono (by omega)
    refine fn_ok T.F_law_spans sc_law_spans (by decide) fun cdv A outer s H E hr => ?_
    have hu : (A.deeper (envOfC "_law_spans" (defScope s_law_spans) s.heap.objs.size T.f_law_spans cdv)).units + 65 < cLine := by have := hr.un; omega
    have hu1 : (A.deeper (envOfC "_law_spans" (defScope s_law_spans) s.heap.objs.size T.f_law_spans cdv)).units + 1 < cLine := by have := hr.un; omega
    exact (ss_cons (ss_asg (se_add (se_var (pv 1)) (c_len T.z_len (se_callP h_law_leaves hr rfl T.g_law_leaves T.F_law_leaves.kp T.B_law_leaves (sa_cons (se_var (pv 0)) sa_nil)))) (sg_name (i := 2) sc_law_spans.nd rfl (.inl rfl) (by decide)))
      (ss_cons (ss_if (st_tr (se_isi1 rfl T.z_isinstance (se_var (pv 0)) rfl T.z_str b_str)) (ss_one (ss_ret (c_dict1T hu rfl T.z_dict (se_lst (sa_cons (se_tup (sa_cons (se_tup (sa_cons (se_var (pv 1)) (sa_cons (se_var (pv 2)) sa_nil))) (sa_cons (se_lst sa_nil) sa_nil))) sa_nil))))) ss_nil)
      (ss_cons (ss_asg (se_add (se_var (pv 1)) (c_len T.z_len (se_callP h_law_leaves hr rfl T.g_law_leaves T.F_law_leaves.kp T.B_law_leaves (sa_cons (se_ix (se_var (pv 0)) se_int) sa_nil)))) (sg_name (i := 3) sc_law_spans.nd rfl (.inl rfl) (by decide)))
      (ss_cons (ss_asg (se_call IH hr rfl T.g_law_spans T.F_law_spans.kp T.B_law_spans (sa_cons (se_ix (se_var (pv 0)) se_int) (sa_cons (se_var (pv 1)) sa_nil))) (sg_name (i := 4) sc_law_spans.nd rfl (.inl rfl) (by decide)))
      (ss_cons (ss_asg (se_call IH hr rfl T.g_law_spans T.F_law_spans.kp T.B_law_spans (sa_cons (se_ix (se_var (pv 0)) se_int) (sa_cons (se_var (pv 3)) sa_nil))) (sg_name (i := 5) sc_law_spans.nd rfl (.inl rfl) (by decide)))
      (ss_cons (ss_for PassesOwn.never rfl (si_seq (c_listT rfl T.z_list (se_var (pv 5)))) (sg_name (i := 6) sc_law_spans.nd rfl (.inl rfl) (by decide)) (ss_one (ss_dputN hu1 (pv 4) (se_var (pv 6)) (se_dget hu1 (se_var (pv 5)) (se_var (pv 6))))))
      (ss_cons (ss_dputN hu1 (pv 4) (se_tup (sa_cons (se_var (pv 1)) (sa_cons (se_var (pv 2)) sa_nil))) (se_lst (sa_cons (se_tup (sa_cons (se_var (pv 1)) (sa_cons (se_var (pv 3)) sa_nil))) (sa_cons (se_tup (sa_cons (se_var (pv 3)) (sa_cons (se_var (pv 2)) sa_nil))) sa_nil))))
      (ss_one (ss_ret (se_var (pv 4)))))))))))
theorem sc_law_under : FnScope ["_law_spans_here", "_law_knot", "_law_found", "_law_left", "_law_here"] ["_law_spans_here", "_law_knot"] (defScope s_law_under) := ⟨rfl, rfl, rfl, by decide +kernel, rfl, by decide +kernel, by decide +kernel⟩
theorem ok_law_under (T : Tx K mg) : FnOk P w K mg base CX0 1 T.f_law_under T.d_law_under ["_law_spans_here", "_law_knot"] (spP K mg m_law_under) := by
  refine fn_ok T.F_law_under sc_law_under (by decide) fun cdv A outer s H E hr => ?_
  have hu : (A.deeper (envOfC "_law_under" (defScope s_law_under) s.heap.objs.size T.f_law_under cdv)).units + 65 < cLine := by have := hr.un; omega
  have hu1 : (A.deeper (envOfC "_law_under" (defScope s_law_under) s.heap.objs.size T.f_law_under cdv)).units + 1 < cLine := by have := hr.un; omega
  exact (ss_cons (ss_par2 (i := 2) (j := 3) rfl sc_law_under.nd rfl rfl (by decide) rfl rfl (by decide) (by decide) (sa_cons (se_lst sa_nil) (sa_cons (se_lst (sa_cons (se_var (pv 1)) sa_nil)) sa_nil)) rfl)
    (ss_cons (ss_while (n := 400) PassesOwn.never (st_ne hu (se_var (pv 3)) (se_lst sa_nil)) (ss_cons (ss_asg (se_pop rfl rfl (se_var (pv 3))) (sg_name (i := 4) sc_law_under.nd rfl (.inl rfl) (by decide)))
    (ss_cons (ss_expr (se_appN rfl rfl rfl rfl (pv 2) (se_var (pv 4))))
    (ss_one (ss_asg (se_add (se_var (pv 3)) (se_dget hu1 (se_var (pv 0)) (se_var (pv 4)))) (sg_name (i := 3) sc_law_under.nd rfl (.inl rfl) (by decide)))))))
    (ss_one (ss_ret (c_sortX hu rfl T.z_sorted (se_var (pv 2)))))))
theorem sc_law_pieces : FnScope ["_law_tale_here", "_law_spans_here", "_law_head", "_law_found", "_law_own", "_law_far"] ["_law_tale_here"] (defScope s_law_pieces) := ⟨rfl, rfl, rfl, by decide +kernel, rfl, by decide +kernel, by decide +kernel⟩
theorem ok_law_pieces (T : Tx K mg) : FnOk P w K mg base CX0 81 T.f_law_pieces T.d_law_pieces ["_law_tale_here"] (spP K mg m_law_pieces) := by
  have h_law_spans : FnOk P w K mg base CX0 80 T.f_law_spans T.d_law_spans ["_law_tale_here", "_law_first"] (spP K mg (m_law_spans 40)) := (ok_law_spans T 40).mono (by omega)
  have h_law_leaves : FnOk P w K mg base CX0 80 T.f_law_leaves T.d_law_leaves ["_law_tale_here"] (spP K mg (m_law_leaves 40)) := (ok_law_leaves T 40).mono (by omega)
  have h_law_under : FnOk P w K mg base CX0 80 T.f_law_under T.d_law_under ["_law_spans_here", "_law_knot"] (spP K mg m_law_under) := (ok_law_under T).mono (by omega)
  refine fn_ok T.F_law_pieces sc_law_pieces (by decide) fun cdv A outer s H E hr => ?_
  have hu : (A.deeper (envOfC "_law_pieces" (defScope s_law_pieces) s.heap.objs.size T.f_law_pieces cdv)).units + 65 < cLine := by have := hr.un; omega
  have hu1 : (A.deeper (envOfC "_law_pieces" (defScope s_law_pieces) s.heap.objs.size T.f_law_pieces cdv)).units + 1 < cLine := by have := hr.un; omega
  exact (ss_cons (ss_asg (se_call h_law_spans hr rfl T.g_law_spans T.F_law_spans.kp T.B_law_spans (sa_cons (se_var (pv 0)) (sa_cons se_int sa_nil))) (sg_name (i := 1) sc_law_pieces.nd rfl (.inl rfl) (by decide)))
    (ss_cons (ss_asg (se_tup (sa_cons se_int (sa_cons (c_len T.z_len (se_callP h_law_leaves hr rfl T.g_law_leaves T.F_law_leaves.kp T.B_law_leaves (sa_cons (se_var (pv 0)) sa_nil))) sa_nil))) (sg_name (i := 2) sc_law_pieces.nd rfl (.inl rfl) (by decide)))
    (ss_cons (ss_asg (se_lst (sa_cons (se_tup (sa_cons (se_var (pv 2)) (sa_cons (se_tup sa_nil) sa_nil))) sa_nil)) (sg_name (i := 3) sc_law_pieces.nd rfl (.inl rfl) (by decide)))
    (ss_cons (ss_for PassesOwn.never rfl (si_keys (se_var (pv 1))) (sg_name (i := 4) sc_law_pieces.nd rfl (.inr rfl) (by decide)) (ss_one (ss_asg (se_add (se_var (pv 3)) (se_compn (own := [("_law_far", 5)]) (n := 6) rfl rfl sc_law_pieces.nd (si_seq (se_callP h_law_under hr rfl T.g_law_under T.F_law_under.kp T.B_law_under (sa_cons (se_var (pv 1)) (sa_cons (se_var (pv 4)) sa_nil)))) (blkOk_by (by kernel_rfl)) (fun _ _ _ _ _ => (sg_name (i := 5) sc_law_pieces.nd rfl (.inl rfl) (by decide))) (fun _ _ _ _ _ => (sts_one (st_ne hu (se_var (pv 5)) (se_var (pv 4))))) (fun _ _ _ _ _ => (se_tup (sa_cons (se_var (pv 4)) (sa_cons (se_var (pv 5)) sa_nil)))))) (sg_name (i := 3) sc_law_pieces.nd rfl (.inl rfl) (by decide)))))
    (ss_one (ss_ret (c_sortX hu rfl T.z_sorted (se_var (pv 3)))))))))
theorem sc_law_take : FnScope ["_law_urn", "_law_low_so", "_law_once", "_law_far", "_law_twice", "_law_drawn"] ["_law_urn", "_law_low_so"] (defScope s_law_take) := ⟨rfl, rfl, rfl, by decide +kernel, rfl, by decide +kernel, by decide +kernel⟩
theorem ok_law_take (T : Tx K mg) : FnOk P w K mg base CX0 1 T.f_law_take T.d_law_take ["_law_urn", "_law_low_so"] (spP K mg m_law_take) := by
  refine fn_ok T.F_law_take sc_law_take (by decide) fun cdv A outer s H E hr => ?_
  have hu : (A.deeper (envOfC "_law_take" (defScope s_law_take) s.heap.objs.size T.f_law_take cdv)).units + 65 < cLine := by have := hr.un; omega
  have hu1 : (A.deeper (envOfC "_law_take" (defScope s_law_take) s.heap.objs.size T.f_law_take cdv)).units + 1 < cLine := by have := hr.un; omega
  exact (ss_cons (ss_if (st_gt (se_ix (se_var (pv 0)) se_int) se_int) (ss_cons (ss_asg (se_mod (c_int T.z_int (se_ix (se_var (pv 0)) se_int)) (se_var (pv 1))) (sg_name (i := 5) sc_law_take.nd rfl (.inl rfl) (by decide)))
    (ss_cons (ss_asg (se_div (se_ix (se_var (pv 0)) se_int) (se_var (pv 1))) (sg_sub (se_var (pv 0)) se_int (pg_sub (se_var (pv 0)) se_int set_list)))
    (ss_one (ss_ret (se_var (pv 5)))))) ss_nil)
    (ss_cons (ss_asg (se_add (se_ix (se_var (pv 0)) se_int) se_int) (sg_sub (se_var (pv 0)) se_int (pg_sub (se_var (pv 0)) se_int set_list)))
    (ss_cons (ss_asg (se_mod (c_int T.z_int (se_mul (se_add (se_ix (se_var (pv 0)) se_int) (se_mul se_int (se_ix (se_var (pv 0)) se_int))) (se_add se_int (se_ix (se_var (pv 0)) se_int)))) se_int) (sg_name (i := 2) sc_law_take.nd rfl (.inl rfl) (by decide)))
    (ss_cons (ss_asg (se_add (se_mod (c_int T.z_int (se_var (pv 2))) se_int) se_int) (sg_name (i := 3) sc_law_take.nd rfl (.inl rfl) (by decide)))
    (ss_cons (ss_asg (se_mod (c_int T.z_int (se_mul (se_add (se_add (se_var (pv 2)) (se_ix (se_var (pv 0)) se_int)) (se_div (se_ix (se_var (pv 0)) se_int) se_int)) (se_var (pv 3)))) se_int) (sg_name (i := 4) sc_law_take.nd rfl (.inl rfl) (by decide)))
    (ss_one (ss_ret (se_mod (c_int T.z_int (se_div (se_mod (c_int T.z_int (se_add (se_mul (se_var (pv 4)) se_int) (se_var (pv 2)))) se_int) se_int)) (se_var (pv 1))))))))))
theorem sc_law_shape : FnScope ["_law_urn", "_law_row", "_law_cut_so", "_law_front"] ["_law_urn", "_law_row"] (defScope s_law_shape) := ⟨rfl, rfl, rfl, by decide +kernel, rfl, by decide +kernel, by decide +kernel⟩
theorem ok_law_shape (T : Tx K mg) : ∀ n : Nat, FnOk P w K mg base CX0 (1 + n) T.f_law_shape T.d_law_shape ["_law_urn", "_law_row"] (spP K mg (m_law_shape n))
  | 0 => fn_none.mono (Nat.zero_le _)
  | n + 1 => by
    have IH := ok_law_shape T n
    have h_law_take : FnOk P w K mg base CX0 (1 + n) T.f_law_take T.d_law_take ["_law_urn", "_law_low_so"] (spP K mg m_law_take) := (ok_law_take T).mono (by omega)
    refine fn_ok T.F_law_shape sc_law_shape (by decide) fun cdv A outer s H E hr => ?_
    have hu : (A.deeper (envOfC "_law_shape" (defScope s_law_shape) s.heap.objs.size T.f_law_shape cdv)).units + 65 < cLine := by have := hr.un; omega
    have hu1 : (A.deeper (envOfC "_law_shape" (defScope s_law_shape) s.heap.objs.size T.f_law_shape cdv)).units + 1 < cLine := by have := hr.un; omega
    exact (ss_cons (ss_if (st_eq hu (c_len T.z_len (se_var (pv 1))) se_int) (ss_one (ss_ret (se_ix (se_var (pv 1)) se_int))) ss_nil)
      (ss_cons (ss_asg (se_add se_int (se_call h_law_take hr rfl T.g_law_take T.F_law_take.kp T.B_law_take (sa_cons (se_var (pv 0)) (sa_cons (se_sub (c_len T.z_len (se_var (pv 1))) se_int) sa_nil)))) (sg_name (i := 2) sc_law_shape.nd rfl (.inl rfl) (by decide)))
      (ss_cons (ss_asg (se_call IH hr rfl T.g_law_shape T.F_law_shape.kp T.B_law_shape (sa_cons (se_var (pv 0)) (sa_cons (se_slHi (se_var (pv 1)) (se_var (pv 2))) sa_nil))) (sg_name (i := 3) sc_law_shape.nd rfl (.inl rfl) (by decide)))
      (ss_one (ss_ret (se_tup (sa_cons (se_var (pv 3)) (sa_cons (se_call IH hr rfl T.g_law_shape T.F_law_shape.kp T.B_law_shape (sa_cons (se_var (pv 0)) (sa_cons (se_slLo (se_var (pv 1)) (se_var (pv 2))) sa_nil))) sa_nil))))))))
theorem sc_law_words : FnScope ["_law_urn", "_law_many_so", "_law_turn", "_law_pool", "_law_found"] ["_law_urn", "_law_many_so"] (defScope s_law_words) := ⟨rfl, rfl, rfl, by decide +kernel, rfl, by decide +kernel, by decide +kernel⟩
theorem ok_law_words (T : Tx K mg) : FnOk P w K mg base CX0 2 T.f_law_words T.d_law_words ["_law_urn", "_law_many_so"] (spP K mg m_law_words) := by
  have h_law_take : FnOk P w K mg base CX0 1 T.f_law_take T.d_law_take ["_law_urn", "_law_low_so"] (spP K mg m_law_take) := (ok_law_take T).mono (by omega)
  refine fn_ok T.F_law_words sc_law_words (by decide) fun cdv A outer s H E hr => ?_
  have hu : (A.deeper (envOfC "_law_words" (defScope s_law_words) s.heap.objs.size T.f_law_words cdv)).units + 65 < cLine := by have := hr.un; omega
  have hu1 : (A.deeper (envOfC "_law_words" (defScope s_law_words) s.heap.objs.size T.f_law_words cdv)).units + 1 < cLine := by have := hr.un; omega
  exact (ss_cons (ss_par2 (i := 3) (j := 4) rfl sc_law_words.nd rfl rfl (by decide) rfl rfl (by decide) (by decide) (sa_cons (se_lst (sa_cons se_str (sa_cons se_str (sa_cons se_str (sa_cons se_str (sa_cons se_str (sa_cons se_str (sa_cons se_str (sa_cons se_str (sa_cons se_str (sa_cons se_str (sa_cons se_str (sa_cons se_str (sa_cons se_str (sa_cons se_str (sa_cons se_str (sa_cons se_str sa_nil))))))))))))))))) (sa_cons (se_lst sa_nil) sa_nil)) rfl)
    (ss_cons (ss_for PassesOwn.never rfl (si_range1 rfl T.z_range (se_var (pv 1))) (sg_name (i := 2) sc_law_words.nd rfl (.inl rfl) (by decide)) (ss_one (ss_expr (se_appN rfl rfl rfl rfl (pv 4) (se_popAtN rfl rfl rfl rfl (pv 3) (se_call h_law_take hr rfl T.g_law_take T.F_law_take.kp T.B_law_take (sa_cons (se_var (pv 0)) (sa_cons (c_len T.z_len (se_var (pv 3))) sa_nil))))))))
    (ss_one (ss_ret (se_var (pv 4))))))
theorem sc_law_tale : FnScope ["_law_urn", "_law_top"] ["_law_urn", "_law_top"] (defScope s_law_tale) := ⟨rfl, rfl, rfl, by decide +kernel, rfl, by decide +kernel, by decide +kernel⟩
theorem ok_law_tale (T : Tx K mg) : FnOk P w K mg base CX0 42 T.f_law_tale T.d_law_tale ["_law_urn", "_law_top"] (spP K mg m_law_tale) := by
  have h_law_shape : FnOk P w K mg base CX0 41 T.f_law_shape T.d_law_shape ["_law_urn", "_law_row"] (spP K mg (m_law_shape 40)) := (ok_law_shape T 40).mono (by omega)
  have h_law_words : FnOk P w K mg base CX0 41 T.f_law_words T.d_law_words ["_law_urn", "_law_many_so"] (spP K mg m_law_words) := (ok_law_words T).mono (by omega)
  have h_law_take : FnOk P w K mg base CX0 41 T.f_law_take T.d_law_take ["_law_urn", "_law_low_so"] (spP K mg m_law_take) := (ok_law_take T).mono (by omega)
  refine fn_ok T.F_law_tale sc_law_tale (by decide) fun cdv A outer s H E hr => ?_
  have hu : (A.deeper (envOfC "_law_tale" (defScope s_law_tale) s.heap.objs.size T.f_law_tale cdv)).units + 65 < cLine := by have := hr.un; omega
  have hu1 : (A.deeper (envOfC "_law_tale" (defScope s_law_tale) s.heap.objs.size T.f_law_tale cdv)).units + 1 < cLine := by have := hr.un; omega
  exact (ss_one (ss_ret (se_call h_law_shape hr rfl T.g_law_shape T.F_law_shape.kp T.B_law_shape (sa_cons (se_var (pv 0)) (sa_cons (se_call h_law_words hr rfl T.g_law_words T.F_law_words.kp T.B_law_words (sa_cons (se_var (pv 0)) (sa_cons (se_add se_int (se_call h_law_take hr rfl T.g_law_take T.F_law_take.kp T.B_law_take (sa_cons (se_var (pv 0)) (sa_cons (se_var (pv 1)) sa_nil)))) sa_nil))) sa_nil)))))
theorem sc_law_of : FnScope ["_law_urn", "_law_some"] ["_law_urn", "_law_some"] (defScope s_law_of) := ⟨rfl, rfl, rfl, by decide +kernel, rfl, by decide +kernel, by decide +kernel⟩
theorem ok_law_of (T : Tx K mg) : FnOk P w K mg base CX0 2 T.f_law_of T.d_law_of ["_law_urn", "_law_some"] (spP K mg m_law_of) := by
  have h_law_take : FnOk P w K mg base CX0 1 T.f_law_take T.d_law_take ["_law_urn", "_law_low_so"] (spP K mg m_law_take) := (ok_law_take T).mono (by omega)
  refine fn_ok T.F_law_of sc_law_of (by decide) fun cdv A outer s H E hr => ?_
  have hu : (A.deeper (envOfC "_law_of" (defScope s_law_of) s.heap.objs.size T.f_law_of cdv)).units + 65 < cLine := by have := hr.un; omega
  have hu1 : (A.deeper (envOfC "_law_of" (defScope s_law_of) s.heap.objs.size T.f_law_of cdv)).units + 1 < cLine := by have := hr.un; omega
  exact (ss_one (ss_ret (se_ix (se_var (pv 1)) (se_call h_law_take hr rfl T.g_law_take T.F_law_take.kp T.B_law_take (sa_cons (se_var (pv 0)) (sa_cons (c_len T.z_len (se_var (pv 1))) sa_nil))))))
theorem sc_law_few : FnScope ["_law_urn", "_law_pool", "_law_one_of", "_law_own"] ["_law_urn", "_law_pool", "_law_one_of"] (defScope s_law_few) := ⟨rfl, rfl, rfl, by decide +kernel, rfl, by decide +kernel, by decide +kernel⟩
theorem ok_law_few (T : Tx K mg) : FnOk P w K mg base CX0 2 T.f_law_few T.d_law_few ["_law_urn", "_law_pool", "_law_one_of"] (spP K mg m_law_few) := by
  have h_law_take : FnOk P w K mg base CX0 1 T.f_law_take T.d_law_take ["_law_urn", "_law_low_so"] (spP K mg m_law_take) := (ok_law_take T).mono (by omega)
  refine fn_ok T.F_law_few sc_law_few (by decide) fun cdv A outer s H E hr => ?_
  have hu : (A.deeper (envOfC "_law_few" (defScope s_law_few) s.heap.objs.size T.f_law_few cdv)).units + 65 < cLine := by have := hr.un; omega
  have hu1 : (A.deeper (envOfC "_law_few" (defScope s_law_few) s.heap.objs.size T.f_law_few cdv)).units + 1 < cLine := by have := hr.un; omega
  exact (ss_one (ss_ret (c_tuple T.z_tuple (se_compn (own := [("_law_own", 3)]) (n := 4) rfl rfl sc_law_few.nd (si_seq (se_var (pv 1))) (blkOk_by (by kernel_rfl)) (fun _ _ _ _ _ => (sg_name (i := 3) sc_law_few.nd rfl (.inl rfl) (by decide))) (fun _ _ _ _ _ => (sts_one (st_eq hu (se_call h_law_take hr rfl T.g_law_take T.F_law_take.kp T.B_law_take (sa_cons (se_var (pv 0)) (sa_cons (se_var (pv 2)) sa_nil))) se_int))) (fun _ _ _ _ _ => (se_var (pv 3)))))))
theorem sc_law_floors : FnScope ["_law_urn", "_law_pool"] ["_law_urn"] (defScope s_law_floors) := ⟨rfl, rfl, rfl, by decide +kernel, rfl, by decide +kernel, by decide +kernel⟩
theorem ok_law_floors (T : Tx K mg) : FnOk P w K mg base CX0 3 T.f_law_floors T.d_law_floors ["_law_urn"] (spP K mg m_law_floors) := by
  have h_law_of : FnOk P w K mg base CX0 2 T.f_law_of T.d_law_of ["_law_urn", "_law_some"] (spP K mg m_law_of) := (ok_law_of T).mono (by omega)
  have h_law_few : FnOk P w K mg base CX0 2 T.f_law_few T.d_law_few ["_law_urn", "_law_pool", "_law_one_of"] (spP K mg m_law_few) := (ok_law_few T).mono (by omega)
  have h_law_take : FnOk P w K mg base CX0 2 T.f_law_take T.d_law_take ["_law_urn", "_law_low_so"] (spP K mg m_law_take) := (ok_law_take T).mono (by omega)
  refine fn_ok T.F_law_floors sc_law_floors (by decide) fun cdv A outer s H E hr => ?_
  have hu : (A.deeper (envOfC "_law_floors" (defScope s_law_floors) s.heap.objs.size T.f_law_floors cdv)).units + 65 < cLine := by have := hr.un; omega
  have hu1 : (A.deeper (envOfC "_law_floors" (defScope s_law_floors) s.heap.objs.size T.f_law_floors cdv)).units + 1 < cLine := by have := hr.un; omega
  exact (ss_cons (ss_asg (se_call h_law_of hr rfl T.g_law_of T.F_law_of.kp T.B_law_of (sa_cons (se_var (pv 0)) (sa_cons (se_lst (sa_cons (se_lst sa_nil) (sa_cons (se_lst (sa_cons se_int (sa_cons se_int (sa_cons se_int (sa_cons se_int (sa_cons se_int (sa_cons se_int sa_nil))))))) (sa_cons (se_lst (sa_cons se_int (sa_cons se_int (sa_cons se_int sa_nil)))) (sa_cons (se_lst (sa_cons se_int (sa_cons se_int (sa_cons se_int (sa_cons se_int sa_nil))))) (sa_cons (se_lst (sa_cons se_int (sa_cons se_int (sa_cons se_int (sa_cons se_int (sa_cons se_int (sa_cons se_int sa_nil))))))) sa_nil)))))) sa_nil))) (sg_name (i := 1) sc_law_floors.nd rfl (.inl rfl) (by decide)))
    (ss_one (ss_ret (se_if (st_gt (se_call h_law_take hr rfl T.g_law_take T.F_law_take.kp T.B_law_take (sa_cons (se_var (pv 0)) (sa_cons se_int sa_nil))) se_int) (se_call h_law_few hr rfl T.g_law_few T.F_law_few.kp T.B_law_few (sa_cons (se_var (pv 0)) (sa_cons (se_var (pv 1)) (sa_cons se_int sa_nil)))) (se_tup (sa_cons (se_add se_int (se_call h_law_take hr rfl T.g_law_take T.F_law_take.kp T.B_law_take (sa_cons (se_var (pv 0)) (sa_cons se_int sa_nil)))) sa_nil))))))
theorem sc_law_deep : FnScope ["_law_tale_here", "_law_knot", "_law_own"] ["_law_tale_here", "_law_knot"] (defScope s_law_deep) := ⟨rfl, rfl, rfl, by decide +kernel, rfl, by decide +kernel, by decide +kernel⟩
theorem ok_law_deep (T : Tx K mg) : FnOk P w K mg base CX0 81 T.f_law_deep T.d_law_deep ["_law_tale_here", "_law_knot"] (spP K mg m_law_deep) := by
  have h_law_spans : FnOk P w K mg base CX0 80 T.f_law_spans T.d_law_spans ["_law_tale_here", "_law_first"] (spP K mg (m_law_spans 40)) := (ok_law_spans T 40).mono (by omega)
  refine fn_ok T.F_law_deep sc_law_deep (by decide) fun cdv A outer s H E hr => ?_
  have hu : (A.deeper (envOfC "_law_deep" (defScope s_law_deep) s.heap.objs.size T.f_law_deep cdv)).units + 65 < cLine := by have := hr.un; omega
  have hu1 : (A.deeper (envOfC "_law_deep" (defScope s_law_deep) s.heap.objs.size T.f_law_deep cdv)).units + 1 < cLine := by have := hr.un; omega
  exact (ss_one (ss_ret (se_sub (c_len T.z_len (se_compn (own := [("_law_own", 2)]) (n := 3) rfl rfl sc_law_deep.nd (si_keys (se_call h_law_spans hr rfl T.g_law_spans T.F_law_spans.kp T.B_law_spans (sa_cons (se_var (pv 0)) (sa_cons se_int sa_nil)))) (blkOk_by (by kernel_rfl)) (fun _ _ _ _ _ => (sg_name (i := 2) sc_law_deep.nd rfl (.inl rfl) (by decide))) (fun _ _ _ _ _ => (sts_one (st_w (sw_and (st_le (se_ix (se_var (pv 2)) se_int) (se_ix (se_var (pv 1)) se_int)) (sw_and1 (st_le (se_ix (se_var (pv 1)) se_int) (se_ix (se_var (pv 2)) se_int))))))) (fun _ _ _ _ _ => (se_var (pv 2))))) se_int)))
theorem sc_law_is_let : FnScope ["_law_tale_here", "_law_floors_so", "_law_piece", "_law_top_so", "_law_low_so", "_law_own"] ["_law_tale_here", "_law_floors_so", "_law_piece"] (defScope s_law_is_let) := ⟨rfl, rfl, rfl, by decide +kernel, rfl, by decide +kernel, by decide +kernel⟩
theorem ok_law_is_let (T : Tx K mg) : FnOk P w K mg base CX0 82 T.f_law_is_let T.d_law_is_let ["_law_tale_here", "_law_floors_so", "_law_piece"] (spP K mg m_law_is_let) := by
  have h_law_deep : FnOk P w K mg base CX0 81 T.f_law_deep T.d_law_deep ["_law_tale_here", "_law_knot"] (spP K mg m_law_deep) := (ok_law_deep T).mono (by omega)
  refine fn_ok T.F_law_is_let sc_law_is_let (by decide) fun cdv A outer s H E hr => ?_
  have hu : (A.deeper (envOfC "_law_is_let" (defScope s_law_is_let) s.heap.objs.size T.f_law_is_let cdv)).units + 65 < cLine := by have := hr.un; omega
  have hu1 : (A.deeper (envOfC "_law_is_let" (defScope s_law_is_let) s.heap.objs.size T.f_law_is_let cdv)).units + 1 < cLine := by have := hr.un; omega
  exact (ss_cons (ss_if (st_eq hu (se_ix (se_var (pv 2)) se_int) (se_tup sa_nil)) (ss_one (ss_ret se_bl)) ss_nil)
    (ss_cons (ss_parT (n := 2) rfl (sa_cons (se_callP h_law_deep hr rfl T.g_law_deep T.F_law_deep.kp T.B_law_deep (sa_cons (se_var (pv 0)) (sa_cons (se_ix (se_var (pv 2)) se_int) sa_nil))) (sa_cons (se_callP h_law_deep hr rfl T.g_law_deep T.F_law_deep.kp T.B_law_deep (sa_cons (se_var (pv 0)) (sa_cons (se_ix (se_var (pv 2)) se_int) sa_nil))) sa_nil)) (sgs_cons (sg_name (i := 3) sc_law_is_let.nd rfl (.inr rfl) (by decide)) (sgs_cons (sg_name (i := 4) sc_law_is_let.nd rfl (.inr rfl) (by decide)) sgs_nil)) (by decide) rfl)
    (ss_one (ss_ret (se_or (se_in hu (se_var (pv 3)) (se_var (pv 1))) (se_one (se_eq hu (se_compn (own := [("_law_own", 5)]) (n := 6) rfl rfl sc_law_is_let.nd (si_seq (se_var (pv 1))) (blkOk_by (by kernel_rfl)) (fun _ _ _ _ _ => (sg_name (i := 5) sc_law_is_let.nd rfl (.inl rfl) (by decide))) (fun _ _ _ _ _ => (sts_one (st_chain op_lt op_lt (cI _) (cI _) (se_var (pv 3)) (se_var (pv 5)) (se_var (pv 4))))) (fun _ _ _ _ _ => (se_var (pv 5)))) (se_lst sa_nil))))))))
theorem sc_law_right : FnScope ["_law_urn", "_law_turn", "_law_soft", "_law_piece", "_law_tale_here", "_law_floors_so", "_law_due", "_law_told"] ["_law_urn"] (defScope s_law_right) := ⟨rfl, rfl, rfl, by decide +kernel, rfl, by decide +kernel, by decide +kernel⟩
theorem ok_law_right (T : Tx K mg) : FnOk P w K mg base CX0 83 T.f_law_right T.d_law_right ["_law_urn"] (spP K mg m_law_right) := by
  have h_law_hand_right : FnOk P w K mg base CX0 82 T.f_law_hand_right T.d_law_hand_right [] (spP K mg m_law_hand_right) := (ok_law_hand_right T).mono (by omega)
  have h_law_lists : FnOk P w K mg base CX0 82 T.f_law_lists T.d_law_lists ["_law_matter"] (spP K mg (m_law_lists 40)) := (ok_law_lists T 40).mono (by omega)
  have h_law_pieces : FnOk P w K mg base CX0 82 T.f_law_pieces T.d_law_pieces ["_law_tale_here"] (spP K mg m_law_pieces) := (ok_law_pieces T).mono (by omega)
  have h_law_tale : FnOk P w K mg base CX0 82 T.f_law_tale T.d_law_tale ["_law_urn", "_law_top"] (spP K mg m_law_tale) := (ok_law_tale T).mono (by omega)
  have h_law_floors : FnOk P w K mg base CX0 82 T.f_law_floors T.d_law_floors ["_law_urn"] (spP K mg m_law_floors) := (ok_law_floors T).mono (by omega)
  have h_law_is_let : FnOk P w K mg base CX0 82 T.f_law_is_let T.d_law_is_let ["_law_tale_here", "_law_floors_so", "_law_piece"] (spP K mg m_law_is_let) := (ok_law_is_let T).mono (by omega)
  have h_is_allowed : FnOk P w K mg base CX0 82 T.f_is_allowed T.d_is_allowed ["tree", "layers", "part"] (spP K mg m_is_allowed) := (ok_is_allowed T).mono (by omega)
  have h_law_same : FnOk P w K mg base CX0 82 T.f_law_same T.d_law_same ["_law_got", "_law_goal"] (spP K mg (m_law_same 40)) := (ok_law_same T 40).mono (by omega)
  refine fn_ok T.F_law_right sc_law_right (by decide) fun cdv A outer s H E hr => ?_
  have hu : (A.deeper (envOfC "_law_right" (defScope s_law_right) s.heap.objs.size T.f_law_right cdv)).units + 65 < cLine := by have := hr.un; omega
  have hu1 : (A.deeper (envOfC "_law_right" (defScope s_law_right) s.heap.objs.size T.f_law_right cdv)).units + 1 < cLine := by have := hr.un; omega
  exact (ss_cons (ss_if (st_not (st_tr (se_call0 h_law_hand_right hr rfl T.g_law_hand_right T.F_law_hand_right.kp T.B_law_hand_right))) (ss_one (ss_ret se_bl)) ss_nil)
    (ss_cons (ss_for PassesOwn.never rfl (si_range1 rfl T.z_range se_int) (sg_name (i := 1) sc_law_right.nd rfl (.inl rfl) (by decide)) (ss_cons (ss_par2 (i := 4) (j := 5) rfl sc_law_right.nd rfl rfl (by decide) rfl rfl (by decide) (by decide) (sa_cons (se_call h_law_tale hr rfl T.g_law_tale T.F_law_tale.kp T.B_law_tale (sa_cons (se_var (pv 0)) (sa_cons se_int sa_nil))) (sa_cons (se_call h_law_floors hr rfl T.g_law_floors T.F_law_floors.kp T.B_law_floors (sa_cons (se_var (pv 0)) sa_nil)) sa_nil)) rfl)
    (ss_cons (ss_asg (se_callP h_law_lists hr rfl T.g_law_lists T.F_law_lists.kp T.B_law_lists (sa_cons (se_lst (sa_cons (se_var (pv 4)) (sa_cons (se_var (pv 5)) sa_nil))) sa_nil)) (sg_name (i := 2) sc_law_right.nd rfl (.inl rfl) (by decide)))
    (ss_cons (ss_for PassesOwn.never rfl (si_seq (se_callP h_law_pieces hr rfl T.g_law_pieces T.F_law_pieces.kp T.B_law_pieces (sa_cons (se_var (pv 4)) sa_nil))) (sg_name (i := 3) sc_law_right.nd rfl (.inl rfl) (by decide)) (ss_cons (ss_asg (se_callP h_law_is_let hr rfl T.g_law_is_let T.F_law_is_let.kp T.B_law_is_let (sa_cons (se_var (pv 4)) (sa_cons (se_var (pv 5)) (sa_cons (se_var (pv 3)) sa_nil)))) (sg_name (i := 6) sc_law_right.nd rfl (.inl rfl) (by decide)))
    (ss_cons (ss_asg (se_lst (sa_cons (se_callP h_is_allowed hr rfl T.g_is_allowed T.F_is_allowed.kp T.B_is_allowed (sa_cons (se_var (pv 4)) (sa_cons (se_var (pv 5)) (sa_cons (se_var (pv 3)) sa_nil)))) (sa_cons (se_callP h_is_allowed hr rfl T.g_is_allowed T.F_is_allowed.kp T.B_is_allowed (sa_cons (se_ix (se_var (pv 2)) se_int) (sa_cons (se_ix (se_var (pv 2)) se_int) (sa_cons (se_callP h_law_lists hr rfl T.g_law_lists T.F_law_lists.kp T.B_law_lists (sa_cons (se_var (pv 3)) sa_nil)) sa_nil)))) sa_nil))) (sg_name (i := 7) sc_law_right.nd rfl (.inl rfl) (by decide)))
    (ss_one (ss_if (st_not (st_tr (se_pure (se_callP h_law_same hr rfl T.g_law_same T.F_law_same.kp T.B_law_same (sa_cons (se_var (pv 7)) (sa_cons (se_lst (sa_cons (se_var (pv 6)) (sa_cons (se_var (pv 6)) sa_nil))) sa_nil)))))) (ss_one (ss_ret se_bl)) ss_nil)))))
    (ss_one (ss_if (st_ne hu (se_var (pv 2)) (se_callP h_law_lists hr rfl T.g_law_lists T.F_law_lists.kp T.B_law_lists (sa_cons (se_lst (sa_cons (se_var (pv 4)) (sa_cons (se_var (pv 5)) sa_nil))) sa_nil))) (ss_one (ss_ret se_bl)) ss_nil))))))
    (ss_one (ss_ret se_bl))))
theorem sc_law_box : FnScope ["_law_script", "_law_k", "_law_cell"] ["_law_script", "_law_k"] (defScope s_law_box) := ⟨rfl, rfl, rfl, by decide +kernel, rfl, by decide +kernel, by decide +kernel⟩
theorem ok_law_box (T : Tx K mg) : FnOk P w K mg base CX0 1 T.f_law_box T.d_law_box ["_law_script", "_law_k"] (spP K mg m_law_box) := by
  refine fn_ok T.F_law_box sc_law_box (by decide) fun cdv A outer s H E hr => ?_
  have hu : (A.deeper (envOfC "_law_box" (defScope s_law_box) s.heap.objs.size T.f_law_box cdv)).units + 65 < cLine := by have := hr.un; omega
  have hu1 : (A.deeper (envOfC "_law_box" (defScope s_law_box) s.heap.objs.size T.f_law_box cdv)).units + 1 < cLine := by have := hr.un; omega
  exact (ss_cons (ss_asg (se_if (st_lt (se_var (pv 1)) (c_len T.z_len (se_var (pv 0)))) (se_ix (se_var (pv 0)) (se_var (pv 1))) se_int) (sg_name (i := 2) sc_law_box.nd rfl (.inl rfl) (by decide)))
    (ss_one (ss_ret (se_lst (sa_cons (se_mul (c_abs T.z_abs (se_var (pv 2))) (c_int T.z_int (se_ge (c_abs T.z_abs (se_var (pv 2))) (se_pow se_int se_int)))) (sa_cons (se_add (se_add (se_mod (c_int T.z_int (se_var (pv 2))) se_int) (se_mul se_int (se_var (pv 1)))) se_int) (sa_cons se_int sa_nil)))))))
theorem sc_law : FnScope ["_law_script", "_law_cells_here", "_law_k"] ["_law_script"] (defScope s_law) := ⟨rfl, rfl, rfl, by decide +kernel, rfl, by decide +kernel, by decide +kernel⟩
theorem ok_law (T : Tx K mg) : FnOk P w K mg base CX0 84 T.f_law T.d_law ["_law_script"] (spP K mg m_law) := by
  have h_law_cells : FnOk P w K mg base CX0 83 T.f_law_cells T.d_law_cells ["_law_script", "_law_top"] (spP K mg m_law_cells) := (ok_law_cells T).mono (by omega)
  have h_law_right : FnOk P w K mg base CX0 83 T.f_law_right T.d_law_right ["_law_urn"] (spP K mg m_law_right) := (ok_law_right T).mono (by omega)
  have h_law_box : FnOk P w K mg base CX0 83 T.f_law_box T.d_law_box ["_law_script", "_law_k"] (spP K mg m_law_box) := (ok_law_box T).mono (by omega)
  refine fn_ok T.F_law sc_law (by decide) fun cdv A outer s H E hr => ?_
  have hu : (A.deeper (envOfC "law" (defScope s_law) s.heap.objs.size T.f_law cdv)).units + 65 < cLine := by have := hr.un; omega
  have hu1 : (A.deeper (envOfC "law" (defScope s_law) s.heap.objs.size T.f_law cdv)).units + 1 < cLine := by have := hr.un; omega
  exact (ss_cons (ss_asg (se_callP h_law_cells hr rfl T.g_law_cells T.F_law_cells.kp T.B_law_cells (sa_cons (se_var (pv 0)) (sa_cons se_int sa_nil))) (sg_name (i := 1) sc_law.nd rfl (.inl rfl) (by decide)))
    (ss_cons (ss_for PassesOwn.never rfl (si_range1 rfl T.z_range (c_len T.z_len (se_var (pv 1)))) (sg_name (i := 2) sc_law.nd rfl (.inl rfl) (by decide)) (ss_one (ss_if (st_not (st_tr (se_call h_law_right hr rfl T.g_law_right T.F_law_right.kp T.B_law_right (sa_cons (se_callP h_law_box hr rfl T.g_law_box T.F_law_box.kp T.B_law_box (sa_cons (se_var (pv 1)) (sa_cons (se_var (pv 2)) sa_nil))) sa_nil)))) (ss_one (ss_ret se_bl)) ss_nil)))
    (ss_one (ss_ret se_bl))))
end
theorem clsF_mk {K : PySem.W.Frag} {mg : Str → Option Value} {c f : Str} {k : Nat} {C p : Addr} (h : mg c = some (.ref C)) (s : SlX.SCls K C) (t : SlX.Slot1 K C f p k) : ClsF K mg c f k := ⟨fun C2 e => by cases h.symm.trans e; exact ⟨s, p, t⟩⟩
theorem all_mk {l : PySem.W.OpenLaw} {w : World} {K : PySem.W.Frag} {h : Heap} {mg : Str → Option Value} {fa C_Tree f_law_cells f_law_same f_Tree_nodes f_Tree_grown f_tupled f_Tree_init f_nodes_in f_depth_of f_is_allowed f_law_lists f_law_hand_right f_law_leaves f_law_spans f_law_under f_law_pieces f_law_take f_law_shape f_law_words f_law_tale f_law_of f_law_few f_law_floors f_law_deep f_law_is_let f_law_right f_law_box f_law p_Tree_own_boxes p_Tree_own_head p_Tree_own_sides : Addr} (X : K.In h) (G : h.Ns mainGlobals mg) (hfa : mg "law" = some (.ref fa))
    {od_law_cells an_law_cells od_law_same an_law_same od_Tree_nodes an_Tree_nodes od_Tree_grown an_Tree_grown od_tupled an_tupled od_Tree_init an_Tree_init od_nodes_in an_nodes_in od_depth_of an_depth_of od_is_allowed an_is_allowed od_law_lists an_law_lists od_law_hand_right an_law_hand_right od_law_leaves an_law_leaves od_law_spans an_law_spans od_law_under an_law_under od_law_pieces an_law_pieces od_law_take an_law_take od_law_shape an_law_shape od_law_words an_law_words od_law_tale an_law_tale od_law_of an_law_of od_law_few an_law_few od_law_floors an_law_floors od_law_deep an_law_deep od_law_is_let an_law_is_let od_law_right an_law_right od_law_box an_law_box od_law an_law : Option Addr} {sl_law_cells sl_law_same sl_Tree_nodes sl_Tree_grown sl_tupled sl_Tree_init sl_nodes_in sl_depth_of sl_is_allowed sl_law_lists sl_law_hand_right sl_law_leaves sl_law_spans sl_law_under sl_law_pieces sl_law_take sl_law_shape sl_law_words sl_law_tale sl_law_of sl_law_few sl_law_floors sl_law_deep sl_law_is_let sl_law_right sl_law_box sl_law : Array (Option Value)} {oc_law_cells kV_law_cells dc_law_cells pm_law_cells cd_law_cells ct_law_cells oc_law_same kV_law_same dc_law_same pm_law_same cd_law_same ct_law_same oc_Tree_nodes kV_Tree_nodes dc_Tree_nodes pm_Tree_nodes cd_Tree_nodes ct_Tree_nodes oc_Tree_grown kV_Tree_grown dc_Tree_grown pm_Tree_grown cd_Tree_grown ct_Tree_grown oc_tupled kV_tupled dc_tupled pm_tupled cd_tupled ct_tupled oc_Tree_init kV_Tree_init dc_Tree_init pm_Tree_init cd_Tree_init ct_Tree_init oc_nodes_in kV_nodes_in dc_nodes_in pm_nodes_in cd_nodes_in ct_nodes_in oc_depth_of kV_depth_of dc_depth_of pm_depth_of cd_depth_of ct_depth_of oc_is_allowed kV_is_allowed dc_is_allowed pm_is_allowed cd_is_allowed ct_is_allowed oc_law_lists kV_law_lists dc_law_lists pm_law_lists cd_law_lists ct_law_lists oc_law_hand_right kV_law_hand_right dc_law_hand_right pm_law_hand_right cd_law_hand_right ct_law_hand_right oc_law_leaves kV_law_leaves dc_law_leaves pm_law_leaves cd_law_leaves ct_law_leaves oc_law_spans kV_law_spans dc_law_spans pm_law_spans cd_law_spans ct_law_spans oc_law_under kV_law_under dc_law_under pm_law_under cd_law_under ct_law_under oc_law_pieces kV_law_pieces dc_law_pieces pm_law_pieces cd_law_pieces ct_law_pieces oc_law_take kV_law_take dc_law_take pm_law_take cd_law_take ct_law_take oc_law_shape kV_law_shape dc_law_shape pm_law_shape cd_law_shape ct_law_shape oc_law_words kV_law_words dc_law_words pm_law_words cd_law_words ct_law_words oc_law_tale kV_law_tale dc_law_tale pm_law_tale cd_law_tale ct_law_tale oc_law_of kV_law_of dc_law_of pm_law_of cd_law_of ct_law_of oc_law_few kV_law_few dc_law_few pm_law_few cd_law_few ct_law_few oc_law_floors kV_law_floors dc_law_floors pm_law_floors cd_law_floors ct_law_floors oc_law_deep kV_law_deep dc_law_deep pm_law_deep cd_law_deep ct_law_deep oc_law_is_let kV_law_is_let dc_law_is_let pm_law_is_let cd_law_is_let ct_law_is_let oc_law_right kV_law_right dc_law_right pm_law_right cd_law_right ct_law_right oc_law_box kV_law_box dc_law_box pm_law_box cd_law_box ct_law_box oc_law kV_law dc_law pm_law cd_law ct_law : Value}
    (aC_Tree : PySem.W.nsIn K mainGlobals "Tree" = some (some (.ref C_Tree)))
    (pg_Tree : PySem.W.plainGet K C_Tree Str.empty = true)
    (ic_Tree : PySem.W.isClsIn K C_Tree = true)
    (po_Tree : PySem.W.plainOver K C_Tree = true)
    (sa_Tree : PySem.W.findIn K (.ref C_Tree) "__setattr__" = some (some (.builtin "object.__setattr__")))
    (mk_Tree : PySem.W.makesIn K C_Tree = true)
    (kc_Tree : PySem.W.keepIn K (.ref C_Tree) = true)
    (a_law_cells : PySem.W.nsIn K mainGlobals "_law_cells" = some (some (.ref f_law_cells)))
    (l_law_cells : K.lookup f_law_cells = some ⟨oc_law_cells, od_law_cells, .func (PySem.W.fnOf "_law_cells" "_law_cells" (defArgs s_law_cells) (defBody s_law_cells) (defScope s_law_cells) .none kV_law_cells dc_law_cells pm_law_cells an_law_cells cd_law_cells ct_law_cells), sl_law_cells⟩)
    (c_law_cells : PySem.W.codeIn K cd_law_cells "_law_cells" = true)
    (k_law_cells : PySem.W.keepIn K (.ref f_law_cells) = true)
    (a_law_same : PySem.W.nsIn K mainGlobals "_law_same" = some (some (.ref f_law_same)))
    (l_law_same : K.lookup f_law_same = some ⟨oc_law_same, od_law_same, .func (PySem.W.fnOf "_law_same" "_law_same" (defArgs s_law_same) (defBody s_law_same) (defScope s_law_same) .none kV_law_same dc_law_same pm_law_same an_law_same cd_law_same ct_law_same), sl_law_same⟩)
    (c_law_same : PySem.W.codeIn K cd_law_same "_law_same" = true)
    (k_law_same : PySem.W.keepIn K (.ref f_law_same) = true)
    (a_Tree_nodes : PySem.W.findIn K (.ref C_Tree) "nodes" = some (some (.ref f_Tree_nodes)))
    (i_Tree_nodes : PySem.W.isFn K (.ref f_Tree_nodes) = true)
    (l_Tree_nodes : K.lookup f_Tree_nodes = some ⟨oc_Tree_nodes, od_Tree_nodes, .func (PySem.W.fnOf "nodes" "Tree.nodes" (defArgs s_Tree_nodes) (defBody s_Tree_nodes) (defScope s_Tree_nodes) .none kV_Tree_nodes dc_Tree_nodes pm_Tree_nodes an_Tree_nodes cd_Tree_nodes ct_Tree_nodes), sl_Tree_nodes⟩)
    (c_Tree_nodes : PySem.W.codeIn K cd_Tree_nodes "Tree.nodes" = true)
    (k_Tree_nodes : PySem.W.keepIn K (.ref f_Tree_nodes) = true)
    (a_Tree_grown : PySem.W.findIn K (.ref C_Tree) "grown" = some (some (.ref f_Tree_grown)))
    (i_Tree_grown : PySem.W.isFn K (.ref f_Tree_grown) = true)
    (l_Tree_grown : K.lookup f_Tree_grown = some ⟨oc_Tree_grown, od_Tree_grown, .func (PySem.W.fnOf "grown" "Tree.grown" (defArgs s_Tree_grown) (defBody s_Tree_grown) (defScope s_Tree_grown) .none kV_Tree_grown dc_Tree_grown pm_Tree_grown an_Tree_grown cd_Tree_grown ct_Tree_grown), sl_Tree_grown⟩)
    (c_Tree_grown : PySem.W.codeIn K cd_Tree_grown "Tree.grown" = true)
    (k_Tree_grown : PySem.W.keepIn K (.ref f_Tree_grown) = true)
    (a_tupled : PySem.W.nsIn K mainGlobals "tupled" = some (some (.ref f_tupled)))
    (l_tupled : K.lookup f_tupled = some ⟨oc_tupled, od_tupled, .func (PySem.W.fnOf "tupled" "tupled" (defArgs s_tupled) (defBody s_tupled) (defScope s_tupled) .none kV_tupled dc_tupled pm_tupled an_tupled cd_tupled ct_tupled), sl_tupled⟩)
    (c_tupled : PySem.W.codeIn K cd_tupled "tupled" = true)
    (k_tupled : PySem.W.keepIn K (.ref f_tupled) = true)
    (a_Tree_init : PySem.W.findIn K (.ref C_Tree) "__init__" = some (some (.ref f_Tree_init)))
    (i_Tree_init : PySem.W.isFn K (.ref f_Tree_init) = true)
    (l_Tree_init : K.lookup f_Tree_init = some ⟨oc_Tree_init, od_Tree_init, .func (PySem.W.fnOf "__init__" "Tree.__init__" (defArgs s_Tree_init) (defBody s_Tree_init) (defScope s_Tree_init) .none kV_Tree_init dc_Tree_init pm_Tree_init an_Tree_init cd_Tree_init ct_Tree_init), sl_Tree_init⟩)
    (c_Tree_init : PySem.W.codeIn K cd_Tree_init "Tree.__init__" = true)
    (k_Tree_init : PySem.W.keepIn K (.ref f_Tree_init) = true)
    (a_nodes_in : PySem.W.nsIn K mainGlobals "nodes_in" = some (some (.ref f_nodes_in)))
    (l_nodes_in : K.lookup f_nodes_in = some ⟨oc_nodes_in, od_nodes_in, .func (PySem.W.fnOf "nodes_in" "nodes_in" (defArgs s_nodes_in) (defBody s_nodes_in) (defScope s_nodes_in) .none kV_nodes_in dc_nodes_in pm_nodes_in an_nodes_in cd_nodes_in ct_nodes_in), sl_nodes_in⟩)
    (c_nodes_in : PySem.W.codeIn K cd_nodes_in "nodes_in" = true)
    (k_nodes_in : PySem.W.keepIn K (.ref f_nodes_in) = true)
    (a_depth_of : PySem.W.nsIn K mainGlobals "depth_of" = some (some (.ref f_depth_of)))
    (l_depth_of : K.lookup f_depth_of = some ⟨oc_depth_of, od_depth_of, .func (PySem.W.fnOf "depth_of" "depth_of" (defArgs s_depth_of) (defBody s_depth_of) (defScope s_depth_of) .none kV_depth_of dc_depth_of pm_depth_of an_depth_of cd_depth_of ct_depth_of), sl_depth_of⟩)
    (c_depth_of : PySem.W.codeIn K cd_depth_of "depth_of" = true)
    (k_depth_of : PySem.W.keepIn K (.ref f_depth_of) = true)
    (a_is_allowed : PySem.W.nsIn K mainGlobals "is_allowed" = some (some (.ref f_is_allowed)))
    (l_is_allowed : K.lookup f_is_allowed = some ⟨oc_is_allowed, od_is_allowed, .func (PySem.W.fnOf "is_allowed" "is_allowed" (defArgs s_is_allowed) (defBody s_is_allowed) (defScope s_is_allowed) .none kV_is_allowed dc_is_allowed pm_is_allowed an_is_allowed cd_is_allowed ct_is_allowed), sl_is_allowed⟩)
    (c_is_allowed : PySem.W.codeIn K cd_is_allowed "is_allowed" = true)
    (k_is_allowed : PySem.W.keepIn K (.ref f_is_allowed) = true)
    (a_law_lists : PySem.W.nsIn K mainGlobals "_law_lists" = some (some (.ref f_law_lists)))
    (l_law_lists : K.lookup f_law_lists = some ⟨oc_law_lists, od_law_lists, .func (PySem.W.fnOf "_law_lists" "_law_lists" (defArgs s_law_lists) (defBody s_law_lists) (defScope s_law_lists) .none kV_law_lists dc_law_lists pm_law_lists an_law_lists cd_law_lists ct_law_lists), sl_law_lists⟩)
    (c_law_lists : PySem.W.codeIn K cd_law_lists "_law_lists" = true)
    (k_law_lists : PySem.W.keepIn K (.ref f_law_lists) = true)
    (a_law_hand_right : PySem.W.nsIn K mainGlobals "_law_hand_right" = some (some (.ref f_law_hand_right)))
    (l_law_hand_right : K.lookup f_law_hand_right = some ⟨oc_law_hand_right, od_law_hand_right, .func (PySem.W.fnOf "_law_hand_right" "_law_hand_right" (defArgs s_law_hand_right) (defBody s_law_hand_right) (defScope s_law_hand_right) .none kV_law_hand_right dc_law_hand_right pm_law_hand_right an_law_hand_right cd_law_hand_right ct_law_hand_right), sl_law_hand_right⟩)
    (c_law_hand_right : PySem.W.codeIn K cd_law_hand_right "_law_hand_right" = true)
    (k_law_hand_right : PySem.W.keepIn K (.ref f_law_hand_right) = true)
    (a_law_leaves : PySem.W.nsIn K mainGlobals "_law_leaves" = some (some (.ref f_law_leaves)))
    (l_law_leaves : K.lookup f_law_leaves = some ⟨oc_law_leaves, od_law_leaves, .func (PySem.W.fnOf "_law_leaves" "_law_leaves" (defArgs s_law_leaves) (defBody s_law_leaves) (defScope s_law_leaves) .none kV_law_leaves dc_law_leaves pm_law_leaves an_law_leaves cd_law_leaves ct_law_leaves), sl_law_leaves⟩)
    (c_law_leaves : PySem.W.codeIn K cd_law_leaves "_law_leaves" = true)
    (k_law_leaves : PySem.W.keepIn K (.ref f_law_leaves) = true)
    (a_law_spans : PySem.W.nsIn K mainGlobals "_law_spans" = some (some (.ref f_law_spans)))
    (l_law_spans : K.lookup f_law_spans = some ⟨oc_law_spans, od_law_spans, .func (PySem.W.fnOf "_law_spans" "_law_spans" (defArgs s_law_spans) (defBody s_law_spans) (defScope s_law_spans) .none kV_law_spans dc_law_spans pm_law_spans an_law_spans cd_law_spans ct_law_spans), sl_law_spans⟩)
    (c_law_spans : PySem.W.codeIn K cd_law_spans "_law_spans" = true)
    (k_law_spans : PySem.W.keepIn K (.ref f_law_spans) = true)
    (a_law_under : PySem.W.nsIn K mainGlobals "_law_under" = some (some (.ref f_law_under)))
    (l_law_under : K.lookup f_law_under = some ⟨oc_law_under, od_law_under, .func (PySem.W.fnOf "_law_under" "_law_under" (defArgs s_law_under) (defBody s_law_under) (defScope s_law_under) .none kV_law_under dc_law_under pm_law_under an_law_under cd_law_under ct_law_under), sl_law_under⟩)
    (c_law_under : PySem.W.codeIn K cd_law_under "_law_under" = true)
    (k_law_under : PySem.W.keepIn K (.ref f_law_under) = true)
    (a_law_pieces : PySem.W.nsIn K mainGlobals "_law_pieces" = some (some (.ref f_law_pieces)))
    (l_law_pieces : K.lookup f_law_pieces = some ⟨oc_law_pieces, od_law_pieces, .func (PySem.W.fnOf "_law_pieces" "_law_pieces" (defArgs s_law_pieces) (defBody s_law_pieces) (defScope s_law_pieces) .none kV_law_pieces dc_law_pieces pm_law_pieces an_law_pieces cd_law_pieces ct_law_pieces), sl_law_pieces⟩)
    (c_law_pieces : PySem.W.codeIn K cd_law_pieces "_law_pieces" = true)
    (k_law_pieces : PySem.W.keepIn K (.ref f_law_pieces) = true)
    (a_law_take : PySem.W.nsIn K mainGlobals "_law_take" = some (some (.ref f_law_take)))
    (l_law_take : K.lookup f_law_take = some ⟨oc_law_take, od_law_take, .func (PySem.W.fnOf "_law_take" "_law_take" (defArgs s_law_take) (defBody s_law_take) (defScope s_law_take) .none kV_law_take dc_law_take pm_law_take an_law_take cd_law_take ct_law_take), sl_law_take⟩)
    (c_law_take : PySem.W.codeIn K cd_law_take "_law_take" = true)
    (k_law_take : PySem.W.keepIn K (.ref f_law_take) = true)
    (a_law_shape : PySem.W.nsIn K mainGlobals "_law_shape" = some (some (.ref f_law_shape)))
    (l_law_shape : K.lookup f_law_shape = some ⟨oc_law_shape, od_law_shape, .func (PySem.W.fnOf "_law_shape" "_law_shape" (defArgs s_law_shape) (defBody s_law_shape) (defScope s_law_shape) .none kV_law_shape dc_law_shape pm_law_shape an_law_shape cd_law_shape ct_law_shape), sl_law_shape⟩)
    (c_law_shape : PySem.W.codeIn K cd_law_shape "_law_shape" = true)
    (k_law_shape : PySem.W.keepIn K (.ref f_law_shape) = true)
    (a_law_words : PySem.W.nsIn K mainGlobals "_law_words" = some (some (.ref f_law_words)))
    (l_law_words : K.lookup f_law_words = some ⟨oc_law_words, od_law_words, .func (PySem.W.fnOf "_law_words" "_law_words" (defArgs s_law_words) (defBody s_law_words) (defScope s_law_words) .none kV_law_words dc_law_words pm_law_words an_law_words cd_law_words ct_law_words), sl_law_words⟩)
    (c_law_words : PySem.W.codeIn K cd_law_words "_law_words" = true)
    (k_law_words : PySem.W.keepIn K (.ref f_law_words) = true)
    (a_law_tale : PySem.W.nsIn K mainGlobals "_law_tale" = some (some (.ref f_law_tale)))
    (l_law_tale : K.lookup f_law_tale = some ⟨oc_law_tale, od_law_tale, .func (PySem.W.fnOf "_law_tale" "_law_tale" (defArgs s_law_tale) (defBody s_law_tale) (defScope s_law_tale) .none kV_law_tale dc_law_tale pm_law_tale an_law_tale cd_law_tale ct_law_tale), sl_law_tale⟩)
    (c_law_tale : PySem.W.codeIn K cd_law_tale "_law_tale" = true)
    (k_law_tale : PySem.W.keepIn K (.ref f_law_tale) = true)
    (a_law_of : PySem.W.nsIn K mainGlobals "_law_of" = some (some (.ref f_law_of)))
    (l_law_of : K.lookup f_law_of = some ⟨oc_law_of, od_law_of, .func (PySem.W.fnOf "_law_of" "_law_of" (defArgs s_law_of) (defBody s_law_of) (defScope s_law_of) .none kV_law_of dc_law_of pm_law_of an_law_of cd_law_of ct_law_of), sl_law_of⟩)
    (c_law_of : PySem.W.codeIn K cd_law_of "_law_of" = true)
    (k_law_of : PySem.W.keepIn K (.ref f_law_of) = true)
    (a_law_few : PySem.W.nsIn K mainGlobals "_law_few" = some (some (.ref f_law_few)))
    (l_law_few : K.lookup f_law_few = some ⟨oc_law_few, od_law_few, .func (PySem.W.fnOf "_law_few" "_law_few" (defArgs s_law_few) (defBody s_law_few) (defScope s_law_few) .none kV_law_few dc_law_few pm_law_few an_law_few cd_law_few ct_law_few), sl_law_few⟩)
    (c_law_few : PySem.W.codeIn K cd_law_few "_law_few" = true)
    (k_law_few : PySem.W.keepIn K (.ref f_law_few) = true)
    (a_law_floors : PySem.W.nsIn K mainGlobals "_law_floors" = some (some (.ref f_law_floors)))
    (l_law_floors : K.lookup f_law_floors = some ⟨oc_law_floors, od_law_floors, .func (PySem.W.fnOf "_law_floors" "_law_floors" (defArgs s_law_floors) (defBody s_law_floors) (defScope s_law_floors) .none kV_law_floors dc_law_floors pm_law_floors an_law_floors cd_law_floors ct_law_floors), sl_law_floors⟩)
    (c_law_floors : PySem.W.codeIn K cd_law_floors "_law_floors" = true)
    (k_law_floors : PySem.W.keepIn K (.ref f_law_floors) = true)
    (a_law_deep : PySem.W.nsIn K mainGlobals "_law_deep" = some (some (.ref f_law_deep)))
    (l_law_deep : K.lookup f_law_deep = some ⟨oc_law_deep, od_law_deep, .func (PySem.W.fnOf "_law_deep" "_law_deep" (defArgs s_law_deep) (defBody s_law_deep) (defScope s_law_deep) .none kV_law_deep dc_law_deep pm_law_deep an_law_deep cd_law_deep ct_law_deep), sl_law_deep⟩)
    (c_law_deep : PySem.W.codeIn K cd_law_deep "_law_deep" = true)
    (k_law_deep : PySem.W.keepIn K (.ref f_law_deep) = true)
    (a_law_is_let : PySem.W.nsIn K mainGlobals "_law_is_let" = some (some (.ref f_law_is_let)))
    (l_law_is_let : K.lookup f_law_is_let = some ⟨oc_law_is_let, od_law_is_let, .func (PySem.W.fnOf "_law_is_let" "_law_is_let" (defArgs s_law_is_let) (defBody s_law_is_let) (defScope s_law_is_let) .none kV_law_is_let dc_law_is_let pm_law_is_let an_law_is_let cd_law_is_let ct_law_is_let), sl_law_is_let⟩)
    (c_law_is_let : PySem.W.codeIn K cd_law_is_let "_law_is_let" = true)
    (k_law_is_let : PySem.W.keepIn K (.ref f_law_is_let) = true)
    (a_law_right : PySem.W.nsIn K mainGlobals "_law_right" = some (some (.ref f_law_right)))
    (l_law_right : K.lookup f_law_right = some ⟨oc_law_right, od_law_right, .func (PySem.W.fnOf "_law_right" "_law_right" (defArgs s_law_right) (defBody s_law_right) (defScope s_law_right) .none kV_law_right dc_law_right pm_law_right an_law_right cd_law_right ct_law_right), sl_law_right⟩)
    (c_law_right : PySem.W.codeIn K cd_law_right "_law_right" = true)
    (k_law_right : PySem.W.keepIn K (.ref f_law_right) = true)
    (a_law_box : PySem.W.nsIn K mainGlobals "_law_box" = some (some (.ref f_law_box)))
    (l_law_box : K.lookup f_law_box = some ⟨oc_law_box, od_law_box, .func (PySem.W.fnOf "_law_box" "_law_box" (defArgs s_law_box) (defBody s_law_box) (defScope s_law_box) .none kV_law_box dc_law_box pm_law_box an_law_box cd_law_box ct_law_box), sl_law_box⟩)
    (c_law_box : PySem.W.codeIn K cd_law_box "_law_box" = true)
    (k_law_box : PySem.W.keepIn K (.ref f_law_box) = true)
    (a_law : PySem.W.nsIn K mainGlobals "law" = some (some (.ref f_law)))
    (l_law : K.lookup f_law = some ⟨oc_law, od_law, .func (PySem.W.fnOf "law" "law" (defArgs s_law) (defBody s_law) (defScope s_law) .none kV_law dc_law pm_law an_law cd_law ct_law), sl_law⟩)
    (c_law : PySem.W.codeIn K cd_law "law" = true)
    (k_law : PySem.W.keepIn K (.ref f_law) = true)
    (z_abs : PySem.W.nsIn K mainGlobals "abs" = some none)
    (z_all : PySem.W.nsIn K mainGlobals "all" = some none)
    (z_any : PySem.W.nsIn K mainGlobals "any" = some none)
    (z_bool : PySem.W.nsIn K mainGlobals "bool" = some none)
    (z_dict : PySem.W.nsIn K mainGlobals "dict" = some none)
    (z_enumerate : PySem.W.nsIn K mainGlobals "enumerate" = some none)
    (z_int : PySem.W.nsIn K mainGlobals "int" = some none)
    (z_isinstance : PySem.W.nsIn K mainGlobals "isinstance" = some none)
    (z_len : PySem.W.nsIn K mainGlobals "len" = some none)
    (z_list : PySem.W.nsIn K mainGlobals "list" = some none)
    (z_range : PySem.W.nsIn K mainGlobals "range" = some none)
    (z_sorted : PySem.W.nsIn K mainGlobals "sorted" = some none)
    (z_str : PySem.W.nsIn K mainGlobals "str" = some none)
    (z_tuple : PySem.W.nsIn K mainGlobals "tuple" = some none)
    (z_zip : PySem.W.nsIn K mainGlobals "zip" = some none)
    (sa1_Tree_own_boxes : PySem.W.findIn K (.ref C_Tree) "own_boxes" = some (some (.ref p_Tree_own_boxes)))
    (sa2_Tree_own_boxes : PySem.W.specialIn K (.ref p_Tree_own_boxes) "__get__" = some (some (.builtin "member_descriptor.__get__")))
    (sa3_Tree_own_boxes : PySem.W.takesIn K (.ref p_Tree_own_boxes) = some true)
    (sa4_Tree_own_boxes : PySem.W.typeIn K (.ref p_Tree_own_boxes) = some (.type "member_descriptor"))
    (sa5_Tree_own_boxes : PySem.W.slotIn K p_Tree_own_boxes C_Tree = some 0)
    (sa1_Tree_own_head : PySem.W.findIn K (.ref C_Tree) "own_head" = some (some (.ref p_Tree_own_head)))
    (sa2_Tree_own_head : PySem.W.specialIn K (.ref p_Tree_own_head) "__get__" = some (some (.builtin "member_descriptor.__get__")))
    (sa3_Tree_own_head : PySem.W.takesIn K (.ref p_Tree_own_head) = some true)
    (sa4_Tree_own_head : PySem.W.typeIn K (.ref p_Tree_own_head) = some (.type "member_descriptor"))
    (sa5_Tree_own_head : PySem.W.slotIn K p_Tree_own_head C_Tree = some 1)
    (sa1_Tree_own_sides : PySem.W.findIn K (.ref C_Tree) "own_sides" = some (some (.ref p_Tree_own_sides)))
    (sa2_Tree_own_sides : PySem.W.specialIn K (.ref p_Tree_own_sides) "__get__" = some (some (.builtin "member_descriptor.__get__")))
    (sa3_Tree_own_sides : PySem.W.takesIn K (.ref p_Tree_own_sides) = some true)
    (sa4_Tree_own_sides : PySem.W.typeIn K (.ref p_Tree_own_sides) = some (.type "member_descriptor"))
    (sa5_Tree_own_sides : PySem.W.slotIn K p_Tree_own_sides C_Tree = some 2)
    (hlaw : ∀ ns : List Int, ns.length ≤ 63 → ∃ ws, m_law [.sh (.frl (ns.map D.int))] = some (.sh (.bl true), ws)) :
    ∃ fd : FuncData, (∀ (s : Shared) (v : Value), BindsTo s fd ⟨[v], []⟩ [("_law_script", v)]) ∧ ∀ base : Heap, K.In base → base.Ns mainGlobals mg → FnOk l.prog w K mg base CX0 84 fa fd ["_law_script"] (spLaw K) := by
  have e := hfa.symm.trans (PySem.W.mg_of X G a_law)
  cases e
  have c_Tree := PySem.W.mg_of X G aC_Tree
  have F_law_cells := fun_mk (st := s_law_cells) l_law_cells c_law_cells k_law_cells
  have B_law_cells := F_law_cells.binds (ps := ["_law_script", "_law_top"]) fun _ _ _ _ _ _ us hl => match us, hl with | [_, _], _ => rfl
  have F_law_same := fun_mk (st := s_law_same) l_law_same c_law_same k_law_same
  have B_law_same := F_law_same.binds (ps := ["_law_got", "_law_goal"]) fun _ _ _ _ _ _ us hl => match us, hl with | [_, _], _ => rfl
  have F_Tree_nodes := fun_mk (st := s_Tree_nodes) l_Tree_nodes c_Tree_nodes k_Tree_nodes
  have B_Tree_nodes := F_Tree_nodes.binds (ps := ["self"]) fun _ _ _ _ _ _ us hl => match us, hl with | [_], _ => rfl
  have F_Tree_grown := fun_mk (st := s_Tree_grown) l_Tree_grown c_Tree_grown k_Tree_grown
  have B_Tree_grown := F_Tree_grown.binds (ps := ["self", "tree"]) fun _ _ _ _ _ _ us hl => match us, hl with | [_, _], _ => rfl
  have F_tupled := fun_mk (st := s_tupled) l_tupled c_tupled k_tupled
  have B_tupled := F_tupled.binds (ps := ["thing"]) fun _ _ _ _ _ _ us hl => match us, hl with | [_], _ => rfl
  have F_Tree_init := fun_mk (st := s_Tree_init) l_Tree_init c_Tree_init k_Tree_init
  have B_Tree_init := F_Tree_init.binds (ps := ["self", "tree"]) fun _ _ _ _ _ _ us hl => match us, hl with | [_, _], _ => rfl
  have F_nodes_in := fun_mk (st := s_nodes_in) l_nodes_in c_nodes_in k_nodes_in
  have B_nodes_in := F_nodes_in.binds (ps := ["tree"]) fun _ _ _ _ _ _ us hl => match us, hl with | [_], _ => rfl
  have F_depth_of := fun_mk (st := s_depth_of) l_depth_of c_depth_of k_depth_of
  have B_depth_of := F_depth_of.binds (ps := ["tree", "node"]) fun _ _ _ _ _ _ us hl => match us, hl with | [_, _], _ => rfl
  have F_is_allowed := fun_mk (st := s_is_allowed) l_is_allowed c_is_allowed k_is_allowed
  have B_is_allowed := F_is_allowed.binds (ps := ["tree", "layers", "part"]) fun _ _ _ _ _ _ us hl => match us, hl with | [_, _, _], _ => rfl
  have F_law_lists := fun_mk (st := s_law_lists) l_law_lists c_law_lists k_law_lists
  have B_law_lists := F_law_lists.binds (ps := ["_law_matter"]) fun _ _ _ _ _ _ us hl => match us, hl with | [_], _ => rfl
  have F_law_hand_right := fun_mk (st := s_law_hand_right) l_law_hand_right c_law_hand_right k_law_hand_right
  have B_law_hand_right := F_law_hand_right.binds (ps := []) fun _ _ _ _ _ _ us hl => match us, hl with | [], _ => rfl
  have F_law_leaves := fun_mk (st := s_law_leaves) l_law_leaves c_law_leaves k_law_leaves
  have B_law_leaves := F_law_leaves.binds (ps := ["_law_tale_here"]) fun _ _ _ _ _ _ us hl => match us, hl with | [_], _ => rfl
  have F_law_spans := fun_mk (st := s_law_spans) l_law_spans c_law_spans k_law_spans
  have B_law_spans := F_law_spans.binds (ps := ["_law_tale_here", "_law_first"]) fun _ _ _ _ _ _ us hl => match us, hl with | [_, _], _ => rfl
  have F_law_under := fun_mk (st := s_law_under) l_law_under c_law_under k_law_under
  have B_law_under := F_law_under.binds (ps := ["_law_spans_here", "_law_knot"]) fun _ _ _ _ _ _ us hl => match us, hl with | [_, _], _ => rfl
  have F_law_pieces := fun_mk (st := s_law_pieces) l_law_pieces c_law_pieces k_law_pieces
  have B_law_pieces := F_law_pieces.binds (ps := ["_law_tale_here"]) fun _ _ _ _ _ _ us hl => match us, hl with | [_], _ => rfl
  have F_law_take := fun_mk (st := s_law_take) l_law_take c_law_take k_law_take
  have B_law_take := F_law_take.binds (ps := ["_law_urn", "_law_low_so"]) fun _ _ _ _ _ _ us hl => match us, hl with | [_, _], _ => rfl
  have F_law_shape := fun_mk (st := s_law_shape) l_law_shape c_law_shape k_law_shape
  have B_law_shape := F_law_shape.binds (ps := ["_law_urn", "_law_row"]) fun _ _ _ _ _ _ us hl => match us, hl with | [_, _], _ => rfl
  have F_law_words := fun_mk (st := s_law_words) l_law_words c_law_words k_law_words
  have B_law_words := F_law_words.binds (ps := ["_law_urn", "_law_many_so"]) fun _ _ _ _ _ _ us hl => match us, hl with | [_, _], _ => rfl
  have F_law_tale := fun_mk (st := s_law_tale) l_law_tale c_law_tale k_law_tale
  have B_law_tale := F_law_tale.binds (ps := ["_law_urn", "_law_top"]) fun _ _ _ _ _ _ us hl => match us, hl with | [_, _], _ => rfl
  have F_law_of := fun_mk (st := s_law_of) l_law_of c_law_of k_law_of
  have B_law_of := F_law_of.binds (ps := ["_law_urn", "_law_some"]) fun _ _ _ _ _ _ us hl => match us, hl with | [_, _], _ => rfl
  have F_law_few := fun_mk (st := s_law_few) l_law_few c_law_few k_law_few
  have B_law_few := F_law_few.binds (ps := ["_law_urn", "_law_pool", "_law_one_of"]) fun _ _ _ _ _ _ us hl => match us, hl with | [_, _, _], _ => rfl
  have F_law_floors := fun_mk (st := s_law_floors) l_law_floors c_law_floors k_law_floors
  have B_law_floors := F_law_floors.binds (ps := ["_law_urn"]) fun _ _ _ _ _ _ us hl => match us, hl with | [_], _ => rfl
  have F_law_deep := fun_mk (st := s_law_deep) l_law_deep c_law_deep k_law_deep
  have B_law_deep := F_law_deep.binds (ps := ["_law_tale_here", "_law_knot"]) fun _ _ _ _ _ _ us hl => match us, hl with | [_, _], _ => rfl
  have F_law_is_let := fun_mk (st := s_law_is_let) l_law_is_let c_law_is_let k_law_is_let
  have B_law_is_let := F_law_is_let.binds (ps := ["_law_tale_here", "_law_floors_so", "_law_piece"]) fun _ _ _ _ _ _ us hl => match us, hl with | [_, _, _], _ => rfl
  have F_law_right := fun_mk (st := s_law_right) l_law_right c_law_right k_law_right
  have B_law_right := F_law_right.binds (ps := ["_law_urn"]) fun _ _ _ _ _ _ us hl => match us, hl with | [_], _ => rfl
  have F_law_box := fun_mk (st := s_law_box) l_law_box c_law_box k_law_box
  have B_law_box := F_law_box.binds (ps := ["_law_script", "_law_k"]) fun _ _ _ _ _ _ us hl => match us, hl with | [_, _], _ => rfl
  have F_law := fun_mk (st := s_law) l_law c_law k_law
  have B_law := F_law.binds (ps := ["_law_script"]) fun _ _ _ _ _ _ us hl => match us, hl with | [_], _ => rfl
  refine ⟨PySem.W.fnOf "law" "law" (defArgs s_law) (defBody s_law) (defScope s_law) .none kV_law dc_law pm_law an_law cd_law ct_law, fun s v => .of_eq rfl, fun base _ _ => ?_⟩
  exact law_ok (ok_law (P := l.prog) (w := w) (base := base) ({
    f_law_cells := f_law_cells
    d_law_cells := _
    F_law_cells := F_law_cells
    B_law_cells := B_law_cells
    g_law_cells := PySem.W.mg_of X G a_law_cells
    f_law_same := f_law_same
    d_law_same := _
    F_law_same := F_law_same
    B_law_same := B_law_same
    g_law_same := PySem.W.mg_of X G a_law_same
    f_Tree_nodes := f_Tree_nodes
    d_Tree_nodes := _
    F_Tree_nodes := F_Tree_nodes
    B_Tree_nodes := B_Tree_nodes
    f_Tree_grown := f_Tree_grown
    d_Tree_grown := _
    F_Tree_grown := F_Tree_grown
    B_Tree_grown := B_Tree_grown
    f_tupled := f_tupled
    d_tupled := _
    F_tupled := F_tupled
    B_tupled := B_tupled
    g_tupled := PySem.W.mg_of X G a_tupled
    f_Tree_init := f_Tree_init
    d_Tree_init := _
    F_Tree_init := F_Tree_init
    B_Tree_init := B_Tree_init
    f_nodes_in := f_nodes_in
    d_nodes_in := _
    F_nodes_in := F_nodes_in
    B_nodes_in := B_nodes_in
    g_nodes_in := PySem.W.mg_of X G a_nodes_in
    f_depth_of := f_depth_of
    d_depth_of := _
    F_depth_of := F_depth_of
    B_depth_of := B_depth_of
    g_depth_of := PySem.W.mg_of X G a_depth_of
    f_is_allowed := f_is_allowed
    d_is_allowed := _
    F_is_allowed := F_is_allowed
    B_is_allowed := B_is_allowed
    g_is_allowed := PySem.W.mg_of X G a_is_allowed
    f_law_lists := f_law_lists
    d_law_lists := _
    F_law_lists := F_law_lists
    B_law_lists := B_law_lists
    g_law_lists := PySem.W.mg_of X G a_law_lists
    f_law_hand_right := f_law_hand_right
    d_law_hand_right := _
    F_law_hand_right := F_law_hand_right
    B_law_hand_right := B_law_hand_right
    g_law_hand_right := PySem.W.mg_of X G a_law_hand_right
    f_law_leaves := f_law_leaves
    d_law_leaves := _
    F_law_leaves := F_law_leaves
    B_law_leaves := B_law_leaves
    g_law_leaves := PySem.W.mg_of X G a_law_leaves
    f_law_spans := f_law_spans
    d_law_spans := _
    F_law_spans := F_law_spans
    B_law_spans := B_law_spans
    g_law_spans := PySem.W.mg_of X G a_law_spans
    f_law_under := f_law_under
    d_law_under := _
    F_law_under := F_law_under
    B_law_under := B_law_under
    g_law_under := PySem.W.mg_of X G a_law_under
    f_law_pieces := f_law_pieces
    d_law_pieces := _
    F_law_pieces := F_law_pieces
    B_law_pieces := B_law_pieces
    g_law_pieces := PySem.W.mg_of X G a_law_pieces
    f_law_take := f_law_take
    d_law_take := _
    F_law_take := F_law_take
    B_law_take := B_law_take
    g_law_take := PySem.W.mg_of X G a_law_take
    f_law_shape := f_law_shape
    d_law_shape := _
    F_law_shape := F_law_shape
    B_law_shape := B_law_shape
    g_law_shape := PySem.W.mg_of X G a_law_shape
    f_law_words := f_law_words
    d_law_words := _
    F_law_words := F_law_words
    B_law_words := B_law_words
    g_law_words := PySem.W.mg_of X G a_law_words
    f_law_tale := f_law_tale
    d_law_tale := _
    F_law_tale := F_law_tale
    B_law_tale := B_law_tale
    g_law_tale := PySem.W.mg_of X G a_law_tale
    f_law_of := f_law_of
    d_law_of := _
    F_law_of := F_law_of
    B_law_of := B_law_of
    g_law_of := PySem.W.mg_of X G a_law_of
    f_law_few := f_law_few
    d_law_few := _
    F_law_few := F_law_few
    B_law_few := B_law_few
    g_law_few := PySem.W.mg_of X G a_law_few
    f_law_floors := f_law_floors
    d_law_floors := _
    F_law_floors := F_law_floors
    B_law_floors := B_law_floors
    g_law_floors := PySem.W.mg_of X G a_law_floors
    f_law_deep := f_law_deep
    d_law_deep := _
    F_law_deep := F_law_deep
    B_law_deep := B_law_deep
    g_law_deep := PySem.W.mg_of X G a_law_deep
    f_law_is_let := f_law_is_let
    d_law_is_let := _
    F_law_is_let := F_law_is_let
    B_law_is_let := B_law_is_let
    g_law_is_let := PySem.W.mg_of X G a_law_is_let
    f_law_right := f_law_right
    d_law_right := _
    F_law_right := F_law_right
    B_law_right := B_law_right
    g_law_right := PySem.W.mg_of X G a_law_right
    f_law_box := f_law_box
    d_law_box := _
    F_law_box := F_law_box
    B_law_box := B_law_box
    g_law_box := PySem.W.mg_of X G a_law_box
    f_law := fa
    d_law := _
    F_law := F_law
    B_law := B_law
    g_law := PySem.W.mg_of X G a_law
    k_is_allowed_0 := kbp_of (n := 0) (ks := ["part", "layers", "tree"]) (is := [2, 1, 0]) F_is_allowed fun _ _ _ _ _ _ us ws hl hm => match us, hl, ws, hm with | [], _, [_, _, _], _ => rfl
    z_abs := PySem.W.mg_none_of X G z_abs
    z_all := PySem.W.mg_none_of X G z_all
    z_any := PySem.W.mg_none_of X G z_any
    z_bool := PySem.W.mg_none_of X G z_bool
    z_dict := PySem.W.mg_none_of X G z_dict
    z_enumerate := PySem.W.mg_none_of X G z_enumerate
    z_int := PySem.W.mg_none_of X G z_int
    z_isinstance := PySem.W.mg_none_of X G z_isinstance
    z_len := PySem.W.mg_none_of X G z_len
    z_list := PySem.W.mg_none_of X G z_list
    z_range := PySem.W.mg_none_of X G z_range
    z_sorted := PySem.W.mg_none_of X G z_sorted
    z_str := PySem.W.mg_none_of X G z_str
    z_tuple := PySem.W.mg_none_of X G z_tuple
    z_zip := PySem.W.mg_none_of X G z_zip
    C_Tree := C_Tree
    c_Tree := c_Tree
    s_Tree := ⟨pg_Tree, ic_Tree, po_Tree, sa_Tree⟩
    mk_Tree := ⟨mk_Tree, a_Tree_init, i_Tree_init, kc_Tree⟩
    m_Tree_grown := ⟨a_Tree_grown, i_Tree_grown, k_Tree_grown⟩
    m_Tree_nodes := ⟨a_Tree_nodes, i_Tree_nodes, k_Tree_nodes⟩
    sl_Tree_own_boxes := clsF_mk c_Tree ⟨pg_Tree, ic_Tree, po_Tree, sa_Tree⟩ ⟨sa1_Tree_own_boxes, sa2_Tree_own_boxes, sa3_Tree_own_boxes, sa4_Tree_own_boxes, sa5_Tree_own_boxes, by decide⟩
    sl_Tree_own_head := clsF_mk c_Tree ⟨pg_Tree, ic_Tree, po_Tree, sa_Tree⟩ ⟨sa1_Tree_own_head, sa2_Tree_own_head, sa3_Tree_own_head, sa4_Tree_own_head, sa5_Tree_own_head, by decide⟩
    sl_Tree_own_sides := clsF_mk c_Tree ⟨pg_Tree, ic_Tree, po_Tree, sa_Tree⟩ ⟨sa1_Tree_own_sides, sa2_Tree_own_sides, sa3_Tree_own_sides, sa4_Tree_own_sides, sa5_Tree_own_sides, by decide⟩ } : Tx K mg)) hlaw
end Pu

open PySem PySem.W PyProof.Rows
set_option maxRecDepth 100000 in
set_option maxHeartbeats 0 in
theorem PySem.Challenge.cw_lockedout_k32_which_parts_are_allowed_holds : PySem.Challenge.rw_lockedout_k32_which_parts_are_allowed.Holds := by
  w_on; o_law; k_head; (case hw => w_witness2)
  k_fill
  refine L2.walk_of (l := PySem.Challenge.rw_lockedout_k32_which_parts_are_allowed) (n := 63) (k := 84) (x := "_law_script") (CX := fun _ => L2.CX0) (sp := fun w => Pu.spLaw _) rfl (by decide) rfl ⟨rfl, by decide, by decide⟩ (fun w h Y => PySem.W.kIn_of Y) ?F (fun _ _ a ns hl _ hS => ⟨a, ns, rfl, hS, hl, fun _ => rfl⟩) (fun _ _ _ _ _ h => h)
  case F =>
    intro w mg fa h KX G hmg
    refine' Pu.all_mk KX G hmg ?aC_Tree ?pg_Tree ?ic_Tree ?po_Tree ?sa_Tree ?mk_Tree ?kc_Tree ?a_law_cells ?l_law_cells ?c_law_cells ?k_law_cells ?a_law_same ?l_law_same ?c_law_same ?k_law_same ?a_Tree_nodes ?i_Tree_nodes ?l_Tree_nodes ?c_Tree_nodes ?k_Tree_nodes ?a_Tree_grown ?i_Tree_grown ?l_Tree_grown ?c_Tree_grown ?k_Tree_grown ?a_tupled ?l_tupled ?c_tupled ?k_tupled ?a_Tree_init ?i_Tree_init ?l_Tree_init ?c_Tree_init ?k_Tree_init ?a_nodes_in ?l_nodes_in ?c_nodes_in ?k_nodes_in ?a_depth_of ?l_depth_of ?c_depth_of ?k_depth_of ?a_is_allowed ?l_is_allowed ?c_is_allowed ?k_is_allowed ?a_law_lists ?l_law_lists ?c_law_lists ?k_law_lists ?a_law_hand_right ?l_law_hand_right ?c_law_hand_right ?k_law_hand_right ?a_law_leaves ?l_law_leaves ?c_law_leaves ?k_law_leaves ?a_law_spans ?l_law_spans ?c_law_spans ?k_law_spans ?a_law_under ?l_law_under ?c_law_under ?k_law_under ?a_law_pieces ?l_law_pieces ?c_law_pieces ?k_law_pieces ?a_law_take ?l_law_take ?c_law_take ?k_law_take ?a_law_shape ?l_law_shape ?c_law_shape ?k_law_shape ?a_law_words ?l_law_words ?c_law_words ?k_law_words ?a_law_tale ?l_law_tale ?c_law_tale ?k_law_tale ?a_law_of ?l_law_of ?c_law_of ?k_law_of ?a_law_few ?l_law_few ?c_law_few ?k_law_few ?a_law_floors ?l_law_floors ?c_law_floors ?k_law_floors ?a_law_deep ?l_law_deep ?c_law_deep ?k_law_deep ?a_law_is_let ?l_law_is_let ?c_law_is_let ?k_law_is_let ?a_law_right ?l_law_right ?c_law_right ?k_law_right ?a_law_box ?l_law_box ?c_law_box ?k_law_box ?a_law ?l_law ?c_law ?k_law ?z_abs ?z_all ?z_any ?z_bool ?z_dict ?z_enumerate ?z_int ?z_isinstance ?z_len ?z_list ?z_range ?z_sorted ?z_str ?z_tuple ?z_zip ?sa1_Tree_own_boxes ?sa2_Tree_own_boxes ?sa3_Tree_own_boxes ?sa4_Tree_own_boxes ?sa5_Tree_own_boxes ?sa1_Tree_own_head ?sa2_Tree_own_head ?sa3_Tree_own_head ?sa4_Tree_own_head ?sa5_Tree_own_head ?sa1_Tree_own_sides ?sa2_Tree_own_sides ?sa3_Tree_own_sides ?sa4_Tree_own_sides ?sa5_Tree_own_sides Pu.law_true
    (case aC_Tree => k_is)
    (case pg_Tree => k_is)
    (case ic_Tree => k_is)
    (case po_Tree => k_is)
    (case sa_Tree => k_is)
    (case mk_Tree => k_is)
    (case kc_Tree => k_is)
    (case a_law_cells => k_is)
    (case l_law_cells => k_is)
    (case c_law_cells => k_is)
    (case k_law_cells => k_is)
    (case a_law_same => k_is)
    (case l_law_same => k_is)
    (case c_law_same => k_is)
    (case k_law_same => k_is)
    (case a_Tree_nodes => k_is)
    (case i_Tree_nodes => k_is)
    (case l_Tree_nodes => k_is)
    (case c_Tree_nodes => k_is)
    (case k_Tree_nodes => k_is)
    (case a_Tree_grown => k_is)
    (case i_Tree_grown => k_is)
    (case l_Tree_grown => k_is)
    (case c_Tree_grown => k_is)
    (case k_Tree_grown => k_is)
    (case a_tupled => k_is)
    (case l_tupled => k_is)
    (case c_tupled => k_is)
    (case k_tupled => k_is)
    (case a_Tree_init => k_is)
    (case i_Tree_init => k_is)
    (case l_Tree_init => k_is)
    (case c_Tree_init => k_is)
    (case k_Tree_init => k_is)
    (case a_nodes_in => k_is)
    (case l_nodes_in => k_is)
    (case c_nodes_in => k_is)
    (case k_nodes_in => k_is)
    (case a_depth_of => k_is)
    (case l_depth_of => k_is)
    (case c_depth_of => k_is)
    (case k_depth_of => k_is)
    (case a_is_allowed => k_is)
    (case l_is_allowed => k_is)
    (case c_is_allowed => k_is)
    (case k_is_allowed => k_is)
    (case a_law_lists => k_is)
    (case l_law_lists => k_is)
    (case c_law_lists => k_is)
    (case k_law_lists => k_is)
    (case a_law_hand_right => k_is)
    (case l_law_hand_right => k_is)
    (case c_law_hand_right => k_is)
    (case k_law_hand_right => k_is)
    (case a_law_leaves => k_is)
    (case l_law_leaves => k_is)
    (case c_law_leaves => k_is)
    (case k_law_leaves => k_is)
    (case a_law_spans => k_is)
    (case l_law_spans => k_is)
    (case c_law_spans => k_is)
    (case k_law_spans => k_is)
    (case a_law_under => k_is)
    (case l_law_under => k_is)
    (case c_law_under => k_is)
    (case k_law_under => k_is)
    (case a_law_pieces => k_is)
    (case l_law_pieces => k_is)
    (case c_law_pieces => k_is)
    (case k_law_pieces => k_is)
    (case a_law_take => k_is)
    (case l_law_take => k_is)
    (case c_law_take => k_is)
    (case k_law_take => k_is)
    (case a_law_shape => k_is)
    (case l_law_shape => k_is)
    (case c_law_shape => k_is)
    (case k_law_shape => k_is)
    (case a_law_words => k_is)
    (case l_law_words => k_is)
    (case c_law_words => k_is)
    (case k_law_words => k_is)
    (case a_law_tale => k_is)
    (case l_law_tale => k_is)
    (case c_law_tale => k_is)
    (case k_law_tale => k_is)
    (case a_law_of => k_is)
    (case l_law_of => k_is)
    (case c_law_of => k_is)
    (case k_law_of => k_is)
    (case a_law_few => k_is)
    (case l_law_few => k_is)
    (case c_law_few => k_is)
    (case k_law_few => k_is)
    (case a_law_floors => k_is)
    (case l_law_floors => k_is)
    (case c_law_floors => k_is)
    (case k_law_floors => k_is)
    (case a_law_deep => k_is)
    (case l_law_deep => k_is)
    (case c_law_deep => k_is)
    (case k_law_deep => k_is)
    (case a_law_is_let => k_is)
    (case l_law_is_let => k_is)
    (case c_law_is_let => k_is)
    (case k_law_is_let => k_is)
    (case a_law_right => k_is)
    (case l_law_right => k_is)
    (case c_law_right => k_is)
    (case k_law_right => k_is)
    (case a_law_box => k_is)
    (case l_law_box => k_is)
    (case c_law_box => k_is)
    (case k_law_box => k_is)
    (case a_law => k_is)
    (case l_law => k_is)
    (case c_law => k_is)
    (case k_law => k_is)
    (case z_abs => k_is)
    (case z_all => k_is)
    (case z_any => k_is)
    (case z_bool => k_is)
    (case z_dict => k_is)
    (case z_enumerate => k_is)
    (case z_int => k_is)
    (case z_isinstance => k_is)
    (case z_len => k_is)
    (case z_list => k_is)
    (case z_range => k_is)
    (case z_sorted => k_is)
    (case z_str => k_is)
    (case z_tuple => k_is)
    (case z_zip => k_is)
    (case sa1_Tree_own_boxes => k_is)
    (case sa2_Tree_own_boxes => k_is)
    (case sa3_Tree_own_boxes => k_is)
    (case sa4_Tree_own_boxes => k_is)
    (case sa5_Tree_own_boxes => k_is)
    (case sa1_Tree_own_head => k_is)
    (case sa2_Tree_own_head => k_is)
    (case sa3_Tree_own_head => k_is)
    (case sa4_Tree_own_head => k_is)
    (case sa5_Tree_own_head => k_is)
    (case sa1_Tree_own_sides => k_is)
    (case sa2_Tree_own_sides => k_is)
    (case sa3_Tree_own_sides => k_is)
    (case sa4_Tree_own_sides => k_is)
    (case sa5_Tree_own_sides => k_is)

