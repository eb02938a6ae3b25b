import PyProof.Rows.All
import Wide.All
import OpenK.AllK
import Wide.FinOn
import HandS.ForMost
import HandS.Slots
import HandS.Defaults
import HandS.Lambda
import HandS.EndTab
import HandS.Flow
import HandS.TupAny
import HandS.Deep
import HandS.IsInst
import HandS.Conv
import HandS.Strs
import HandS.Style
import KE.KUnpack
import HandS.Zip
import KE.SortData
import KE.KDictKeyed
import KE.GoesMore
import HandS.TupMul
import KE.DataMinMax
import HandS.Star
import HandS.Set
import HandS.SetFor
import HandS.SetKeys
import HandS.Zip0
import KE.DataCmp
import HandS.DictComp
import HandS.More
import HandS.TupSets
import KE.KeyNested
import HandS.IterVal
import HandS.DictTup
import KE.KDictWalk
import KE.KDictDisplayH
import KE.KLam
import KE.SortUse
import KE.KDictZip
import PySem.Challenge.RW_lockedout_k06_whole_trees_joined_and_tur
set_option Elab.async false
set_option linter.all false
set_option maxRecDepth 100000
set_option maxHeartbeats 4000000
namespace Pu
open PySem PySem.Spec PyProof.Rows L2
/-- the tables of code objects that lambdas write, and what these are called -/
class TabN where
  ts : List (Addr × Str)
/-- frozen data -/
inductive D where
  | any | non
  | bl (b : Bool)
  | int (i : Int)
  | str (x : Str)
  | tup (ds : List D)
  | lst (ds : List D)
  | frl (ds : List D)
  | dT (ks : List (List Key)) (ds : List D)
  | dK (ks : List Key) (ds : List D)
  | lT (ks : List (List Key)) (ds : List D)
  | ins (c : Str) (ds : List D)
/-- owned data: the cells below may still be written -/
inductive W where
  | sh (d : D)
  | lst (ws : List W)
  | dT (ks : List (List Key)) (ds : List D)
  | dK (ks : List Key) (ds : List D)
  | ins (c : Str) (ws : List W)

/-- a thing that is there and no tuple -/
def NoTup (o : Option HO) : Prop := o ≠ none ∧ (∀ vs, o ≠ some (.tup vs)) ∧ ∀ ps, o ≠ some (.tbl ps)
/-- a tuple; only an empty one may be a written one -/
def Tup00 (K : PySem.W.Frag) (a : Addr) : Prop := ∃ (o : Obj) (its : Array Value) (n : Nat), K.lookup a = some o ∧ o.cls = .type "tuple" ∧ o.data = .seq its n ∧ its.size ≤ sizeLine ∧ Vals ([] : List V) its.toList
def TupAt (K : PySem.W.Frag) (F : Hp) (a : Addr) (vs : List V) : Prop := SqT K F a vs ∧ (F a = some (.tup vs) ∨ (vs = [] ∧ Tup00 K a))
theorem TupAt.ne {K : PySem.W.Frag} {F : Hp} {a : Addr} {vs : List V} (h : TupAt K F a vs) (z : vs ≠ []) : F a = some (.tup vs) := h.2.elim id fun w => absurd w.1 z
theorem TupAt.of {K : PySem.W.Frag} {F : Hp} {a : Addr} {vs : List V} (h : F a = some (.tup vs)) : TupAt K F a vs := ⟨.inl (.inl h), .inl h⟩
section
variable (K : PySem.W.Frag) (mg : Str → Option Value)
mutual
def Rep (F : Hp) : D → V → Prop
  | .any, _ => True
  | .non, v => v = .non
  | .bl b, v => v = .bl b
  | .int i, v => v = .int i
  | .str x, v => v = .str x
  | .tup ds, v => ∃ a vs, v = .ref a ∧ TupAt K F a vs ∧ Reps F ds vs
  | .lst ds, v => ∃ a vs, v = .ref a ∧ F a = some (.lst vs) ∧ Reps F ds vs
  | .frl ds, v => ∃ a vs, v = .ref a ∧ SqL K F a vs ∧ Reps F ds vs
  | .dT ks ds, v => ∃ a kws, v = .ref a ∧ F a = some (.dT kws) ∧ kws.map (·.1) = ks ∧ Reps F ds (kws.map (·.2))
  | .dK ks ds, v => ∃ a kws, v = .ref a ∧ F a = some (.dK kws) ∧ kws.map (·.1) = ks ∧ Reps F ds (kws.map (·.2))
  | .lT ks ds, v => ∃ a od kws, v = .ref a ∧ F a = some (.frz od (.dT kws)) ∧ kws.map (·.1) = ks ∧ Reps F ds (kws.map (·.2))
  | .ins c ds, v => ∃ a C dx os, v = .ref a ∧ mg c = some (.ref C) ∧ SlX.Slt F a C dx os ∧ RepsO F ds os
def Reps (F : Hp) : List D → List V → Prop
  | [], [] => True
  | d :: ds, v :: vs => Rep F d v ∧ Reps F ds vs
  | [], _ :: _ => False
  | _ :: _, [] => False
def RepsO (F : Hp) : List D → List (Option V) → Prop
  | [], [] => True
  | d :: ds, some v :: vs => Rep F d v ∧ RepsO F ds vs
  | d :: ds, none :: vs => d = .any ∧ RepsO F ds vs
  | [], _ :: _ => False
  | _ :: _, [] => False
end
mutual
def Own (F H : Hp) : W → V → List Addr → Prop
  | .sh d, v, L => Rep K mg F d v ∧ L = []
  | .lst ws, v, L => ∃ a vs L', v = .ref a ∧ H a = some (.lst vs) ∧ F a = none ∧ L = a :: L' ∧ Owns F H ws vs L'
  | .dT ks ds, v, L => ∃ a kws, v = .ref a ∧ H a = some (.dT kws) ∧ F a = none ∧ L = [a] ∧ kws.map (·.1) = ks ∧ Reps K mg F ds (kws.map (·.2))
  | .dK ks ds, v, L => ∃ a kws, v = .ref a ∧ H a = some (.dK kws) ∧ F a = none ∧ L = [a] ∧ kws.map (·.1) = ks ∧ Reps K mg F ds (kws.map (·.2))
  | .ins c ws, v, L => ∃ a C dx os L', v = .ref a ∧ mg c = some (.ref C) ∧ SlX.Slt H a C dx os ∧ NoTup (H dx) ∧ dx ≠ a ∧ F a = none ∧ F dx = none ∧ L = a :: dx :: L' ∧ OwnsO F H ws os L'
def Owns (F H : Hp) : List W → List V → List Addr → Prop
  | [], [], L => L = []
  | w :: ws, v :: vs, L => ∃ L1 L2, L = L1 ++ L2 ∧ Own F H w v L1 ∧ Owns F H ws vs L2
  | [], _ :: _, _ => False
  | _ :: _, [], _ => False
def OwnsO (F H : Hp) : List W → List (Option V) → List Addr → Prop
  | [], [], L => L = []
  | w :: ws, some v :: vs, L => ∃ L1 L2, L = L1 ++ L2 ∧ Own F H w v L1 ∧ OwnsO F H ws vs L2
  | w :: ws, none :: vs, L => w = .sh .any ∧ OwnsO F H ws vs L
  | [], _ :: _, _ => False
  | _ :: _, [], _ => False
end
end
mutual
def W.d : W → D
  | .sh d => d
  | .lst ws => .lst (W.ds ws)
  | .dT ks ds => .dT ks ds
  | .dK ks ds => .dK ks ds
  | .ins c ws => .ins c (W.ds ws)
def W.ds : List W → List D
  | [] => []
  | w :: ws => W.d w :: W.ds ws
end
theorem ds_map : ∀ ws : List W, W.ds ws = ws.map W.d
  | [] => by simp [W.ds]
  | w :: ws => by simp [W.ds, ds_map ws]

/-- F with the cells at L as they stand in H -/
def addF (F H : Hp) (L : List Addr) : Hp := fun b => if b ∈ L then H b else F b
theorem addF_in {F H : Hp} {L : List Addr} {b : Addr} (h : b ∈ L) : addF F H L b = H b := by simp [addF, h]
theorem addF_out {F H : Hp} {L : List Addr} {b : Addr} (h : b ∉ L) : addF F H L b = F b := by simp [addF, h]
theorem addF_sub {F H : Hp} {L : List Addr} (s : Same F H) : Same F (addF F H L) := fun b o e => by
  by_cases h : b ∈ L
  · rw [addF_in h]; exact s b o e
  · rw [addF_out h]; exact e
theorem addF_le {F H : Hp} {L : List Addr} (s : Same F H) : Same (addF F H L) H := fun b o e => by
  by_cases h : b ∈ L
  · rwa [addF_in h] at e
  · rw [addF_out h] at e; exact s b o e

theorem seqT {K : PySem.W.Frag} {H H' : Hp} {a : Addr} {xs : List V} (e : Same H H') (h : SqT K H a xs) : SqT K H' a xs := by
  rcases h with (h | ⟨o, h⟩) | h
  · exact .inl (.inl (e _ _ h))
  · exact .inl (.inr ⟨o, e _ _ h⟩)
  · exact .inr h
theorem sltS {H H' : Hp} {a C dx : Addr} {os : List (Option V)} (e : Same H H') (h : SlX.Slt H a C dx os) : SlX.Slt H' a C dx os := by
  rcases h with ⟨h1, h2⟩ | ⟨h1, h2⟩
  · exact .inl ⟨e _ _ h1, h2⟩
  · exact .inr ⟨e _ _ h1, e _ _ h2⟩

section
variable {K : PySem.W.Frag} {mg : Str → Option Value}
mutual
theorem Rep.mono {F F' : Hp} (e : Same F F') : ∀ {d : D} {v : V}, Rep K mg F d v → Rep K mg F' d v
  | .any, _, h => by simp only [Rep]
  | .non, _, h => by simpa only [Rep] using h
  | .bl _, _, h => by simpa only [Rep] using h
  | .int _, _, h => by simpa only [Rep] using h
  | .str _, _, h => by simpa only [Rep] using h
  | .tup ds, v, h => by
    simp only [Rep] at h ⊢
    obtain ⟨a, vs, h1, h2, h3⟩ := h
    exact ⟨a, vs, h1, ⟨seqT e h2.1, h2.2.imp (e _ _) id⟩, Reps.mono e h3⟩
  | .lst ds, v, h => by
    simp only [Rep] at h ⊢
    obtain ⟨a, vs, h1, h2, h3⟩ := h
    exact ⟨a, vs, h1, e _ _ h2, Reps.mono e h3⟩
  | .frl ds, v, h => by
    simp only [Rep] at h ⊢
    obtain ⟨a, vs, h1, h2, h3⟩ := h
    exact ⟨a, vs, h1, e.seq h2, Reps.mono e h3⟩
  | .dT ks ds, v, h => by
    simp only [Rep] at h ⊢
    obtain ⟨a, vs, h1, h2, h3, h4⟩ := h
    exact ⟨a, vs, h1, e _ _ h2, h3, Reps.mono e h4⟩
  | .dK ks ds, v, h => by
    simp only [Rep] at h ⊢
    obtain ⟨a, vs, h1, h2, h3, h4⟩ := h
    exact ⟨a, vs, h1, e _ _ h2, h3, Reps.mono e h4⟩
  | .lT ks ds, v, h => by
    simp only [Rep] at h ⊢
    obtain ⟨a, od, vs, h1, h2, h3, h4⟩ := h
    exact ⟨a, od, vs, h1, e _ _ h2, h3, Reps.mono e h4⟩
  | .ins c ds, v, h => by
    simp only [Rep] at h ⊢
    obtain ⟨a, C, dx, os, h1, h2, h3, h4⟩ := h
    exact ⟨a, C, dx, os, h1, h2, sltS e h3, RepsO.mono e h4⟩
theorem Reps.mono {F F' : Hp} (e : Same F F') : ∀ {ds : List D} {vs : List V}, Reps K mg F ds vs → Reps K mg F' ds vs
  | [], [], _ => by simp only [Reps]
  | d :: ds, v :: vs, h => by
    simp only [Reps] at h ⊢
    exact ⟨Rep.mono e h.1, Reps.mono e h.2⟩
  | [], _ :: _, h => by simp only [Reps] at h
  | _ :: _, [], h => by simp only [Reps] at h
theorem RepsO.mono {F F' : Hp} (e : Same F F') : ∀ {ds : List D} {vs : List (Option V)}, RepsO K mg F ds vs → RepsO K mg F' ds vs
  | [], [], _ => by simp only [RepsO]
  | d :: ds, some v :: vs, h => by
    simp only [RepsO] at h ⊢
    exact ⟨Rep.mono e h.1, RepsO.mono e h.2⟩
  | d :: ds, none :: vs, h => by
    simp only [RepsO] at h ⊢
    exact ⟨h.1, RepsO.mono e h.2⟩
  | [], _ :: _, h => by simp only [RepsO] at h
  | _ :: _, [], h => by simp only [RepsO] at h
end
/-- what is owned at L stays so -/
structure Stay (F H F' H' : Hp) (L : List Addr) : Prop where
  sub : Same F F'
  out : ∀ b ∈ L, F' b = none
  eq : ∀ b ∈ L, H' b = H b
theorem Stay.less {F H F' H' : Hp} {L L1 : List Addr} (s : Stay F H F' H' L) (h : ∀ b ∈ L1, b ∈ L) : Stay F H F' H' L1 :=
  ⟨s.sub, fun b hb => s.out b (h b hb), fun b hb => s.eq b (h b hb)⟩
theorem slt_same {H H' : Hp} {a C dx : Addr} {os : List (Option V)} (h1 : H' a = H a) (h2 : H' dx = H dx) (h : SlX.Slt H a C dx os) : SlX.Slt H' a C dx os := by
  unfold SlX.Slt at h ⊢
  rw [h1, h2]; exact h
mutual
theorem Own.stay {F H F' H' : Hp} : ∀ {w : W} {v : V} {L : List Addr}, Own K mg F H w v L → Stay F H F' H' L → Own K mg F' H' w v L
  | .sh d, v, L, h, s => by
    simp only [Own] at h ⊢
    exact ⟨h.1.mono s.sub, h.2⟩
  | .lst ws, v, L, h, s => by
    simp only [Own] at h ⊢
    obtain ⟨a, vs, L', h1, h2, h3, h4, h5⟩ := h
    subst h4
    exact ⟨a, vs, L', h1, (s.eq a (by simp)).trans h2, s.out a (by simp), rfl, Owns.stay h5 (s.less fun b hb => by simp [hb])⟩
  | .dT ks ds, v, L, h, s => by
    simp only [Own] at h ⊢
    obtain ⟨a, vs, h1, h2, h3, h4, h5, h6⟩ := h
    subst h4
    exact ⟨a, vs, h1, (s.eq a (by simp)).trans h2, s.out a (by simp), rfl, h5, h6.mono s.sub⟩
  | .dK ks ds, v, L, h, s => by
    simp only [Own] at h ⊢
    obtain ⟨a, vs, h1, h2, h3, h4, h5, h6⟩ := h
    subst h4
    exact ⟨a, vs, h1, (s.eq a (by simp)).trans h2, s.out a (by simp), rfl, h5, h6.mono s.sub⟩
  | .ins c ws, v, L, h, s => by
    simp only [Own] at h ⊢
    obtain ⟨a, C, dx, os, L', h1, h2, h3, h4, h5, h6, h7, h8, h9⟩ := h
    subst h8
    have ea := s.eq a (by simp)
    have ed := s.eq dx (by simp)
    exact ⟨a, C, dx, os, L', h1, h2, slt_same ea ed h3, by rw [ed]; exact h4, h5, s.out a (by simp), s.out dx (by simp), rfl, OwnsO.stay h9 (s.less fun b hb => by simp [hb])⟩
theorem Owns.stay {F H F' H' : Hp} : ∀ {ws : List W} {vs : List V} {L : List Addr}, Owns K mg F H ws vs L → Stay F H F' H' L → Owns K mg F' H' ws vs L
  | [], [], L, h, s => by simpa only [Owns] using h
  | w :: ws, v :: vs, L, h, s => by
    simp only [Owns] at h ⊢
    obtain ⟨L1, L2, e, h1, h2⟩ := h
    subst e
    exact ⟨L1, L2, rfl, Own.stay h1 (s.less fun b hb => by simp [hb]), Owns.stay h2 (s.less fun b hb => by simp [hb])⟩
  | [], _ :: _, _, h, _ => by simp only [Owns] at h
  | _ :: _, [], _, h, _ => by simp only [Owns] at h
theorem OwnsO.stay {F H F' H' : Hp} : ∀ {ws : List W} {vs : List (Option V)} {L : List Addr}, OwnsO K mg F H ws vs L → Stay F H F' H' L → OwnsO K mg F' H' ws vs L
  | [], [], L, h, s => by simpa only [OwnsO] using h
  | w :: ws, some v :: vs, L, h, s => by
    simp only [OwnsO] at h ⊢
    obtain ⟨L1, L2, e, h1, h2⟩ := h
    subst e
    exact ⟨L1, L2, rfl, Own.stay h1 (s.less fun b hb => by simp [hb]), OwnsO.stay h2 (s.less fun b hb => by simp [hb])⟩
  | w :: ws, none :: vs, L, h, s => by
    simp only [OwnsO] at h ⊢
    exact ⟨h.1, OwnsO.stay h.2 s⟩
  | [], _ :: _, _, h, _ => by simp only [OwnsO] at h
  | _ :: _, [], _, h, _ => by simp only [OwnsO] at h
end
theorem slt_tup {H : Hp} {a C dx : Addr} {os : List (Option V)} (h : SlX.Slt H a C dx os) : ∀ vs, H a ≠ some (.tup vs) := fun vs e => by
  rcases h with ⟨z, _⟩ | ⟨z, _⟩
  · rw [z] at e; cases e
  · rw [z] at e
    unfold SlX.SlO at e
    cases e
theorem slt_tbl {H : Hp} {a C dx : Addr} {os : List (Option V)} (h : SlX.Slt H a C dx os) : ∀ ps, H a ≠ some (.tbl ps) := fun vs e => by
  rcases h with ⟨z, _⟩ | ⟨z, _⟩
  · rw [z] at e; cases e
  · rw [z] at e
    unfold SlX.SlO at e
    cases e
/-- the tables: each code object that they tell is frozen and bears the name -/
def TabG [TabN] (F H : Hp) : Prop := ∀ p ∈ TabN.ts, ∃ ps : Array Value, H p.1 = some (.tbl ps) ∧ TriplesOk ps.toList ∧ ∀ (pos : Pos) (cv : Value), codeAmong pos ps.toList = some cv → ∃ c, cv = .ref c ∧ F c = some (LamX.CodeO c p.2)
theorem TabG.step [TabN] {F H F' H' : Hp} (s : Same F F') (T : ∀ P ps, H P = some (.tbl ps) → H' P = some (.tbl ps)) (t : TabG F H) : TabG F' H' := fun p hp => by
  obtain ⟨ps, h1, h2, h3⟩ := t p hp
  refine ⟨ps, T _ _ h1, h2, fun pos cv hc => ?_⟩
  obtain ⟨c, e1, e2⟩ := h3 pos cv hc
  exact ⟨c, e1, s _ _ e2⟩
/-- what becomes of the tables: what they tell is what they told, or new and frozen -/
def TabX [TabN] (H F' H' : Hp) : Prop := ∀ p ∈ TabN.ts, ∀ ps : Array Value, H p.1 = some (.tbl ps) → ∃ ps' : Array Value, H' p.1 = some (.tbl ps') ∧ (TriplesOk ps.toList → TriplesOk ps'.toList) ∧
  ∀ (pos : Pos) (cv : Value), codeAmong pos ps'.toList = some cv → codeAmong pos ps.toList = some cv ∨ ∃ c, cv = .ref c ∧ H c = none ∧ F' c = some (LamX.CodeO c p.2)
theorem TabX.of [TabN] {H F' H' : Hp} (T : ∀ P ps, H P = some (.tbl ps) → H' P = some (.tbl ps)) : TabX H F' H' := fun p _ ps h => ⟨ps, T _ _ h, id, fun _ _ h => .inl h⟩
theorem TabX.trans [TabN] {H F1 H1 F2 H2 : Hp} (x : TabX H F1 H1) (y : TabX H1 F2 H2) (s : Same F1 F2) (th : ∀ a, H a ≠ none → H1 a ≠ none) : TabX H F2 H2 := fun p hp ps h => by
  obtain ⟨ps1, a1, a2, a3⟩ := x p hp ps h
  obtain ⟨ps2, b1, b2, b3⟩ := y p hp ps1 a1
  refine ⟨ps2, b1, fun z => b2 (a2 z), fun pos cv hc => ?_⟩
  rcases b3 pos cv hc with z | ⟨c, e1, e2, e3⟩
  · rcases a3 pos cv z with z | ⟨c, e1, e2, e3⟩
    · exact .inl z
    · exact .inr ⟨c, e1, e2, s _ _ e3⟩
  · refine .inr ⟨c, e1, ?_, e3⟩
    cases q : H c with
    | none => rfl
    | some o => exact absurd e2 (th c (by rw [q]; simp))
theorem TabG.via [TabN] {F H F' H' : Hp} (t : TabG F H) (s : Same F F') (x : TabX H F' H') : TabG F' H' := fun p hp => by
  obtain ⟨ps, h1, h2, h3⟩ := t p hp
  obtain ⟨ps', a1, a2, a3⟩ := x p hp ps h1
  refine ⟨ps', a1, a2 h2, fun pos cv hc => ?_⟩
  rcases a3 pos cv hc with z | ⟨c, e1, e2, e3⟩
  · obtain ⟨c, e1, e2⟩ := h3 pos cv z
    exact ⟨c, e1, s _ _ e2⟩
  · exact ⟨c, e1, e3⟩
theorem tbl_upd {H : Hp} {a : Addr} {o : HO} (h : ∀ ps, H a ≠ some (.tbl ps)) : ∀ P ps, H P = some (.tbl ps) → upd H a o P = some (.tbl ps) := fun P ps e => by
  rw [upd_ne (fun z => h ps (by rw [← z]; exact e))]
  exact e
theorem tbl_new {H : Hp} {a : Addr} {o : HO} (h : H a = none) : ∀ P ps, H P = some (.tbl ps) → upd H a o P = some (.tbl ps) := tbl_upd fun ps z => by rw [h] at z; cases z
/-- tables: known, and none of them frozen -/
structure TbOk [TabN] (F H : Hp) : Prop where
  ok : TabG F H
  no : ∀ b ps, F b ≠ some (.tbl ps)
theorem TbOk.step [TabN] {F H H' : Hp} (t : TbOk F H) (T : ∀ P ps, H P = some (.tbl ps) → H' P = some (.tbl ps)) : TbOk F H' := ⟨t.ok.step (Same.refl F) T, t.no⟩
theorem TbOk.new [TabN] {F H : Hp} {a : Addr} {o : HO} (t : TbOk F H) (h : H a = none) : TbOk F (L2.upd H a o) := t.step (tbl_new h)
/-- frozen at once -/
theorem TbOk.lay [TabN] {F H : Hp} {a : Addr} {o : HO} (t : TbOk F H) (s : Same F H) (h : H a = none) (hn : ∀ ps, o ≠ .tbl ps) : TbOk (L2.upd F a o) (L2.upd H a o) := ⟨t.ok.step (fun b u e => by
    rw [upd_ne (ne_of_none (s b u e) h)]; exact e) (tbl_new h), fun b ps e => by
  by_cases z : b = a
  · subst z; rw [upd_same] at e; exact hn ps (Option.some.inj e)
  · rw [upd_ne z] at e; exact t.no b ps e⟩
theorem TbOk.upd [TabN] {F H : Hp} {a : Addr} {o : HO} (t : TbOk F H) (h : ∀ ps, H a ≠ some (.tbl ps)) : TbOk F (L2.upd H a o) := t.step (tbl_upd h)
mutual
theorem Own.cell {F H : Hp} : ∀ {w : W} {v : V} {L : List Addr}, Own K mg F H w v L → ∀ b ∈ L, NoTup (H b) ∧ F b = none
  | .sh d, v, L, h, b, hb => by
    simp only [Own] at h
    rw [h.2] at hb; cases hb
  | .lst ws, v, L, h, b, hb => by
    simp only [Own] at h
    obtain ⟨a, vs, L', h1, h2, h3, h4, h5⟩ := h
    subst h4
    rcases List.mem_cons.mp hb with rfl | hb
    · exact ⟨by rw [h2]; exact ⟨by simp, fun vs => by simp, fun ps => by simp⟩, h3⟩
    · exact Owns.cell h5 b hb
  | .dT ks ds, v, L, h, b, hb => by
    simp only [Own] at h
    obtain ⟨a, vs, h1, h2, h3, h4, h5, h6⟩ := h
    subst h4
    have e : b = a := by simpa using hb
    subst e
    exact ⟨by rw [h2]; exact ⟨by simp, fun vs => by simp, fun ps => by simp⟩, h3⟩
  | .dK ks ds, v, L, h, b, hb => by
    simp only [Own] at h
    obtain ⟨a, vs, h1, h2, h3, h4, h5, h6⟩ := h
    subst h4
    have e : b = a := by simpa using hb
    subst e
    exact ⟨by rw [h2]; exact ⟨by simp, fun vs => by simp, fun ps => by simp⟩, h3⟩
  | .ins c ws, v, L, h, b, hb => by
    simp only [Own] at h
    obtain ⟨a, C, dx, os, L', h1, h2, h3, h4, h5, h6, h7, h8, h9⟩ := h
    subst h8
    rcases List.mem_cons.mp hb with rfl | hb
    · refine ⟨⟨?_, slt_tup h3, slt_tbl h3⟩, h6⟩
      rcases h3 with ⟨z, _⟩ | ⟨z, _⟩ <;> rw [z] <;> simp
    · rcases List.mem_cons.mp hb with rfl | hb
      · exact ⟨h4, h7⟩
      · exact OwnsO.cell h9 b hb
theorem Owns.cell {F H : Hp} : ∀ {ws : List W} {vs : List V} {L : List Addr}, Owns K mg F H ws vs L → ∀ b ∈ L, NoTup (H b) ∧ F b = none
  | [], [], L, h, b, hb => by
    simp only [Owns] at h
    rw [h] at hb; cases hb
  | w :: ws, v :: vs, L, h, b, hb => by
    simp only [Owns] at h
    obtain ⟨L1, L2, e, h1, h2⟩ := h
    subst e
    rcases List.mem_append.mp hb with hb | hb
    · exact Own.cell h1 b hb
    · exact Owns.cell h2 b hb
  | [], _ :: _, _, h, _, _ => by simp only [Owns] at h
  | _ :: _, [], _, h, _, _ => by simp only [Owns] at h
theorem OwnsO.cell {F H : Hp} : ∀ {ws : List W} {vs : List (Option V)} {L : List Addr}, OwnsO K mg F H ws vs L → ∀ b ∈ L, NoTup (H b) ∧ F b = none
  | [], [], L, h, b, hb => by
    simp only [OwnsO] at h
    rw [h] at hb; cases hb
  | w :: ws, some v :: vs, L, h, b, hb => by
    simp only [OwnsO] at h
    obtain ⟨L1, L2, e, h1, h2⟩ := h
    subst e
    rcases List.mem_append.mp hb with hb | hb
    · exact Own.cell h1 b hb
    · exact OwnsO.cell h2 b hb
  | w :: ws, none :: vs, L, h, b, hb => by
    simp only [OwnsO] at h
    exact OwnsO.cell h.2 b hb
  | [], _ :: _, _, h, _, _ => by simp only [OwnsO] at h
  | _ :: _, [], _, h, _, _ => by simp only [OwnsO] at h
end
mutual
theorem Own.notup {F H : Hp} : ∀ {w : W} {v : V} {L : List Addr}, Own K mg F H w v L → ∀ b ∈ L, ∀ vs, H b ≠ some (.tup vs)
  | .sh d, v, L, h, b, hb => by
    simp only [Own] at h
    rw [h.2] at hb; cases hb
  | .lst ws, v, L, h, b, hb => by
    simp only [Own] at h
    obtain ⟨a, vs, L', h1, h2, h3, h4, h5⟩ := h
    subst h4
    rcases List.mem_cons.mp hb with rfl | hb
    · intro us e; rw [h2] at e; cases e
    · exact Owns.notup h5 b hb
  | .dT ks ds, v, L, h, b, hb => by
    simp only [Own] at h
    obtain ⟨a, vs, h1, h2, h3, h4, h5, h6⟩ := h
    subst h4
    have e : b = a := by simpa using hb
    subst e
    intro us e; rw [h2] at e; cases e
  | .dK ks ds, v, L, h, b, hb => by
    simp only [Own] at h
    obtain ⟨a, vs, h1, h2, h3, h4, h5, h6⟩ := h
    subst h4
    have e : b = a := by simpa using hb
    subst e
    intro us e; rw [h2] at e; cases e
  | .ins c ws, v, L, h, b, hb => by
    simp only [Own] at h
    obtain ⟨a, C, dx, os, L', h1, h2, h3, h4, h5, h6, h7, h8, h9⟩ := h
    subst h8
    rcases List.mem_cons.mp hb with rfl | hb
    · exact slt_tup h3
    · rcases List.mem_cons.mp hb with rfl | hb
      · exact h4.2.1
      · exact OwnsO.notup h9 b hb
theorem Owns.notup {F H : Hp} : ∀ {ws : List W} {vs : List V} {L : List Addr}, Owns K mg F H ws vs L → ∀ b ∈ L, ∀ vs, H b ≠ some (.tup vs)
  | [], [], L, h, b, hb => by
    simp only [Owns] at h
    rw [h] at hb; cases hb
  | w :: ws, v :: vs, L, h, b, hb => by
    simp only [Owns] at h
    obtain ⟨L1, L2, e, h1, h2⟩ := h
    subst e
    rcases List.mem_append.mp hb with hb | hb
    · exact Own.notup h1 b hb
    · exact Owns.notup h2 b hb
  | [], _ :: _, _, h, _, _ => by simp only [Owns] at h
  | _ :: _, [], _, h, _, _ => by simp only [Owns] at h
theorem OwnsO.notup {F H : Hp} : ∀ {ws : List W} {vs : List (Option V)} {L : List Addr}, OwnsO K mg F H ws vs L → ∀ b ∈ L, ∀ vs, H b ≠ some (.tup vs)
  | [], [], L, h, b, hb => by
    simp only [OwnsO] at h
    rw [h] at hb; cases hb
  | w :: ws, some v :: vs, L, h, b, hb => by
    simp only [OwnsO] at h
    obtain ⟨L1, L2, e, h1, h2⟩ := h
    subst e
    rcases List.mem_append.mp hb with hb | hb
    · exact Own.notup h1 b hb
    · exact OwnsO.notup h2 b hb
  | w :: ws, none :: vs, L, h, b, hb => by
    simp only [OwnsO] at h
    exact OwnsO.notup h.2 b hb
  | [], _ :: _, _, h, _, _ => by simp only [OwnsO] at h
  | _ :: _, [], _, h, _, _ => by simp only [OwnsO] at h
end
/-- what is owned, read where its cells and the frozen ones stand -/
structure Seen (F H G : Hp) (L : List Addr) : Prop where
  sub : Same F G
  eq : ∀ b ∈ L, G b = H b
theorem Seen.less {F H G : Hp} {L L1 : List Addr} (s : Seen F H G L) (h : ∀ b ∈ L1, b ∈ L) : Seen F H G L1 := ⟨s.sub, fun b hb => s.eq b (h b hb)⟩
mutual
theorem Own.seen {F H G : Hp} : ∀ {w : W} {v : V} {L : List Addr}, Own K mg F H w v L → Seen F H G L → Rep K mg G w.d v
  | .sh d, v, L, h, s => by
    simp only [Own, W.d] at h ⊢
    exact h.1.mono s.sub
  | .lst ws, v, L, h, s => by
    simp only [Own, W.d, Rep] at h ⊢
    obtain ⟨a, vs, L', h1, h2, h3, h4, h5⟩ := h
    subst h4
    exact ⟨a, vs, h1, (s.eq a (by simp)).trans h2, Owns.seen h5 (s.less fun b hb => by simp [hb])⟩
  | .dT ks ds, v, L, h, s => by
    simp only [Own, W.d, Rep] at h ⊢
    obtain ⟨a, vs, h1, h2, h3, h4, h5, h6⟩ := h
    subst h4
    exact ⟨a, vs, h1, (s.eq a (by simp)).trans h2, h5, h6.mono s.sub⟩
  | .dK ks ds, v, L, h, s => by
    simp only [Own, W.d, Rep] at h ⊢
    obtain ⟨a, vs, h1, h2, h3, h4, h5, h6⟩ := h
    subst h4
    exact ⟨a, vs, h1, (s.eq a (by simp)).trans h2, h5, h6.mono s.sub⟩
  | .ins c ws, v, L, h, s => by
    simp only [Own, W.d, Rep] at h ⊢
    obtain ⟨a, C, dx, os, L', h1, h2, h3, h4, h5, h6, h7, h8, h9⟩ := h
    subst h8
    exact ⟨a, C, dx, os, h1, h2, slt_same (s.eq a (by simp)) (s.eq dx (by simp)) h3, OwnsO.seen h9 (s.less fun b hb => by simp [hb])⟩
theorem Owns.seen {F H G : Hp} : ∀ {ws : List W} {vs : List V} {L : List Addr}, Owns K mg F H ws vs L → Seen F H G L → Reps K mg G (W.ds ws) vs
  | [], [], L, h, s => by simp only [W.ds, Reps]
  | w :: ws, v :: vs, L, h, s => by
    simp only [Owns, W.ds, Reps] at h ⊢
    obtain ⟨L1, L2, e, h1, h2⟩ := h
    subst e
    exact ⟨Own.seen h1 (s.less fun b hb => by simp [hb]), Owns.seen h2 (s.less fun b hb => by simp [hb])⟩
  | [], _ :: _, _, h, _ => by simp only [Owns] at h
  | _ :: _, [], _, h, _ => by simp only [Owns] at h
theorem OwnsO.seen {F H G : Hp} : ∀ {ws : List W} {vs : List (Option V)} {L : List Addr}, OwnsO K mg F H ws vs L → Seen F H G L → RepsO K mg G (W.ds ws) vs
  | [], [], L, h, s => by simp only [W.ds, RepsO]
  | w :: ws, some v :: vs, L, h, s => by
    simp only [OwnsO, W.ds, RepsO] at h ⊢
    obtain ⟨L1, L2, e, h1, h2⟩ := h
    subst e
    exact ⟨Own.seen h1 (s.less fun b hb => by simp [hb]), OwnsO.seen h2 (s.less fun b hb => by simp [hb])⟩
  | w :: ws, none :: vs, L, h, s => by
    simp only [OwnsO, W.ds, RepsO] at h ⊢
    obtain ⟨rfl, h2⟩ := h
    exact ⟨by simp only [W.d], OwnsO.seen h2 s⟩
  | [], _ :: _, _, h, _ => by simp only [OwnsO] at h
  | _ :: _, [], _, h, _ => by simp only [OwnsO] at h
end
theorem seen_H {F H : Hp} {L : List Addr} (s : Same F H) : Seen F H H L := ⟨s, fun _ _ => rfl⟩
theorem seen_add {F H : Hp} {L L' : List Addr} (s : Same F H) (h : ∀ b ∈ L, b ∈ L') : Seen F H (addF F H L') L := ⟨addF_sub s, fun _ hb => addF_in (h _ hb)⟩
end
end Pu
namespace Pu
variable [TabN]
open PySem PySem.Spec PyProof.Rows L2
abbrev En := List W
def W.owned : W → Bool
  | .sh _ => false
  | _ => true
def W.get : List Nat → W → Option W
  | [], w => some w
  | k :: p, .lst ws => match ws[k]? with
    | some w => W.get p w
    | none => none
  | k :: p, .ins _ ws => match ws[k]? with
    | some w => W.get p w
    | none => none
  | _ :: _, _ => none
def W.put : W → List Nat → W → W
  | _, [], w' => w'
  | .lst ws, k :: p, w' => match ws[k]? with
    | some w => .lst (ws.set k (W.put w p w'))
    | none => .lst ws
  | .ins c ws, k :: p, w' => match ws[k]? with
    | some w => .ins c (ws.set k (W.put w p w'))
    | none => .ins c ws
  | w, _ :: _, _ => w
def En.get (en : En) (i : Nat) (p : List Nat) : Option W := match en[i]? with
  | some w => w.get p
  | none => none
def En.put (en : En) (i : Nat) (p : List Nat) (w' : W) : En := match en[i]? with
  | some w => en.set i (w.put p w')
  | none => en
/-- an expression's result: a value of its own, or a place of a name's -/
inductive R where
  | val (w : W)
  | pl (i : Nat) (p : List Nat)

section
variable (K : PySem.W.Frag) (mg : Str → Option Value)
structure StOk (F H : Hp) (σ : L2.St) (en : En) (L : List Addr) : Prop where
  sub : Same F H
  nd : L.Nodup
  own : OwnsO K mg F H en σ L
  tb : TbOk F H
/-- the place p of the name i holds w at the address v, and may be given another thing there -/
def PartO (F H : Hp) (σ : L2.St) (en : En) (L : List Addr) (i : Nat) (p : List Nat) (w : W) (v : V) (La Lm Lb : List Addr) : Prop :=
  en.get i p = some w ∧ L = La ++ (Lm ++ Lb) ∧ Own K mg F H w v Lm ∧
    ∀ (F' H' : Hp) (w' : W) (Lm' : List Addr), Stay F H F' H' (La ++ Lb) → Own K mg F' H' w' v Lm' → OwnsO K mg F' H' (en.put i p w') σ (La ++ (Lm' ++ Lb))
def RR (F H : Hp) (σ : L2.St) (en : En) (L : List Addr) : R → V → List Addr → Prop
  | .val w, v, Lr => Own K mg F H w v Lr
  | .pl i [], v, Lr => Lr = [] ∧ σ[i]? = some (some v)
  | .pl i (k :: p), v, Lr => Lr = [] ∧ ∃ w La Lm Lb, PartO K mg F H σ en L i (k :: p) w v La Lm Lb
end
/-- from one state to a later one: only what is owned is written, only what is owned or new becomes frozen or owned -/
structure Ext (F H : Hp) (L : List Addr) (F' H' : Hp) (L' : List Addr) : Prop where
  kept : ∀ a o, H a = some o → a ∉ L → (∀ ps, o ≠ .tbl ps) → H' a = some o
  tbk : ∀ a ps, H a = some (.tbl ps) → a ∉ L → ∃ ps', H' a = some (.tbl ps')
  tab : TabX H F' H'
  there : ∀ a, H a ≠ none → H' a ≠ none
  sub : Same F F'
  newF : ∀ a, F' a ≠ none → F a ≠ none ∨ a ∈ L ∨ H a = none ∨ ∃ vs, H a = some (.tup vs)
  newL : ∀ a ∈ L', a ∈ L ∨ H a = none
/-- a step that writes no table -/
theorem Ext.of {F H : Hp} {L : List Addr} {F' H' : Hp} {L' : List Addr} (kept : ∀ a o, H a = some o → a ∉ L → H' a = some o) (T : ∀ P ps, H P = some (.tbl ps) → H' P = some (.tbl ps)) (there : ∀ a, H a ≠ none → H' a ≠ none) (sub : Same F F')
    (newF : ∀ a, F' a ≠ none → F a ≠ none ∨ a ∈ L ∨ H a = none ∨ ∃ vs, H a = some (.tup vs)) (newL : ∀ a ∈ L', a ∈ L ∨ H a = none) : Ext F H L F' H' L' :=
  ⟨fun a o e n _ => kept a o e n, fun a ps e _ => ⟨ps, T a ps e⟩, TabX.of T, there, sub, newF, newL⟩
theorem Ext.refl {F H : Hp} {L : List Addr} : Ext F H L F H L := ⟨fun _ _ h _ _ => h, fun _ _ h _ => ⟨_, h⟩, TabX.of fun _ _ e => e, fun _ h => h, Same.refl F, fun _ h => .inl h, fun _ h => .inl h⟩
theorem Ext.trans {F H F1 H1 F2 H2 : Hp} {L L1 L2 : List Addr} (x : Ext F H L F1 H1 L1) (y : Ext F1 H1 L1 F2 H2 L2) : Ext F H L F2 H2 L2 where
  kept := fun a o h n nt => by
    have h1 := x.kept a o h n nt
    refine y.kept a o h1 (fun m => ?_) nt
    rcases x.newL a m with z | z
    · exact n z
    · rw [h] at z; cases z
  tbk := fun a ps h n => by
    obtain ⟨ps1, h1⟩ := x.tbk a ps h n
    refine y.tbk a ps1 h1 fun m => ?_
    rcases x.newL a m with z | z
    · exact n z
    · rw [h] at z; cases z
  tab := x.tab.trans y.tab y.sub x.there
  there := fun a h => y.there a (x.there a h)
  sub := x.sub.trans y.sub
  newF := fun a h => by
    rcases y.newF a h with z | z | z | z
    · exact x.newF a z
    · exact (x.newL a z).elim (fun w => .inr (.inl w)) fun w => .inr (.inr (.inl w))
    · right; right; left
      cases q : H a with
      | none => rfl
      | some o => exact absurd z (x.there a (by rw [q]; simp))
    · cases q : H a with
      | none => exact .inr (.inr (.inl rfl))
      | some o =>
        by_cases hL : a ∈ L
        · exact .inr (.inl hL)
        · obtain ⟨vs, e⟩ := z
          have nt : ∀ ps, o ≠ .tbl ps := fun ps w => by
            subst w
            obtain ⟨ps', h1⟩ := x.tbk a ps q hL
            rw [h1] at e
            cases e
          rw [x.kept a o q hL nt] at e
          exact .inr (.inr (.inr ⟨vs, e⟩))
  newL := fun a h => by
    rcases y.newL a h with z | z
    · exact x.newL a z
    · right
      cases q : H a with
      | none => rfl
      | some o => exact absurd z (x.there a (by rw [q]; simp))
/-- fewer owned behind, more ahead -/
theorem Ext.mem {F H F' H' : Hp} {L L' M M' : List Addr} (x : Ext F H L F' H' L') (h : ∀ a ∈ L, a ∈ M) (h' : ∀ a ∈ M', a ∈ L') : Ext F H M F' H' M' :=
  ⟨fun a o e n nt => x.kept a o e (fun z => n (h a z)) nt, fun a ps e n => x.tbk a ps e fun z => n (h a z), x.tab, x.there, x.sub, fun a e => (x.newF a e).imp id fun z => z.imp (h a) id, fun a e => (x.newL a (h' a e)).imp (h a) id⟩
/-- what is owned besides -/
theorem Ext.frame {F H F' H' : Hp} {L L' : List Addr} (x : Ext F H L F' H' L') (M : List Addr) : Ext F H (L ++ M) F' H' (L' ++ M) :=
  ⟨fun a o e n nt => x.kept a o e (fun z => n (List.mem_append_left _ z)) nt, fun a ps e n => x.tbk a ps e fun z => n (List.mem_append_left _ z), x.tab, x.there, x.sub, fun a e => (x.newF a e).imp id fun z => z.imp (List.mem_append_left _) id,
    fun a e => (List.mem_append.mp e).elim (fun z => (x.newL a z).imp (List.mem_append_left _) id) fun z => .inl (List.mem_append_right _ z)⟩
theorem Ext.stay {F H F' H' : Hp} {L L' M : List Addr} (x : Ext F H L F' H' L') (h : ∀ b ∈ M, b ∉ L ∧ NoTup (H b) ∧ F b = none) : Stay F H F' H' M where
  sub := x.sub
  out := fun b hb => by
    obtain ⟨h1, h2, h3⟩ := h b hb
    cases q : F' b with
    | none => rfl
    | some o =>
      rcases x.newF b (by rw [q]; simp) with z | z | z | ⟨vs, z⟩
      · exact absurd h3 z
      · exact absurd z h1
      · exact absurd z h2.1
      · exact absurd z (h2.2.1 vs)
  eq := fun b hb => by
    obtain ⟨h1, h2, h3⟩ := h b hb
    cases q : H b with
    | none => exact absurd q h2.1
    | some o => exact x.kept b o q h1 fun ps z => h2.2.2 ps (by rw [q, z])
/-- what is owned besides stays apart from what is owned behind -/
theorem Ext.apart {F H F' H' : Hp} {L L' M : List Addr} (x : Ext F H L F' H' L') (h : ∀ b ∈ M, b ∉ L ∧ H b ≠ none) : ∀ a ∈ L', ∀ b ∈ M, a ≠ b := fun a ha b hb e => by
  subst e
  obtain ⟨h1, h2⟩ := h a hb
  rcases x.newL a ha with z | z
  · exact h1 z
  · exact h2 z

section
variable {K : PySem.W.Frag} {mg : Str → Option Value} {F H : Hp}
theorem Owns.get : ∀ {ws : List W} {vs : List V} {L : List Addr} {k : Nat} {w : W}, Owns K mg F H ws vs L → ws[k]? = some w → ∃ v La Lm Lb, vs[k]? = some v ∧ L = La ++ (Lm ++ Lb) ∧ Own K mg F H w v Lm ∧
    ∀ (F' H' : Hp) (w' : W) (v' : V) (Lm' : List Addr), Stay F H F' H' (La ++ Lb) → Own K mg F' H' w' v' Lm' → Owns K mg F' H' (ws.set k w') (vs.set k v') (La ++ (Lm' ++ Lb))
  | [], _, _, _, _, _, e => by simp at e
  | _ :: _, [], _, _, _, h, _ => by simp only [Owns] at h
  | w0 :: ws, v0 :: vs, L, 0, w, h, e => by
    simp only [Owns] at h
    obtain ⟨L1, L2, eL, h1, h2⟩ := h
    simp only [List.getElem?_cons_zero, Option.some.injEq] at e
    subst e eL
    refine ⟨v0, [], L1, L2, rfl, rfl, h1, fun F' H' w' v' Lm' s o => ?_⟩
    simp only [List.set_cons_zero, Owns, List.nil_append]
    exact ⟨Lm', L2, rfl, o, h2.stay (s.less fun b hb => by simpa using hb)⟩
  | w0 :: ws, v0 :: vs, L, k + 1, w, h, e => by
    simp only [Owns] at h
    obtain ⟨L1, L2, eL, h1, h2⟩ := h
    simp only [List.getElem?_cons_succ] at e
    subst eL
    obtain ⟨v, La, Lm, Lb, e1, e2, e3, e4⟩ := Owns.get h2 e
    subst e2
    refine ⟨v, L1 ++ La, Lm, Lb, by simpa using e1, by simp, e3, fun F' H' w' v' Lm' s o => ?_⟩
    simp only [List.set_cons_succ, Owns]
    exact ⟨L1, La ++ (Lm' ++ Lb), by simp, h1.stay (s.less fun b hb => by simp [hb]), e4 F' H' w' v' Lm' (s.less fun b hb => by
      rcases List.mem_append.mp hb with z | z <;> simp [z]) o⟩
theorem OwnsO.len : ∀ {ws : List W} {vs : List (Option V)} {L : List Addr}, OwnsO K mg F H ws vs L → ws.length = vs.length
  | [], [], _, _ => rfl
  | w :: ws, some v :: vs, L, h => by
    simp only [OwnsO] at h
    obtain ⟨_, _, _, _, h2⟩ := h
    simp [OwnsO.len h2]
  | w :: ws, none :: vs, L, h => by
    simp only [OwnsO] at h
    simp [OwnsO.len h.2]
  | [], _ :: _, _, h => by simp only [OwnsO] at h
  | _ :: _, [], _, h => by simp only [OwnsO] at h
/-- a name's place, whatever it holds -/
theorem OwnsO.get : ∀ {ws : List W} {vs : List (Option V)} {L : List Addr} {k : Nat} {w : W}, OwnsO K mg F H ws vs L → ws[k]? = some w → ∃ o La Lm Lb, vs[k]? = some o ∧ L = La ++ (Lm ++ Lb) ∧ ((∃ v, o = some v ∧ Own K mg F H w v Lm) ∨ (o = none ∧ w = .sh .any ∧ Lm = [])) ∧
    ∀ (F' H' : Hp) (w' : W) (v' : V) (Lm' : List Addr), Stay F H F' H' (La ++ Lb) → Own K mg F' H' w' v' Lm' → OwnsO K mg F' H' (ws.set k w') (vs.set k (some v')) (La ++ (Lm' ++ Lb))
  | [], _, _, _, _, _, e => by simp at e
  | _ :: _, [], _, _, _, h, _ => by simp only [OwnsO] at h
  | w0 :: ws, some v0 :: vs, L, 0, w, h, e => by
    simp only [OwnsO] at h
    obtain ⟨L1, L2, eL, h1, h2⟩ := h
    simp only [List.getElem?_cons_zero, Option.some.injEq] at e
    subst e eL
    refine ⟨some v0, [], L1, L2, rfl, rfl, .inl ⟨v0, rfl, h1⟩, fun F' H' w' v' Lm' s o => ?_⟩
    simp only [List.set_cons_zero, OwnsO, List.nil_append]
    exact ⟨Lm', L2, rfl, o, h2.stay (s.less fun b hb => by simpa using hb)⟩
  | w0 :: ws, none :: vs, L, 0, w, h, e => by
    simp only [OwnsO] at h
    simp only [List.getElem?_cons_zero, Option.some.injEq] at e
    subst e
    refine ⟨none, [], [], L, rfl, rfl, .inr ⟨rfl, h.1, rfl⟩, fun F' H' w' v' Lm' s o => ?_⟩
    simp only [List.set_cons_zero, OwnsO, List.nil_append]
    exact ⟨Lm', L, rfl, o, h.2.stay (s.less fun b hb => by simpa using hb)⟩
  | w0 :: ws, some v0 :: vs, L, k + 1, w, h, e => by
    simp only [OwnsO] at h
    obtain ⟨L1, L2, eL, h1, h2⟩ := h
    simp only [List.getElem?_cons_succ] at e
    subst eL
    obtain ⟨v, La, Lm, Lb, e1, e2, e3, e4⟩ := OwnsO.get h2 e
    subst e2
    refine ⟨v, L1 ++ La, Lm, Lb, by simpa using e1, by simp, e3, fun F' H' w' v' Lm' s o => ?_⟩
    simp only [List.set_cons_succ, OwnsO]
    exact ⟨L1, La ++ (Lm' ++ Lb), by simp, h1.stay (s.less fun b hb => by simp [hb]), e4 F' H' w' v' Lm' (s.less fun b hb => by
      rcases List.mem_append.mp hb with z | z <;> simp [z]) o⟩
  | w0 :: ws, none :: vs, L, k + 1, w, h, e => by
    simp only [OwnsO] at h
    simp only [List.getElem?_cons_succ] at e
    obtain ⟨h1, h2⟩ := h
    obtain ⟨v, La, Lm, Lb, e1, e2, e3, e4⟩ := OwnsO.get h2 e
    subst e2
    refine ⟨v, La, Lm, Lb, by simpa using e1, rfl, e3, fun F' H' w' v' Lm' s o => ?_⟩
    simp only [List.set_cons_succ, OwnsO]
    exact ⟨h1, e4 F' H' w' v' Lm' s o⟩
theorem set_get {α : Type} {l : List α} {k : Nat} {x : α} (h : l[k]? = some x) : l.set k x = l := by
  obtain ⟨h1, h2⟩ := List.getElem?_eq_some_iff.mp h
  subst h2
  exact List.set_getElem_self h1
/-- the place of a name that has a value -/
theorem part_name {σ : L2.St} {en : En} {L : List Addr} {i : Nat} {v : V} (h : OwnsO K mg F H en σ L) (hv : σ[i]? = some (some v)) : ∃ w La Lm Lb, PartO K mg F H σ en L i [] w v La Lm Lb := by
  have hi : i < en.length := by
    rw [h.len]
    exact (List.getElem?_eq_some_iff.mp hv).1
  obtain ⟨o, La, Lm, Lb, e1, e2, e3, e4⟩ := h.get (List.getElem?_eq_getElem hi)
  rw [hv] at e1
  cases e1
  rcases e3 with ⟨v', e, e3⟩ | ⟨e, _⟩
  · cases e
    refine ⟨en[i], La, Lm, Lb, by simp [En.get, hi, W.get], e2, e3, fun F' H' w' Lm' s o => ?_⟩
    have q := e4 F' H' w' v Lm' s o
    rw [set_get hv] at q
    have z : en.put i [] w' = en.set i w' := by simp [En.put, hi, W.put]
    rw [z]
    exact q
  · cases e
theorem RR.part {σ : L2.St} {en : En} {L Lr : List Addr} {i : Nat} {p : List Nat} {v : V} (st : StOk K mg F H σ en L) (h : RR K mg F H σ en L (.pl i p) v Lr) : Lr = [] ∧ ∃ w La Lm Lb, PartO K mg F H σ en L i p w v La Lm Lb := by
  cases p with
  | nil =>
    simp only [RR] at h
    exact ⟨h.1, part_name st.own h.2⟩
  | cons k p =>
    simp only [RR] at h
    exact h

/-- a result, looked at -/
def R.d (en : En) : R → Option D
  | .val w => some w.d
  | .pl i p => match en.get i p with
    | some w => some w.d
    | none => none
/-- a result, frozen for good -/
def R.fz (en : En) : R → Option (En × D)
  | .val w => some (en, w.d)
  | .pl i p => match en.get i p with
    | some w => some (en.put i p (.sh w.d), w.d)
    | none => none
/-- a result, taken over: one of its own as it is, a place's frozen -/
def R.tk (en : En) : R → Option (En × W)
  | .val w => some (en, w)
  | .pl i p => match en.get i p with
    | some w => some (en.put i p (.sh w.d), .sh w.d)
    | none => none
/-- a result that other expressions behind it don't move -/
def R.st (en : En) : R → Option (En × R)
  | .val w => some (en, .val w)
  | .pl i [] => some (en, .pl i [])
  | .pl i (k :: p) => match en.get i (k :: p) with
    | some w => some (en.put i (k :: p) (.sh w.d), .val (.sh w.d))
    | none => none
def R.stable : R → Bool
  | .val _ => true
  | .pl _ [] => true
  | .pl _ (_ :: _) => false

variable {σ : L2.St} {en en' : En} {L Lr : List Addr} {r : R} {v : V}
theorem RR.peek {d : D} (st : StOk K mg F H σ en L) (h : RR K mg F H σ en L r v Lr) (e : r.d en = some d) : Rep K mg H d v := by
  cases r with
  | val w =>
    simp only [R.d, Option.some.injEq] at e
    subst e
    simp only [RR] at h
    exact h.seen (seen_H st.sub)
  | pl i p =>
    obtain ⟨_, w, La, Lm, Lb, g, _, o, _⟩ := RR.part st h
    simp only [R.d, g, Option.some.injEq] at e
    subst e
    exact o.seen (seen_H st.sub)
theorem nodup3 {α : Type} {La Lm Lb : List α} (h : (La ++ (Lm ++ Lb)).Nodup) : (La ++ Lb).Nodup ∧ (∀ b ∈ La ++ Lb, b ∉ Lm) := by
  simp only [List.nodup_append, List.mem_append] at h ⊢
  obtain ⟨h1, ⟨h2, h3, h4⟩, h5⟩ := h
  refine ⟨⟨h1, h3, fun a ha b hb => h5 a ha b (.inr hb)⟩, fun b hb hm => ?_⟩
  rcases hb with z | z
  · exact h5 b z b (.inl hm) rfl
  · exact h4 b hm b z rfl
theorem StOk.cell (st : StOk K mg F H σ en L) : ∀ b ∈ L, NoTup (H b) ∧ F b = none := st.own.cell
theorem RR.cell (h : RR K mg F H σ en L r v Lr) : ∀ b ∈ Lr, NoTup (H b) ∧ F b = none := by
  cases r with
  | val w => simp only [RR] at h; exact h.cell
  | pl i p =>
    cases p with
    | nil => simp only [RR] at h; rw [h.1]; simp
    | cons k p => simp only [RR] at h; rw [h.1]; simp
theorem nd_app {α : Type} {A B : List α} (h : (A ++ B).Nodup) : A.Nodup ∧ B.Nodup ∧ (∀ b ∈ A, b ∉ B) := by
  simp only [List.nodup_append] at h
  exact ⟨h.1, h.2.1, fun b hb hb' => h.2.2 b hb b hb' rfl⟩
theorem nd_of {α : Type} {A B : List α} (h1 : A.Nodup) (h2 : B.Nodup) (h3 : ∀ b ∈ A, b ∉ B) : (A ++ B).Nodup := by
  simp only [List.nodup_append]
  exact ⟨h1, h2, fun a ha b hb e => h3 a ha (e ▸ hb)⟩
/-- more of the heap is frozen -/
theorem Ext.freeze {M L' : List Addr} (s : Same F H) (h : ∀ b ∈ M, b ∈ L) (h' : ∀ b ∈ L', b ∈ L) : Ext F H L (addF F H M) H L' where
  kept := fun _ _ e _ _ => e
  tbk := fun _ _ e _ => ⟨_, e⟩
  tab := TabX.of fun _ _ e => e
  there := fun _ e => e
  sub := addF_sub s
  newF := fun a e => by
    by_cases ha : a ∈ M
    · exact .inr (.inl (h a ha))
    · rw [addF_out ha] at e; exact .inl e
  newL := fun a e => .inl (h' a e)
theorem stay_freeze {M N : List Addr} (s : Same F H) (hn : ∀ b ∈ N, F b = none) (hd : ∀ b ∈ N, b ∉ M) : Stay F H (addF F H M) H N :=
  ⟨addF_sub s, fun b hb => by rw [addF_out (hd b hb)]; exact hn b hb, fun _ _ => rfl⟩
theorem TbOk.add {M : List Addr} (t : TbOk F H) (s : Same F H) (h : ∀ b ∈ M, ∀ ps, H b ≠ some (.tbl ps)) : TbOk (addF F H M) H := ⟨t.ok.step (addF_sub s) fun _ _ e => e, fun b ps e => by
  by_cases hb : b ∈ M
  · rw [addF_in hb] at e; exact h b hb ps e
  · rw [addF_out hb] at e; exact t.no b ps e⟩
/-- a place is frozen -/
theorem PartO.freeze {i : Nat} {p : List Nat} {w : W} {La Lm Lb : List Addr} (st : StOk K mg F H σ en L) (h : PartO K mg F H σ en L i p w v La Lm Lb) :
    StOk K mg (addF F H Lm) H σ (en.put i p (.sh w.d)) (La ++ Lb) ∧ Rep K mg (addF F H Lm) w.d v ∧ Ext F H L (addF F H Lm) H (La ++ Lb) := by
  obtain ⟨g, e, o, k⟩ := h
  have nd := st.nd
  have cl := st.cell
  subst e
  obtain ⟨n1, n2⟩ := nodup3 nd
  have rep : Rep K mg (addF F H Lm) w.d v := o.seen (seen_add st.sub fun _ h => h)
  have hs : Stay F H (addF F H Lm) H (La ++ Lb) := stay_freeze st.sub (fun b hb => (cl b (by simp only [List.mem_append] at hb ⊢; rcases hb with z | z <;> simp [z])).2) n2
  refine ⟨⟨addF_le st.sub, n1, ?_, st.tb.add st.sub fun b hb => (o.cell b hb).1.2.2⟩, rep, Ext.freeze st.sub (fun b hb => by simp [hb]) fun b hb => by
    simp only [List.mem_append] at hb ⊢
    rcases hb with z | z <;> simp [z]⟩
  have q := k (addF F H Lm) H (.sh w.d) [] hs (by simp only [Own]; exact ⟨rep, trivial⟩)
  simpa using q
theorem StOk.freeze {M : List Addr} (st : StOk K mg F H σ en L) (h : ∀ b ∈ L, b ∉ M) (hm : ∀ b ∈ M, NoTup (H b)) : StOk K mg (addF F H M) H σ en L :=
  ⟨addF_le st.sub, st.nd, st.own.stay (stay_freeze st.sub (fun b hb => (st.cell b hb).2) h), st.tb.add st.sub fun b hb => (hm b hb).2.2⟩
theorem RR.tk {w : W} (st : StOk K mg F H σ en L) (h : RR K mg F H σ en L r v Lr) (nd : (L ++ Lr).Nodup) (e : r.tk en = some (en', w)) :
    ∃ F' L' Lr', StOk K mg F' H σ en' L' ∧ Own K mg F' H w v Lr' ∧ (L' ++ Lr').Nodup ∧ Ext F H (L ++ Lr) F' H (L' ++ Lr') := by
  cases r with
  | val w =>
    simp only [R.tk, Option.some.injEq, Prod.mk.injEq] at e
    obtain ⟨rfl, rfl⟩ := e
    simp only [RR] at h
    exact ⟨F, L, Lr, st, h, nd, Ext.refl⟩
  | pl i p =>
    obtain ⟨rfl, w1, La, Lm, Lb, P⟩ := RR.part st h
    have g := P.1
    simp only [R.tk, g, Option.some.injEq, Prod.mk.injEq] at e
    obtain ⟨rfl, rfl⟩ := e
    obtain ⟨s1, s2, s3⟩ := P.freeze st
    refine ⟨_, La ++ Lb, [], s1, by simp only [Own]; exact ⟨s2, trivial⟩, by simpa using s1.nd, ?_⟩
    simpa using s3
theorem RR.fz {d : D} (st : StOk K mg F H σ en L) (h : RR K mg F H σ en L r v Lr) (nd : (L ++ Lr).Nodup) (e : r.fz en = some (en', d)) :
    ∃ F' L', StOk K mg F' H σ en' L' ∧ Rep K mg F' d v ∧ Ext F H (L ++ Lr) F' H L' := by
  cases r with
  | val w =>
    simp only [R.fz, Option.some.injEq, Prod.mk.injEq] at e
    obtain ⟨rfl, rfl⟩ := e
    simp only [RR] at h
    exact ⟨addF F H Lr, L, st.freeze (nd_app nd).2.2 (fun b hb => (h.cell b hb).1), h.seen (seen_add st.sub fun _ h => h), Ext.freeze st.sub (fun b hb => by simp [hb]) fun b hb => by simp [hb]⟩
  | pl i p =>
    obtain ⟨rfl, w1, La, Lm, Lb, P⟩ := RR.part st h
    have g := P.1
    simp only [R.fz, g, Option.some.injEq, Prod.mk.injEq] at e
    obtain ⟨rfl, rfl⟩ := e
    obtain ⟨s1, s2, s3⟩ := P.freeze st
    exact ⟨_, La ++ Lb, s1, s2, by simpa using s3⟩
theorem RR.st {r' : R} (st : StOk K mg F H σ en L) (h : RR K mg F H σ en L r v Lr) (nd : (L ++ Lr).Nodup) (e : r.st en = some (en', r')) :
    ∃ F' L' Lr', StOk K mg F' H σ en' L' ∧ RR K mg F' H σ en' L' r' v Lr' ∧ (L' ++ Lr').Nodup ∧ Ext F H (L ++ Lr) F' H (L' ++ Lr') ∧ r'.stable = true := by
  cases r with
  | val w =>
    simp only [R.st, Option.some.injEq, Prod.mk.injEq] at e
    obtain ⟨rfl, rfl⟩ := e
    exact ⟨F, L, Lr, st, h, nd, Ext.refl, rfl⟩
  | pl i p =>
    cases p with
    | nil =>
      simp only [R.st, Option.some.injEq, Prod.mk.injEq] at e
      obtain ⟨rfl, rfl⟩ := e
      exact ⟨F, L, Lr, st, h, nd, Ext.refl, rfl⟩
    | cons k p =>
      obtain ⟨rfl, w1, La, Lm, Lb, P⟩ := RR.part st h
      have g := P.1
      simp only [R.st, g, Option.some.injEq, Prod.mk.injEq] at e
      obtain ⟨rfl, rfl⟩ := e
      obtain ⟨s1, s2, s3⟩ := P.freeze st
      refine ⟨_, La ++ Lb, [], s1, by simp only [RR, Own]; exact ⟨s2, trivial⟩, by simpa using s1.nd, ?_, rfl⟩
      simpa using s3
/-- a stable result stays what it is -/
theorem RR.keep {F' H' : Hp} {L' M : List Addr} (h : RR K mg F H σ en L r v Lr) (hs : r.stable = true) (x : Ext F H M F' H' L') (nd : ∀ b ∈ Lr, b ∉ M) : RR K mg F' H' σ en' L' r v Lr := by
  cases r with
  | val w =>
    simp only [RR] at h ⊢
    exact h.stay (x.stay fun b hb => ⟨nd b hb, h.cell b hb⟩)
  | pl i p =>
    cases p with
    | nil => simpa only [RR] using h
    | cons k p => cases hs
end
abbrev FE := En → Option (En × R)
section
variable (K : PySem.W.Frag) (mg : Str → Option Value)
def tS (f : FE) : TE := fun σ H Q => ∃ F en L en' r, StOk K mg F H σ en L ∧ f en = some (en', r) ∧
  ∀ v F' H' L' Lr, StOk K mg F' H' σ en' L' → RR K mg F' H' σ en' L' r v Lr → (L' ++ Lr).Nodup → Ext F H L F' H' (L' ++ Lr) → Q v H'
def RRs (F H : Hp) (σ : L2.St) (en : En) (L : List Addr) : List R → List V → List Addr → Prop
  | [], [], Lr => Lr = []
  | r :: rs, v :: vs, Lr => ∃ L1 L2, Lr = L1 ++ L2 ∧ RR K mg F H σ en L r v L1 ∧ RRs F H σ en L rs vs L2
  | [], _ :: _, _ => False
  | _ :: _, [], _ => False
/-- expressions from the left -/
def evs : List FE → En → Option (En × List R)
  | [], en => some (en, [])
  | f :: fs, en => match f en with
    | none => none
    | some (en1, r) => match r.st en1 with
      | none => none
      | some (en2, r') => match evs fs en2 with
        | none => none
        | some (en3, rs) => some (en3, r' :: rs)
def tEv (fs : List FE) : TA := fun σ H Q => ∃ F en L en' rs, StOk K mg F H σ en L ∧ evs fs en = some (en', rs) ∧
  ∀ vs F' H' L' Lr, StOk K mg F' H' σ en' L' → RRs K mg F' H' σ en' L' rs vs Lr → (L' ++ Lr).Nodup → Ext F H L F' H' (L' ++ Lr) → Q vs H'
end
abbrev SE (X : Cx) (e : Expr) (f : FE) : Prop := PE X e (tS X.K X.mg f)
abbrev SA (X : Cx) (es : List Expr) (fs : List FE) : Prop := PA X es (tEv X.K X.mg fs)
theorem pe_imp {X : Cx} {e : Expr} {t t' : TE} (h : PE X e t) (i : ∀ σ H Q, t' σ H Q → t σ H Q) : PE X e t' := ⟨fun pins s σ H Q I q => h.run pins s σ H Q I (i σ H Q q)⟩
theorem pt_imp {X : Cx} {e : Expr} {t t' : TT} (h : PT X e t) (i : ∀ σ H Q, t' σ H Q → t σ H Q) : PT X e t' := ⟨fun pins s σ H Q I q => h.run pins s σ H Q I (i σ H Q q)⟩
theorem pa_imp {X : Cx} {e : List Expr} {t t' : TA} (h : PA X e t) (i : ∀ σ H Q, t' σ H Q → t σ H Q) : PA X e t' := ⟨fun pos pins s σ H Q I q => h.run pos pins s σ H Q I (i σ H Q q)⟩
theorem ps_imp {X : Cx} {e : Stmt} {t t' : TS} (h : PS X e t) (i : ∀ D σ H, t' D σ H → t D σ H) : PS X e t' := ⟨fun pins s σ H D I q => h.run pins s σ H D I (i D σ H q)⟩
theorem pss_imp {X : Cx} {e : List Stmt} {t t' : TS} (h : PSs X e t) (i : ∀ D σ H, t' D σ H → t D σ H) : PSs X e t' := ⟨fun pins s σ H D I q => h.run pins s σ H D I (i D σ H q)⟩

section
variable {K : PySem.W.Frag} {mg : Str → Option Value}
theorem RRs.keep {F H F' H' : Hp} {σ : L2.St} {en en' : En} {L L' M : List Addr} : ∀ {rs : List R} {vs : List V} {Lr : List Addr}, RRs K mg F H σ en L rs vs Lr → (∀ r ∈ rs, r.stable = true) → Ext F H M F' H' L' → (∀ b ∈ Lr, b ∉ M) → RRs K mg F' H' σ en' L' rs vs Lr
  | [], [], _, h, _, _, _ => by simpa only [RRs] using h
  | r :: rs, v :: vs, Lr, h, hs, x, nd => by
    simp only [RRs] at h ⊢
    obtain ⟨L1, L2, e, h1, h2⟩ := h
    subst e
    exact ⟨L1, L2, rfl, h1.keep (hs r (by simp)) x fun b hb => nd b (by simp [hb]), RRs.keep h2 (fun r hr => hs r (by simp [hr])) x fun b hb => nd b (by simp [hb])⟩
  | [], _ :: _, _, h, _, _, _ => by simp only [RRs] at h
  | _ :: _, [], _, h, _, _, _ => by simp only [RRs] at h
theorem tEv_nil {σ : L2.St} {H : Hp} {Q : List V → Hp → Prop} (h : tEv K mg [] σ H Q) : tNil σ H Q := by
  obtain ⟨F, en, L, en', rs, st, e, q⟩ := h
  simp only [evs, Option.some.injEq, Prod.mk.injEq] at e
  obtain ⟨rfl, rfl⟩ := e
  exact q [] F H L [] st (by simp only [RRs]) (by simpa using st.nd) (by simpa using Ext.refl)
theorem tEv_cons {f : FE} {fs : List FE} {σ : L2.St} {H : Hp} {Q : List V → Hp → Prop} (h : tEv K mg (f :: fs) σ H Q) : tCons (tS K mg f) (tEv K mg fs) σ H Q := by
  obtain ⟨F, en, L, en', rs, st, e, q⟩ := h
  simp only [evs] at e
  split at e
  · cases e
  rename_i en1 r ef
  split at e
  · cases e
  rename_i en2 r' es
  split at e
  · cases e
  rename_i en3 rs' eg
  simp only [Option.some.injEq, Prod.mk.injEq] at e
  obtain ⟨rfl, rfl⟩ := e
  refine ⟨F, en, L, en1, r, st, ef, fun v F1 H1 L1 Lr1 st1 rr1 nd1 x1 => ?_⟩
  obtain ⟨F2, L2, Lr2, st2, rr2, nd2, x2, hst⟩ := RR.st st1 rr1 nd1 es
  refine ⟨F2, en2, L2, en3, rs', st2, eg, fun vs F3 H3 L3 Lr3 st3 rr3 nd3 x3 => ?_⟩
  obtain ⟨a1, a2, a3⟩ := nd_app nd2
  obtain ⟨b1, b2, b3⟩ := nd_app nd3
  have dj : ∀ b ∈ Lr2, b ∉ L2 := fun b hb hb' => a3 b hb' hb
  have k2 := rr2.keep (en' := en3) (L' := L3) hst (x3.mem (fun _ h => h) fun a h => by simp [h]) dj
  have ap := x3.apart (M := Lr2) fun b hb => ⟨dj b hb, (rr2.cell b hb).1.1⟩
  refine q (v :: vs) F3 H3 L3 (Lr2 ++ Lr3) st3 (by simp only [RRs]; exact ⟨Lr2, Lr3, rfl, k2, rr3⟩) ?_ ?_
  · refine nd_of b1 (nd_of a2 b2 fun b hb hb' => ap b (by simp [hb']) b hb rfl) fun b hb hb' => ?_
    rcases List.mem_append.mp hb' with z | z
    · exact ap b (by simp [hb]) b z rfl
    · exact b3 b hb z
  · refine (x1.trans (x2.trans (x3.frame Lr2))).mem (fun _ h => h) fun a ha => ?_
    simp only [List.mem_append] at ha ⊢
    rcases ha with z | z | z <;> simp [z]
/-- two in a row, by the list of both -/
theorem tEv_two {f g : FE} {σ : L2.St} {H : Hp} {R : V → V → Hp → Prop} (h : tEv K mg [f, g] σ H fun vs H' => ∃ a b, vs = [a, b] ∧ R a b H') : tS K mg f σ H fun a H1 => tS K mg g σ H1 fun b H2 => R a b H2 := by
  obtain ⟨F, en, L, en1, r, st, ef, k⟩ := tEv_cons h
  refine ⟨F, en, L, en1, r, st, ef, fun v F' H' L' Lr a b c d => ?_⟩
  obtain ⟨F, en, L, en1, r, st, ef, k⟩ := tEv_cons (k v F' H' L' Lr a b c d)
  refine ⟨F, en, L, en1, r, st, ef, fun v2 F' H' L' Lr a b c d => ?_⟩
  obtain ⟨x, y, e, q⟩ := tEv_nil (k v2 F' H' L' Lr a b c d)
  cases e
  exact q
theorem tEv_one {f : FE} {σ : L2.St} {H : Hp} {R : V → Hp → Prop} (h : tEv K mg [f] σ H fun vs H' => ∃ a, vs = [a] ∧ R a H') : tS K mg f σ H fun a H1 => R a H1 := by
  obtain ⟨F, en, L, en1, r, st, ef, k⟩ := tEv_cons h
  refine ⟨F, en, L, en1, r, st, ef, fun v F' H' L' Lr a b c d => ?_⟩
  obtain ⟨x, e, q⟩ := tEv_nil (k v F' H' L' Lr a b c d)
  cases e
  exact q
theorem sa_nil {X : Cx} : SA X [] [] := pa_imp pa_nil fun _ _ _ h => tEv_nil h
theorem sa_cons {X : Cx} {e : Expr} {es : List Expr} {f : FE} {fs : List FE} (h1 : SE X e f) (h2 : SA X es fs) (hs : starEach (e :: es) X.env = (false, eval e X.env) :: starEach es X.env := by rfl) : SA X (e :: es) (f :: fs) :=
  pa_imp (pa_cons h1 h2 hs) fun _ _ _ h => tEv_cons h
end
end Pu
namespace Pu
variable [TabN]
open PySem PySem.Spec PyProof.Rows L2
def D.v : D → Option V
  | .non => some .non
  | .bl b => some (.bl b)
  | .int i => some (.int i)
  | .str x => some (.str x)
  | _ => none
section
variable {K : PySem.W.Frag} {mg : Str → Option Value} {F H : Hp}
theorem rep_v {d : D} {v : V} (h : d.v = some v) : Rep K mg F d v := by
  cases d <;> simp only [D.v, Option.some.injEq] at h <;> first | (cases h; done) | (subst h; simp only [Rep])
theorem rep_int {i : Int} {v : V} (h : Rep K mg F (.int i) v) : v = .int i := by simpa only [Rep] using h
theorem rep_bl {i : Bool} {v : V} (h : Rep K mg F (.bl i) v) : v = .bl i := by simpa only [Rep] using h
theorem rep_str {i : Str} {v : V} (h : Rep K mg F (.str i) v) : v = .str i := by simpa only [Rep] using h
theorem rep_non {v : V} (h : Rep K mg F .non v) : v = .non := by simpa only [Rep] using h
theorem own_sh {d : D} {v : V} (h : Rep K mg F d v) : Own K mg F H (.sh d) v [] := by
  simp only [Own]; exact ⟨h, trivial⟩
end
def fC (d : D) : FE := fun en => some (en, .val (.sh d))
theorem se_of_tC {X : Cx} {e : Expr} {d : D} {v : V} (h : PE X e (tC v)) (r : ∀ F, Rep X.K X.mg F d v) : SE X e (fC d) :=
  pe_imp h fun σ H Q q => by
    obtain ⟨F, en, L, en', rr, st, ef, k⟩ := q
    simp only [fC, Option.some.injEq, Prod.mk.injEq] at ef
    obtain ⟨rfl, rfl⟩ := ef
    exact k v F H L [] st (by simp only [RR]; exact own_sh (r F)) (by simpa using st.nd) (by simpa using Ext.refl)
theorem se_int {X : Cx} {i : Int} {j pos} : SE X (.Constant (.int i) j pos) (fC (.int i)) := se_of_tC pe_int fun _ => rep_v rfl
theorem se_bl {X : Cx} {b : Bool} {j pos} : SE X (.Constant (.bool b) j pos) (fC (.bl b)) := se_of_tC pe_bl fun _ => rep_v rfl
theorem se_non {X : Cx} {j pos} : SE X (.Constant .none j pos) (fC .non) := se_of_tC pe_non fun _ => rep_v rfl
theorem se_str {X : Cx} {x : Str} {j pos} : SE X (.Constant (.str x) j pos) (fC (.str x)) := se_of_tC pe_str fun _ => rep_v rfl
def fVar (i : Nat) : FE := fun en => match en[i]? with
  | some (.sh .any) => none
  | some (.sh d) => some (en, .val (.sh d))
  | some _ => some (en, .pl i [])
  | none => none
theorem se_var {X : Cx} {e : Expr} {i : Nat} (h : PE X e (tVar i)) : SE X e (fVar i) :=
  pe_imp h fun σ H Q q => by
    obtain ⟨F, en, L, en', rr, st, ef, k⟩ := q
    unfold fVar at ef
    cases hw : en[i]? with
    | none => rw [hw] at ef; cases ef
    | some w =>
      rw [hw] at ef
      obtain ⟨o, La, Lm, Lb, e1, e2, e3, e4⟩ := st.own.get hw
      rcases e3 with ⟨v, rfl, ho⟩ | ⟨_, rfl, _⟩
      · refine ⟨v, e1, ?_⟩
        cases w with
        | sh d =>
          have hd : Rep X.K X.mg F d v := by simp only [Own] at ho; exact ho.1
          cases d <;> simp only [Option.some.injEq, Prod.mk.injEq] at ef <;> first
            | (cases ef; done)
            | (obtain ⟨rfl, rfl⟩ := ef
               exact k v F H L [] st (by simp only [RR]; exact own_sh hd) (by simpa using st.nd) (by simpa using Ext.refl))
        | _ =>
          simp only [Option.some.injEq, Prod.mk.injEq] at ef
          obtain ⟨rfl, rfl⟩ := ef
          exact k v F H L [] st (by simp only [RR]; exact ⟨trivial, e1⟩) (by simpa using st.nd) (by simpa using Ext.refl)
      · simp at ef

def rds (en : En) : List R → Option (List D)
  | [] => some []
  | r :: rs => match r.d en, rds en rs with
    | some d, some ds => some (d :: ds)
    | _, _ => none
def rfz : En → List R → Option (En × List D)
  | en, [] => some (en, [])
  | en, r :: rs => match r.fz en with
    | none => none
    | some (en1, d) => match rfz en1 rs with
      | none => none
      | some (en2, ds) => some (en2, d :: ds)
def rtk : En → List R → Option (En × List W)
  | en, [] => some (en, [])
  | en, r :: rs => match r.tk en with
    | none => none
    | some (en1, d) => match rtk en1 rs with
      | none => none
      | some (en2, ds) => some (en2, d :: ds)
section
variable {K : PySem.W.Frag} {mg : Str → Option Value} {σ : L2.St}
theorem RRs.peek {F H : Hp} {en : En} {L : List Addr} (st : StOk K mg F H σ en L) : ∀ {rs : List R} {vs : List V} {Lr : List Addr} {ds : List D}, RRs K mg F H σ en L rs vs Lr → rds en rs = some ds → Reps K mg H ds vs
  | [], [], _, ds, _, e => by
    simp only [rds, Option.some.injEq] at e
    subst e
    simp only [Reps]
  | r :: rs, v :: vs, Lr, ds, h, e => by
    simp only [RRs] at h
    obtain ⟨L1, L2, e0, h1, h2⟩ := h
    simp only [rds] at e
    split at e
    · rename_i d ds' e1 e2
      cases e
      simp only [Reps]
      exact ⟨h1.peek st e1, RRs.peek st h2 e2⟩
    · cases e
  | [], _ :: _, _, _, h, _ => by simp only [RRs] at h
  | _ :: _, [], _, _, h, _ => by simp only [RRs] at h
theorem Reps.append {F : Hp} : ∀ {ds es : List D} {vs us : List V}, Reps K mg F ds vs → Reps K mg F es us → Reps K mg F (ds ++ es) (vs ++ us)
  | [], es, [], us, _, h => h
  | d :: ds, es, v :: vs, us, h, h' => by
    simp only [Reps, List.cons_append] at h ⊢
    exact ⟨h.1, h.2.append h'⟩
  | [], _, _ :: _, _, h, _ => by simp only [Reps] at h
  | _ :: _, _, [], _, h, _ => by simp only [Reps] at h
theorem Reps.len {F : Hp} : ∀ {ds : List D} {vs : List V}, Reps K mg F ds vs → ds.length = vs.length
  | [], [], _ => rfl
  | d :: ds, v :: vs, h => by
    simp only [Reps] at h
    simp [h.2.len]
  | [], _ :: _, h => by simp only [Reps] at h
  | _ :: _, [], h => by simp only [Reps] at h
theorem Owns.len {F H : Hp} : ∀ {ws : List W} {vs : List V} {L : List Addr}, Owns K mg F H ws vs L → ws.length = vs.length
  | [], [], _, _ => rfl
  | w :: ws, v :: vs, _, h => by
    simp only [Owns] at h
    obtain ⟨_, _, _, _, h2⟩ := h
    simp [h2.len]
  | [], _ :: _, _, h => by simp only [Owns] at h
  | _ :: _, [], _, h => by simp only [Owns] at h
theorem RRs.fz : ∀ {rs : List R} {vs : List V} {F H : Hp} {en en' : En} {L Lr : List Addr} {ds : List D}, StOk K mg F H σ en L → RRs K mg F H σ en L rs vs Lr → (∀ r ∈ rs, r.stable = true) → (L ++ Lr).Nodup → rfz en rs = some (en', ds) →
    ∃ F' L', StOk K mg F' H σ en' L' ∧ Reps K mg F' ds vs ∧ Ext F H (L ++ Lr) F' H L'
  | [], [], F, H, en, en', L, Lr, ds, st, h, _, nd, e => by
    simp only [rfz, Option.some.injEq, Prod.mk.injEq] at e
    obtain ⟨rfl, rfl⟩ := e
    exact ⟨F, L, st, by simp only [Reps], Ext.refl.mem (fun _ h => by simp [h]) fun _ h => h⟩
  | r :: rs, v :: vs, F, H, en, en', L, Lr, ds, st, h, hs, nd, e => by
    simp only [RRs] at h
    obtain ⟨L1, L2, e0, h1, h2⟩ := h
    subst e0
    simp only [rfz] at e
    split at e
    · cases e
    rename_i en1 d e1
    split at e
    · cases e
    rename_i en2 ds' e2
    cases e
    have nd1 : (L ++ L1).Nodup := (nd_app (by simpa using nd : (L ++ L1 ++ L2).Nodup)).1
    have dj : ∀ b ∈ L2, b ∉ L ++ L1 := fun b hb hb' => (nd_app (by simpa using nd : (L ++ L1 ++ L2).Nodup)).2.2 b hb' hb
    have nd2 := (nd_app (by simpa using nd : (L ++ L1 ++ L2).Nodup)).2.1
    obtain ⟨F1, M1, st1, rp1, x1⟩ := h1.fz st nd1 e1
    have k2 := RRs.keep (en' := en1) (L' := M1) h2 (fun r hr => hs r (by simp [hr])) x1 dj
    have cell2 : ∀ b ∈ L2, H b ≠ none := by
      have gen : ∀ {rs : List R} {vs : List V} {Lr : List Addr}, RRs K mg F H σ en L rs vs Lr → ∀ b ∈ Lr, H b ≠ none := by
        intro rs
        induction rs with
        | nil => intro vs Lr h b hb; cases vs <;> simp only [RRs] at h; rw [h] at hb; cases hb
        | cons r rs ih =>
          intro vs Lr h b hb
          cases vs with
          | nil => simp only [RRs] at h
          | cons v vs =>
            simp only [RRs] at h
            obtain ⟨A, B, e, a1, a2⟩ := h
            subst e
            rcases List.mem_append.mp hb with z | z
            · exact (a1.cell b z).1.1
            · exact ih a2 b z
      exact gen h2
    have ap := x1.apart (M := L2) fun b hb => ⟨dj b hb, cell2 b hb⟩
    obtain ⟨F2, M2, st2, rp2, x2⟩ := RRs.fz st1 k2 (fun r hr => hs r (by simp [hr])) (nd_of st1.nd nd2 fun b hb hb' => ap b hb b hb' rfl) e2
    refine ⟨F2, M2, st2, by simp only [Reps]; exact ⟨rp1.mono x2.sub, rp2⟩, ?_⟩
    exact ((x1.frame L2).trans x2).mem (fun a h => by simpa using h) fun a h => h
  | [], _ :: _, _, _, _, _, _, _, _, _, h, _, _, _ => by simp only [RRs] at h
  | _ :: _, [], _, _, _, _, _, _, _, _, h, _, _, _ => by simp only [RRs] at h
theorem RRs.cell {F H : Hp} {en : En} {L : List Addr} : ∀ {rs : List R} {vs : List V} {Lr : List Addr}, RRs K mg F H σ en L rs vs Lr → ∀ b ∈ Lr, NoTup (H b) ∧ F b = none
  | [], [], _, h, b, hb => by simp only [RRs] at h; rw [h] at hb; cases hb
  | r :: rs, v :: vs, _, h, b, hb => by
    simp only [RRs] at h
    obtain ⟨A, B, e, a1, a2⟩ := h
    subst e
    rcases List.mem_append.mp hb with z | z
    · exact a1.cell b z
    · exact RRs.cell a2 b z
  | [], _ :: _, _, h, _, _ => by simp only [RRs] at h
  | _ :: _, [], _, h, _, _ => by simp only [RRs] at h
theorem RRs.tk : ∀ {rs : List R} {vs : List V} {F H : Hp} {en en' : En} {L Lr : List Addr} {ws : List W}, StOk K mg F H σ en L → RRs K mg F H σ en L rs vs Lr → (∀ r ∈ rs, r.stable = true) → (L ++ Lr).Nodup → rtk en rs = some (en', ws) →
    ∃ F' L' Lr', StOk K mg F' H σ en' L' ∧ Owns K mg F' H ws vs Lr' ∧ (L' ++ Lr').Nodup ∧ Ext F H (L ++ Lr) F' H (L' ++ Lr')
  | [], [], F, H, en, en', L, Lr, ds, st, h, _, nd, e => by
    simp only [rtk, Option.some.injEq, Prod.mk.injEq] at e
    obtain ⟨rfl, rfl⟩ := e
    exact ⟨F, L, [], st, by simp only [Owns], by simpa using st.nd, Ext.refl.mem (fun _ h => by simpa using Or.inl h) fun _ h => h⟩
  | r :: rs, v :: vs, F, H, en, en', L, Lr, ds, st, h, hs, nd, e => by
    simp only [RRs] at h
    obtain ⟨L1, L2, e0, h1, h2⟩ := h
    subst e0
    simp only [rtk] at e
    split at e
    · cases e
    rename_i en1 d e1
    split at e
    · cases e
    rename_i en2 ds' e2
    cases e
    have nd' : (L ++ L1 ++ L2).Nodup := by simpa using nd
    obtain ⟨nd1, nd2, dj0⟩ := nd_app nd'
    have dj : ∀ b ∈ L2, b ∉ L ++ L1 := fun b hb hb' => dj0 b hb' hb
    obtain ⟨F1, M1, N1, st1, ow1, ndm, x1⟩ := h1.tk st nd1 e1
    have k2 := RRs.keep (en' := en1) (L' := M1) h2 (fun r hr => hs r (by simp [hr])) (x1.mem (fun _ h => h) fun a h => by simp [h]) dj
    have ap := x1.apart (M := L2) fun b hb => ⟨dj b hb, (h2.cell b hb).1.1⟩
    have n2 : (M1 ++ L2).Nodup := nd_of st1.nd nd2 fun b hb hb' => ap b (by simp [hb]) b hb' rfl
    obtain ⟨F2, M2, N2, st2, ow2, ndn, x2⟩ := RRs.tk st1 k2 (fun r hr => hs r (by simp [hr])) n2 e2
    have djN : ∀ b ∈ N1, b ∉ M1 ++ L2 := fun b hb hb' => by
      rcases List.mem_append.mp hb' with z | z
      · exact (nd_app ndm).2.2 b z hb
      · exact ap b (by simp [hb]) b z rfl
    have ow1' := ow1.stay (x2.stay fun b hb => ⟨djN b hb, ow1.cell b hb⟩)
    have ap2 := x2.apart (M := N1) fun b hb => ⟨djN b hb, (ow1.cell b hb).1.1⟩
    refine ⟨F2, M2, N1 ++ N2, st2, by simp only [Owns]; exact ⟨N1, N2, rfl, ow1', ow2⟩, ?_, ?_⟩
    · refine nd_of st2.nd (nd_of (nd_app ndm).2.1 (nd_app ndn).2.1 fun b hb hb' => ap2 b (by simp [hb']) b hb rfl) fun b hb hb' => ?_
      rcases List.mem_append.mp hb' with z | z
      · exact ap2 b (by simp [hb]) b z rfl
      · exact (nd_app ndn).2.2 b hb z
    · refine ((x1.frame L2).trans ((x2.frame N1).mem (M := M1 ++ N1 ++ L2) (fun a h => ?_) fun a h => h)).mem (fun a h => by simpa using h) fun a h => ?_
      · simp only [List.mem_append] at h ⊢
        rcases h with (z | z) | z <;> simp [z]
      · simp only [List.mem_append] at h ⊢
        rcases h with z | z | z <;> simp [z]
  | [], _ :: _, _, _, _, _, _, _, _, _, h, _, _, _ => by simp only [RRs] at h
  | _ :: _, [], _, _, _, _, _, _, _, _, h, _, _, _ => by simp only [RRs] at h

theorem upd_sub {F H : Hp} {p : Addr} {o : HO} (s : Same F H) (h : H p = none) : Same F (upd H p o) := fun b u e => by
  have hb := s b u e
  rw [upd_ne (ne_of_none hb h)]
  exact hb
theorem upd_both {F H : Hp} {p : Addr} {o : HO} (s : Same F H) (h : H p = none) : Same (upd F p o) (upd H p o) := fun b u e => by
  by_cases hb : b = p
  · subst hb; rw [upd_same] at e ⊢; exact e
  · rw [upd_ne hb] at e ⊢; exact s b u e
theorem sub_none {F H : Hp} {p : Addr} (s : Same F H) (h : H p = none) : F p = none := s.free h
/-- laid and frozen -/
theorem lay_frozen {F H : Hp} {en : En} {L : List Addr} {p : Addr} {o : HO} (st : StOk K mg F H σ en L) (h : H p = none) (hn : ∀ ps, o ≠ .tbl ps := by intro ps z; cases z) : StOk K mg (upd F p o) (upd H p o) σ en L ∧ Ext F H L (upd F p o) (upd H p o) L := by
  have hp : ∀ b ∈ L, b ≠ p := fun b hb z => by subst z; exact (st.cell b hb).1.1 h
  refine ⟨⟨upd_both st.sub h, st.nd, st.own.stay ⟨fun b u e => ?_, fun b hb => ?_, fun b hb => ?_⟩, st.tb.lay st.sub h hn⟩, Ext.of (fun a u e _ => ?_) (tbl_new h) (fun a e => ?_) (fun b u e => ?_) (fun a e => ?_) (fun a e => .inl e)⟩
  · rw [upd_ne (ne_of_none (st.sub b u e) h)]; exact e
  · rw [upd_ne (hp b hb)]; exact (st.cell b hb).2
  · rw [upd_ne (hp b hb)]
  · rw [upd_ne (ne_of_none e h)]; exact e
  · by_cases z : a = p
    · subst z; rw [upd_same]; simp
    · rw [upd_ne z]; exact e
  · rw [upd_ne (ne_of_none (st.sub b u e) h)]; exact e
  · by_cases z : a = p
    · subst z; exact .inr (.inr (.inl h))
    · rw [upd_ne z] at e; exact .inl e
/-- laid and owned -/
theorem lay_owned {F H : Hp} {en : En} {L : List Addr} {p : Addr} {o : HO} (st : StOk K mg F H σ en L) (h : H p = none) : StOk K mg F (upd H p o) σ en L ∧ Ext F H L F (upd H p o) (L ++ [p]) := by
  have hp : ∀ b ∈ L, b ≠ p := fun b hb z => by subst z; exact (st.cell b hb).1.1 h
  refine ⟨⟨upd_sub st.sub h, st.nd, st.own.stay ⟨Same.refl F, fun b hb => (st.cell b hb).2, fun b hb => upd_ne (hp b hb)⟩, st.tb.new h⟩, Ext.of (fun a u e _ => ?_) (tbl_new h) (fun a e => ?_) (Same.refl F) (fun a e => .inl e) (fun a e => ?_)⟩
  · rw [upd_ne (ne_of_none e h)]; exact e
  · by_cases z : a = p
    · subst z; rw [upd_same]; simp
    · rw [upd_ne z]; exact e
  · rcases List.mem_append.mp e with z | z
    · exact .inl z
    · have : a = p := by simpa using z
      subst this
      exact .inr h
end
def OpN (K : PySem.W.Frag) (mg : Str → Option Value) (r : List V → Hp → VK → Prop) (g : En → List R → Option (En × R)) : Prop :=
  ∀ (F H : Hp) (σ : L2.St) (en : En) (L : List Addr) (rs : List R) (vs : List V) (Lr : List Addr) (en' : En) (r' : R), StOk K mg F H σ en L → RRs K mg F H σ en L rs vs Lr → (∀ r ∈ rs, r.stable = true) → (L ++ Lr).Nodup → g en rs = some (en', r') →
    ∀ Q : VK, (∀ v F' H' L' Lr', StOk K mg F' H' σ en' L' → RR K mg F' H' σ en' L' r' v Lr' → (L' ++ Lr').Nodup → Ext F H (L ++ Lr) F' H' (L' ++ Lr') → Q v H') → r vs H Q
def gOr (g g' : En → List R → Option (En × R)) : En → List R → Option (En × R) := fun en rs => match g en rs with
  | some x => some x
  | none => g' en rs
theorem OpN.or {K : PySem.W.Frag} {mg : Str → Option Value} {r r' : List V → Hp → VK → Prop} {g g' : En → List R → Option (En × R)} (h : OpN K mg r g) (h' : OpN K mg r' g') :
    OpN K mg (fun vs H Q => r vs H Q ∨ r' vs H Q) (gOr g g') := fun F H σ en L rs vs Lr en' r0 st rr hs nd e Q q => by
  unfold gOr at e
  cases hg : g en rs with
  | some x =>
    simp only [hg] at e
    exact .inl (h F H σ en L rs vs Lr en' r0 st rr hs nd (hg.trans e) Q q)
  | none =>
    simp only [hg] at e
    exact .inr (h' F H σ en L rs vs Lr en' r0 st rr hs nd e Q q)
theorem OpN.imp {K : PySem.W.Frag} {mg : Str → Option Value} {r r' : List V → Hp → VK → Prop} {g : En → List R → Option (En × R)} (h : OpN K mg r g) (i : ∀ vs H Q, r vs H Q → r' vs H Q) : OpN K mg r' g :=
  fun F H σ en L rs vs Lr en' r0 st rr hs nd e Q q => i vs H Q (h F H σ en L rs vs Lr en' r0 st rr hs nd e Q q)
def fN (g : En → List R → Option (En × R)) (fs : List FE) : FE := fun en => match evs fs en with
  | none => none
  | some (en', rs) => g en' rs
theorem evs_stable : ∀ {fs : List FE} {en en' : En} {rs : List R}, evs fs en = some (en', rs) → ∀ r ∈ rs, r.stable = true
  | [], en, en', rs, e, r, hr => by
    simp only [evs, Option.some.injEq, Prod.mk.injEq] at e
    obtain ⟨rfl, rfl⟩ := e
    cases hr
  | f :: fs, en, en', rs, e, r, hr => by
    simp only [evs] at e
    split at e
    · cases e
    split at e
    · cases e
    rename_i en1 r1 _ _ en2 r2 e2
    split at e
    · cases e
    rename_i en3 rs' e3
    cases e
    rcases List.mem_cons.mp hr with rfl | hr
    · cases r1 with
      | val w => simp only [R.st, Option.some.injEq, Prod.mk.injEq] at e2; rw [← e2.2]; rfl
      | pl i p =>
        cases p with
        | nil => simp only [R.st, Option.some.injEq, Prod.mk.injEq] at e2; rw [← e2.2]; rfl
        | cons k p =>
          simp only [R.st] at e2
          split at e2
          · cases e2; rfl
          · cases e2
    · exact evs_stable e3 r hr
section
variable {X : Cx}
/-- an operation behind its operands -/
theorem op_behind {r : List V → Hp → VK → Prop} {g : En → List R → Option (En × R)} {fs : List FE} (o : OpN X.K X.mg r g) {σ : L2.St} {H : Hp} {Q : VK} (h : tS X.K X.mg (fN g fs) σ H Q) : tEv X.K X.mg fs σ H fun vs H' => r vs H' Q := by
  obtain ⟨F, en, L, en', rr, st, ef, k⟩ := h
  unfold fN at ef
  split at ef
  · cases ef
  rename_i en1 rs e1
  refine ⟨F, en, L, en1, rs, st, e1, fun vs F1 H1 L1 Lr1 st1 rr1 nd1 x1 => ?_⟩
  exact o F1 H1 σ en1 L1 rs vs Lr1 en' rr st1 rr1 (evs_stable e1) nd1 ef Q fun v F2 H2 L2 Lr2 st2 rr2 nd2 x2 => k v F2 H2 L2 Lr2 st2 rr2 nd2 (x1.trans x2)
def r2N (r : R2) : List V → Hp → VK → Prop := fun vs H Q => ∃ a b, vs = [a, b] ∧ r a b H Q
def r1N (r : V → Hp → VK → Prop) : List V → Hp → VK → Prop := fun vs H Q => ∃ a, vs = [a] ∧ r a H Q
theorem se_op {op : Operator} {r : R2} {g : En → List R → Option (En × R)} {a b : Expr} {fa fb : FE} {pos : Pos} (ho : OpR X (binaryOp op) r) (o : OpN X.K X.mg (r2N r) g) (ha : SE X a fa) (hb : SE X b fb) : SE X (.BinOp a op b pos) (fN g [fa, fb]) :=
  pe_imp (pe_op ho ha hb) fun σ H Q q => tEv_two (op_behind o q)
theorem se_cmp {op : CmpOp} {r : R2} {g : En → List R → Option (En × R)} {a b : Expr} {fa fb : FE} {pos : Pos} (ho : OpR X (compareOp op) r) (o : OpN X.K X.mg (r2N r) g) (hm : behindInMarks op b = false) (ha : SE X a fa) (hb : SE X b fb) : SE X (.Compare a [op] [b] pos) (fN g [fa, fb]) :=
  pe_imp (pe_cmpR ho ha hb hm) fun σ H Q q => tEv_two (op_behind o q)
theorem se_un {op : UnaryOp} {r : V → Hp → VK → Prop} {g : En → List R → Option (En × R)} {a : Expr} {fa : FE} {pos : Pos} (ho : UnR X (unaryOp op) r) (o : OpN X.K X.mg (r1N r) g) (ha : SE X a fa) : SE X (.UnaryOp op a pos) (fN g [fa]) :=
  pe_imp (pe_un ho ha) fun σ H Q q => tEv_one (op_behind o q)
end
def gS (op : List D → Option D) : En → List R → Option (En × R) := fun en rs => match rds en rs with
  | none => none
  | some ds => match op ds with
    | none => none
    | some d => some (en, .val (.sh d))
def PkS (K : PySem.W.Frag) (mg : Str → Option Value) (r : List V → Hp → VK → Prop) (op : List D → Option D) : Prop :=
  ∀ (ds : List D) (vs : List V) (H : Hp) (d : D), Reps K mg H ds vs → op ds = some d → ∃ v, d.v = some v ∧ ∀ Q : VK, Q v H → r vs H Q
theorem PkS.ok {K : PySem.W.Frag} {mg : Str → Option Value} {r : List V → Hp → VK → Prop} {op : List D → Option D} (h : PkS K mg r op) : OpN K mg r (gS op) := fun F H σ en L rs vs Lr en' r' st rr hs nd e Q q => by
  unfold gS at e
  split at e
  · cases e
  rename_i ds e1
  split at e
  · cases e
  rename_i d e2
  cases e
  obtain ⟨v, hv, k⟩ := h ds vs H d (rr.peek st e1) e2
  exact k Q (q v F H L [] st (by simp only [RR]; exact own_sh (rep_v hv)) (by simpa using st.nd) (by simpa using Ext.refl.mem (fun a h => by simp [h]) fun a h => h))
end Pu
namespace Pu
variable [TabN]
open PySem PySem.Spec PyProof.Rows L2
def oII (C : Int → Int → Bool) (g : Int → Int → D) : List D → Option D
  | [.int i, .int j] => if C i j = true then some (g i j) else none
  | _ => none
section
variable {K : PySem.W.Frag} {mg : Str → Option Value} {H : Hp}
theorem reps2 {a b : D} {vs : List V} (h : Reps K mg H [a, b] vs) : ∃ v w, vs = [v, w] ∧ Rep K mg H a v ∧ Rep K mg H b w := by
  match vs, h with
  | [v, w], h =>
    simp only [Reps] at h
    exact ⟨v, w, rfl, h.1, h.2.1⟩
  | [], h => simp only [Reps] at h
  | [_], h =>
    simp only [Reps] at h
    exact h.2.elim
  | _ :: _ :: _ :: _, h =>
    simp only [Reps] at h
    exact h.2.2.elim
theorem reps1 {a : D} {vs : List V} (h : Reps K mg H [a] vs) : ∃ v, vs = [v] ∧ Rep K mg H a v := by
  match vs, h with
  | [v], h =>
    simp only [Reps] at h
    exact ⟨v, rfl, h.1⟩
  | [], h => simp only [Reps] at h
  | _ :: _ :: _, h =>
    simp only [Reps] at h
    exact h.2.elim
theorem pk_II {r : R2} {C : Int → Int → Bool} {g : Int → Int → D} {gv : Int → Int → V} (hg : ∀ i j, (g i j).v = some (gv i j)) (hr : ∀ i j H Q, C i j = true → Q (gv i j) H → r (.int i) (.int j) H Q) : PkS K mg (r2N r) (oII C g) := by
  intro ds vs H d h e
  unfold oII at e
  split at e
  · rename_i i j
    split at e
    · rename_i hc
      cases e
      obtain ⟨v, w, rfl, h1, h2⟩ := reps2 h
      cases rep_int h1
      cases rep_int h2
      exact ⟨gv i j, hg i j, fun Q q => ⟨_, _, rfl, hr i j H Q hc q⟩⟩
    · cases e
  · cases e
end
def tt2 : Int → Int → Bool := fun _ _ => true
def okMul (i j : Int) : Bool := decide ((-(2 ^ 64) < i ∧ i < 2 ^ 64) ∨ (-(2 ^ 64) < j ∧ j < 2 ^ 64))
def okDiv (_ j : Int) : Bool := decide (0 < j ∧ j < 1073741824)
def okMod (_ j : Int) : Bool := decide (0 < j)
def okPow (i j : Int) : Bool := decide (0 ≤ j ∧ j ≤ 1000000 ∧ i.natAbs < 2 ^ 64)
def oAddI : List D → Option D := oII tt2 fun i j => .int (i + j)
def oSub : List D → Option D := oII tt2 fun i j => .int (i - j)
def oMul : List D → Option D := oII okMul fun i j => .int (i * j)
def oDiv : List D → Option D := oII okDiv fun i j => .int (i / j)
def oMod : List D → Option D := oII okMod fun i j => .int (i % j)
def oPow : List D → Option D := oII okPow fun i j => .int (i ^ j.toNat)
def oLtI : List D → Option D := oII tt2 fun i j => .bl (decide (i < j))
def oLeI : List D → Option D := oII tt2 fun i j => .bl (decide (i ≤ j))
def oGtI : List D → Option D := oII tt2 fun i j => .bl (decide (j < i))
def oGeI : List D → Option D := oII tt2 fun i j => .bl (decide (j ≤ i))
def oAddS : List D → Option D
  | [.str x, .str y] => if x.length + y.length ≤ sizeLine then some (.str (x ++ y)) else none
  | _ => none
def oLtS : List D → Option D
  | [.str x, .str y] => some (.bl (decide (x.cps.toList < y.cps.toList)))
  | _ => none
def oNeg : List D → Option D
  | [.int i] => some (.int (-i))
  | _ => none
section
variable {K : PySem.W.Frag} {mg : Str → Option Value}
theorem pk_addS : PkS K mg (r2N fun x y H Q => ∃ i j, x = .str i ∧ y = .str j ∧ i.length + j.length ≤ sizeLine ∧ Q (.str (i ++ j)) H) oAddS := by
  intro ds vs H d h e
  unfold oAddS at e
  split at e
  · rename_i x y
    split at e
    · rename_i hc
      cases e
      obtain ⟨v, w, rfl, h1, h2⟩ := reps2 h
      cases rep_str h1
      cases rep_str h2
      exact ⟨_, rfl, fun Q q => ⟨_, _, rfl, _, _, rfl, rfl, hc, q⟩⟩
    · cases e
  · cases e
theorem pk_ltS : PkS K mg (r2N fun x y H Q => ∃ i j, x = .str i ∧ y = .str j ∧ Q (.bl (decide (i.cps.toList < j.cps.toList))) H) oLtS := by
  intro ds vs H d h e
  unfold oLtS at e
  split at e
  · rename_i x y
    cases e
    obtain ⟨v, w, rfl, h1, h2⟩ := reps2 h
    cases rep_str h1
    cases rep_str h2
    exact ⟨_, rfl, fun Q q => ⟨_, _, rfl, _, _, rfl, rfl, q⟩⟩
  · cases e
theorem pk_neg : PkS K mg (r1N (rU fun i => .int (-i))) oNeg := by
  intro ds vs H d h e
  unfold oNeg at e
  split at e
  · cases e
    obtain ⟨v, rfl, h1⟩ := reps1 h
    cases rep_int h1
    exact ⟨_, rfl, fun Q q => ⟨_, rfl, _, rfl, q⟩⟩
  · cases e
end
section
variable {X : Cx} {a b : Expr} {fa fb : FE} {pos : Pos}
def fSub (fa fb : FE) : FE := fN (gS oSub) [fa, fb]
def fMul (fa fb : FE) : FE := fN (gS oMul) [fa, fb]
def fDiv (fa fb : FE) : FE := fN (gS oDiv) [fa, fb]
def fMod (fa fb : FE) : FE := fN (gS oMod) [fa, fb]
def fPow (fa fb : FE) : FE := fN (gS oPow) [fa, fb]
def fNeg (fa : FE) : FE := fN (gS oNeg) [fa]
theorem se_sub (ha : SE X a fa) (hb : SE X b fb) : SE X (.BinOp a .Sub b pos) (fSub fa fb) := se_op op_sub (PkS.ok (pk_II (fun _ _ => rfl) fun i j H Q _ q => ⟨_, _, rfl, rfl, q⟩)) ha hb
theorem se_mul (ha : SE X a fa) (hb : SE X b fb) : SE X (.BinOp a .Mult b pos) (fMul fa fb) := se_op op_mul (PkS.ok (pk_II (fun _ _ => rfl) fun i j H Q c q => ⟨_, _, rfl, rfl, by unfold okMul at c; simp only [decide_eq_true_eq] at c; exact c, q⟩)) ha hb
theorem se_div (ha : SE X a fa) (hb : SE X b fb) : SE X (.BinOp a .FloorDiv b pos) (fDiv fa fb) := se_op op_fdiv (PkS.ok (pk_II (fun _ _ => rfl) fun i j H Q c q => ⟨_, _, rfl, rfl, by unfold okDiv at c; simp only [decide_eq_true_eq] at c; exact c, q⟩)) ha hb
theorem se_mod (ha : SE X a fa) (hb : SE X b fb) : SE X (.BinOp a .Mod b pos) (fMod fa fb) := se_op op_mod (PkS.ok (pk_II (fun _ _ => rfl) fun i j H Q c q => ⟨_, _, rfl, rfl, by unfold okMod at c; simp only [decide_eq_true_eq] at c; exact c, q⟩)) ha hb
theorem se_pow (ha : SE X a fa) (hb : SE X b fb) : SE X (.BinOp a .Pow b pos) (fPow fa fb) := se_op op_pow (PkS.ok (pk_II (fun _ _ => rfl) fun i j H Q c q => ⟨_, _, rfl, rfl, by unfold okPow at c; simp only [decide_eq_true_eq] at c; exact c, q⟩)) ha hb
theorem se_neg (ha : SE X a fa) : SE X (.UnaryOp .USub a pos) (fNeg fa) := se_un un_neg (PkS.ok pk_neg) ha
theorem nLt : OpN X.K X.mg (r2N fun x y H Q => rI0 (fun i j => .bl (decide (i < j))) x y H Q ∨ ∃ i j, x = .str i ∧ y = .str j ∧ Q (.bl (decide (i.cps.toList < j.cps.toList))) H) (gOr (gS oLtI) (gS oLtS)) := by
  refine (OpN.or (PkS.ok (pk_II (r := rI0 fun i j => .bl (decide (i < j))) (fun _ _ => rfl) fun i j H Q c q => ⟨_, _, rfl, rfl, q⟩)) (PkS.ok pk_ltS)).imp ?_
  rintro vs H Q (⟨a, b, e, q⟩ | ⟨a, b, e, q⟩)
  · exact ⟨a, b, e, .inl q⟩
  · exact ⟨a, b, e, .inr q⟩
theorem nGt : OpN X.K X.mg (r2N (rI0 fun i j => .bl (decide (j < i)))) (gS oGtI) := PkS.ok (pk_II (fun _ _ => rfl) fun i j H Q c q => ⟨_, _, rfl, rfl, q⟩)
theorem nGe : OpN X.K X.mg (r2N (rI0 fun i j => .bl (decide (j ≤ i)))) (gS oGeI) := PkS.ok (pk_II (fun _ _ => rfl) fun i j H Q c q => ⟨_, _, rfl, rfl, q⟩)
end
mutual
def D.py : D → Option PyData
  | .non => some .none
  | .bl b => some (.bool b)
  | .int i => some (.int i)
  | .str x => some (.str x)
  | .tup ds => match D.pys ds with
    | some ps => some (.tuple ps)
    | none => none
  | .lst ds => match D.pys ds with
    | some ps => some (.list ps)
    | none => none
  | .frl ds => match D.pys ds with
    | some ps => some (.list ps)
    | none => none
  | _ => none
def D.pys : List D → Option (List PyData)
  | [] => some []
  | d :: ds => match D.py d, D.pys ds with
    | some p, some ps => some (p :: ps)
    | _, _ => none
end
section
variable {K : PySem.W.Frag} {mg : Str → Option Value} {H : Hp}
mutual
theorem Rep.dp : ∀ {d : D} {v : V} {p : PyData}, Rep K mg H d v → d.py = some p → Dp K H v p
  | .non, v, p, h, e => by
    simp only [D.py, Option.some.injEq] at e
    subst e
    cases rep_non h
    exact .non
  | .bl b, v, p, h, e => by
    simp only [D.py, Option.some.injEq] at e
    subst e
    cases rep_bl h
    exact .bl b
  | .int b, v, p, h, e => by
    simp only [D.py, Option.some.injEq] at e
    subst e
    cases rep_int h
    exact .int b
  | .str b, v, p, h, e => by
    simp only [D.py, Option.some.injEq] at e
    subst e
    cases rep_str h
    exact .str b
  | .tup ds, v, p, h, e => by
    simp only [D.py] at e
    split at e
    · rename_i ps e1
      cases e
      simp only [Rep] at h
      obtain ⟨a, vs, rfl, h1, h2⟩ := h
      exact .tup h1.1 (Reps.dp h2 e1)
    · cases e
  | .lst ds, v, p, h, e => by
    simp only [D.py] at e
    split at e
    · rename_i ps e1
      cases e
      simp only [Rep] at h
      obtain ⟨a, vs, rfl, h1, h2⟩ := h
      exact .lst (SqL.of h1) (Reps.dp h2 e1)
    · cases e
  | .frl ds, v, p, h, e => by
    simp only [D.py] at e
    split at e
    · rename_i ps e1
      cases e
      simp only [Rep] at h
      obtain ⟨a, vs, rfl, h1, h2⟩ := h
      exact .lst h1 (Reps.dp h2 e1)
    · cases e
  | .any, _, _, _, e => by simp only [D.py] at e; cases e
  | .dT _ _, _, _, _, e => by simp only [D.py] at e; cases e
  | .lT _ _, _, _, _, e => by simp only [D.py] at e; cases e
  | .dK _ _, _, _, _, e => by simp only [D.py] at e; cases e
  | .ins _ _, _, _, _, e => by simp only [D.py] at e; cases e
theorem Reps.dp : ∀ {ds : List D} {vs : List V} {ps : List PyData}, Reps K mg H ds vs → D.pys ds = some ps → DpAll K H vs ps
  | [], [], ps, _, e => by
    simp only [D.pys, Option.some.injEq] at e
    subst e
    exact .nil
  | d :: ds, v :: vs, ps, h, e => by
    simp only [D.pys] at e
    split at e
    · rename_i p ps' e1 e2
      cases e
      simp only [Reps] at h
      exact .cons (Rep.dp h.1 e1) (Reps.dp h.2 e2)
    · cases e
  | [], _ :: _, _, h, _ => by simp only [Reps] at h
  | _ :: _, [], _, h, _ => by simp only [Reps] at h
end
end
def eqD (a b : D) : Option Bool := match a.py, b.py with
  | some p, some q => if SeqAt.shaped p && SeqAt.shaped q then some (PyData.eqv p q) else none
  | _, _ => none
def oEq : List D → Option D
  | [a, b] => match eqD a b with
    | some k => some (.bl k)
    | none => none
  | _ => none
def oNe : List D → Option D
  | [a, b] => match eqD a b with
    | some k => some (.bl (!k))
    | none => none
  | _ => none
def isN : D → Option Bool
  | .any => none
  | .non => some true
  | _ => some false
def oNotN : List D → Option D
  | [a, .non] => match isN a with
    | some k => some (.bl (!k))
    | none => none
  | _ => none
section
variable {K : PySem.W.Frag} {mg : Str → Option Value}
theorem eqD_dp {H : Hp} {a b : D} {v w : V} {k : Bool} (h1 : Rep K mg H a v) (h2 : Rep K mg H b w) (e : eqD a b = some k) : ∃ d e, Dp K H v d ∧ Dp K H w e ∧ SeqAt.shaped d = true ∧ SeqAt.shaped e = true ∧ k = PyData.eqv d e := by
  unfold eqD at e
  split at e
  · rename_i p q e1 e2
    split at e
    · rename_i hs
      cases e
      simp only [Bool.and_eq_true] at hs
      exact ⟨p, q, h1.dp e1, h2.dp e2, hs.1, hs.2, rfl⟩
    · cases e
  · cases e
theorem pk_eq : PkS K mg (r2N (rEqD K)) oEq := by
  intro ds vs H d h e
  unfold oEq at e
  split at e
  · split at e
    · rename_i k e1
      cases e
      obtain ⟨v, w, rfl, h1, h2⟩ := reps2 h
      obtain ⟨p, q, a1, a2, a3, a4, rfl⟩ := eqD_dp h1 h2 e1
      exact ⟨_, rfl, fun Q z => ⟨_, _, rfl, p, q, a1, a2, a3, a4, z⟩⟩
    · cases e
  · cases e
theorem pk_ne : PkS K mg (r2N (rNeD K)) oNe := by
  intro ds vs H d h e
  unfold oNe at e
  split at e
  · split at e
    · rename_i k e1
      cases e
      obtain ⟨v, w, rfl, h1, h2⟩ := reps2 h
      obtain ⟨p, q, a1, a2, a3, a4, rfl⟩ := eqD_dp h1 h2 e1
      exact ⟨_, rfl, fun Q z => ⟨_, _, rfl, p, q, a1, a2, a3, a4, z⟩⟩
    · cases e
  · cases e
theorem isN_ok {H : Hp} {d : D} {v : V} {k : Bool} (h : Rep K mg H d v) (e : isN d = some k) : decide (v = .non) = k := by
  cases d <;> simp only [isN, Option.some.injEq] at e <;> first
    | (cases e; done)
    | (subst e
       simp only [Rep] at h
       first
       | (subst h; simp)
       | (obtain ⟨a, vs, rfl, _⟩ := h; simp)
       | (obtain ⟨a, _, vs, rfl, _⟩ := h; simp)
       | (obtain ⟨a, _, _, vs, rfl, _⟩ := h; simp))
theorem pk_notN : PkS K mg (r2N fun x y H Q => y = .non ∧ Q (.bl (!decide (x = .non))) H) oNotN := by
  intro ds vs H d h e
  unfold oNotN at e
  split at e
  · split at e
    · rename_i k e1
      cases e
      obtain ⟨v, w, rfl, h1, h2⟩ := reps2 h
      cases rep_non h2
      exact ⟨_, rfl, fun Q q => ⟨_, _, rfl, rfl, by rw [isN_ok h1 e1]; exact q⟩⟩
    · cases e
  · cases e
end
def ins (x : D) (ds : List D) : Option Bool := match x.py, D.pys ds with
  | some p, some ps => if SeqAt.shaped p && SeqAt.shaped (.list ps) then some (ps.any fun z => PyData.eqv z p) else none
  | _, _ => none
def oIn : List D → Option D
  | [a, .lst ds] => match ins a ds with
    | some k => some (.bl k)
    | none => none
  | _ => none
def oNotIn : List D → Option D
  | [a, .lst ds] => match ins a ds with
    | some k => some (.bl (!k))
    | none => none
  | _ => none
/-- in a tuple or list of flat things -/
def D.fl : D → Option V
  | .non => some .non
  | .bl b => some (.bl b)
  | .int i => some (.int i)
  | .str x => some (.str x)
  | _ => none
def D.fls : List D → Option (List V)
  | [] => some []
  | d :: ds => match d.fl, D.fls ds with
    | some v, some vs => some (v :: vs)
    | _, _ => none
def insF (x : D) (ds : List D) : Option Bool := match x.fl, D.fls ds with
  | some p, some ps => if flatV p && ps.all flatV then some (inV p ps) else none
  | _, _ => none
def D.items : D → Option (List D)
  | .tup ds => some ds
  | .lst ds => some ds
  | .frl ds => some ds
  | _ => none
def oInF : List D → Option D
  | [a, b] => match b.items with
    | some ds => match insF a ds with
      | some k => some (.bl k)
      | none => none
    | none => none
  | _ => none
def oNotInF : List D → Option D
  | [a, b] => match b.items with
    | some ds => match insF a ds with
      | some k => some (.bl (!k))
      | none => none
    | none => none
  | _ => none
section
variable {K : PySem.W.Frag} {mg : Str → Option Value} {H : Hp}
theorem rep_fl {d : D} {v w : V} (h : Rep K mg H d v) (e : d.fl = some w) : v = w := by
  cases d <;> simp only [D.fl, Option.some.injEq] at e <;> first | (cases e; done) | (subst e; simpa only [Rep] using h)
theorem reps_fl : ∀ {ds : List D} {vs ws : List V}, Reps K mg H ds vs → D.fls ds = some ws → vs = ws
  | [], [], ws, _, e => by simp only [D.fls, Option.some.injEq] at e; exact e
  | d :: ds, v :: vs, ws, h, e => by
    simp only [D.fls] at e
    split at e
    · rename_i p ps e1 e2
      cases e
      simp only [Reps] at h
      rw [rep_fl h.1 e1, reps_fl h.2 e2]
    · cases e
  | [], _ :: _, _, h, _ => by simp only [Reps] at h
  | _ :: _, [], _, h, _ => by simp only [Reps] at h
theorem rep_items {d : D} {v : V} {ds : List D} (h : Rep K mg H d v) (e : d.items = some ds) : ∃ a vs, v = .ref a ∧ (SqL K H a vs ∨ SqT K H a vs) ∧ Reps K mg H ds vs := by
  cases d <;> simp only [D.items, Option.some.injEq] at e <;> first
    | (cases e; done)
    | (subst e
       simp only [Rep] at h
       obtain ⟨a, vs, e1, h1, h2⟩ := h
       first
       | exact ⟨a, vs, e1, .inr h1.1, h2⟩
       | exact ⟨a, vs, e1, .inl h1, h2⟩
       | exact ⟨a, vs, e1, .inl (SqL.of h1), h2⟩)
theorem pk_notInF : PkS K mg (r2N (rIn K true)) oNotInF := by
  intro ds vs H d h e
  unfold oNotInF at e
  split at e
  · split at e
    · rename_i es e0
      split at e
      · rename_i k e1
        cases e
        obtain ⟨v, w, rfl, h1, h2⟩ := reps2 h
        obtain ⟨a, ws, rfl, h3, h4⟩ := rep_items h2 e0
        unfold insF at e1
        split at e1
        · rename_i p ps z1 z2
          split at e1
          · rename_i hf
            cases e1
            simp only [Bool.and_eq_true] at hf
            cases rep_fl h1 z1
            cases reps_fl h4 z2
            exact ⟨_, rfl, fun Q q => ⟨_, _, rfl, a, _, rfl, h3, hf.1, hf.2, q⟩⟩
          · cases e1
        · cases e1
      · cases e
    · cases e
  · cases e
theorem pk_notIn : PkS K mg (r2N (rNotInD K)) oNotIn := by
  intro ds vs H d h e
  unfold oNotIn at e
  split at e
  · split at e
    · rename_i k e1
      cases e
      obtain ⟨v, w, rfl, h1, h2⟩ := reps2 h
      unfold ins at e1
      split at e1
      · rename_i p ps z1 z2
        split at e1
        · rename_i hf
          cases e1
          simp only [Bool.and_eq_true] at hf
          exact ⟨_, rfl, fun Q q => ⟨_, _, rfl, p, ps, h1.dp z1, h2.dp (by simp only [D.py, z2]), hf.1, hf.2, q⟩⟩
        · cases e1
      · cases e1
    · cases e
  · cases e
theorem one_sign {x : Str} {c : Nat} (h : x.cps.toList = [c]) : x = ⟨#[c]⟩ := by
  obtain ⟨cps⟩ := x
  have h' : cps.toList = [c] := h
  congr 1
  exact Array.ext' (by simpa using h')
/-- one sign in a text -/
def oInS : List D → Option D
  | [.str x, .str y] => match x.cps.toList with
    | [c] => some (.bl (decide (c ∈ y.cps.toList)))
    | _ => none
  | _ => none
def oNotInS : List D → Option D
  | [.str x, .str y] => match x.cps.toList with
    | [c] => some (.bl (!decide (c ∈ y.cps.toList)))
    | _ => none
  | _ => none
theorem pk_notInS : PkS K mg (r2N fun x y H Q => ∃ (c : Nat) (z : Str), x = .str ⟨#[c]⟩ ∧ y = .str z ∧ Q (.bl (!decide (c ∈ z.cps.toList))) H) oNotInS := by
  intro ds vs H d h e
  unfold oNotInS at e
  split at e
  · split at e
    · rename_i c hc
      cases e
      obtain ⟨v, w, rfl, h1, h2⟩ := reps2 h
      cases rep_str h1
      cases rep_str h2
      exact ⟨_, rfl, fun Q q => ⟨_, _, rfl, c, _, by rw [one_sign hc], rfl, q⟩⟩
    · cases e
  · cases e
end
end Pu
namespace Pu
variable [TabN]
open PySem PySem.Spec PyProof.Rows L2
def OpU (K : PySem.W.Frag) (mg : Str → Option Value) (r : List V → Hp → VK → Prop) (g : En → R → Option (En × R)) : Prop :=
  ∀ (F H : Hp) (σ : L2.St) (en : En) (L : List Addr) (r0 : R) (v : V) (Lr : List Addr) (en' : En) (r' : R), StOk K mg F H σ en L → RR K mg F H σ en L r0 v Lr → (L ++ Lr).Nodup → g en r0 = some (en', r') →
    ∀ Q : VK, (∀ v F' H' L' Lr', StOk K mg F' H' σ en' L' → RR K mg F' H' σ en' L' r' v Lr' → (L' ++ Lr').Nodup → Ext F H (L ++ Lr) F' H' (L' ++ Lr') → Q v H') → r [v] H Q
def fU (g : En → R → Option (En × R)) (f : FE) : FE := fun en => match f en with
  | none => none
  | some (en', r) => g en' r
theorem OpU.imp {K : PySem.W.Frag} {mg : Str → Option Value} {r r' : List V → Hp → VK → Prop} {g : En → R → Option (En × R)} (h : OpU K mg r g) (i : ∀ vs H Q, r vs H Q → r' vs H Q) : OpU K mg r' g :=
  fun F H σ en L r0 v Lr en' r'' st rr nd e Q q => i _ H Q (h F H σ en L r0 v Lr en' r'' st rr nd e Q q)
def gOrU (g g' : En → R → Option (En × R)) : En → R → Option (En × R) := fun en rs => match g en rs with
  | some x => some x
  | none => g' en rs
theorem OpU.or {K : PySem.W.Frag} {mg : Str → Option Value} {r r' : List V → Hp → VK → Prop} {g g' : En → R → Option (En × R)} (h : OpU K mg r g) (h' : OpU K mg r' g') :
    OpU K mg (fun vs H Q => r vs H Q ∨ r' vs H Q) (gOrU g g') := fun F H σ en L rs vs Lr en' r0 st rr nd e Q q => by
  unfold gOrU at e
  cases hg : g en rs with
  | some x =>
    simp only [hg] at e
    exact .inl (h F H σ en L rs vs Lr en' r0 st rr nd (hg.trans e) Q q)
  | none =>
    simp only [hg] at e
    exact .inr (h' F H σ en L rs vs Lr en' r0 st rr nd e Q q)
def gS1 (op : D → Option D) : En → R → Option (En × R) := fun en r => match r.d en with
  | none => none
  | some a => match op a with
    | none => none
    | some d => some (en, .val (.sh d))
def PkU (K : PySem.W.Frag) (mg : Str → Option Value) (r : List V → Hp → VK → Prop) (op : D → Option D) : Prop :=
  ∀ (a : D) (va : V) (H : Hp) (d : D), Rep K mg H a va → op a = some d → ∃ v, d.v = some v ∧ ∀ Q : VK, Q v H → r [va] H Q
theorem PkU.ok {K : PySem.W.Frag} {mg : Str → Option Value} {r : List V → Hp → VK → Prop} {op : D → Option D} (h : PkU K mg r op) : OpU K mg r (gS1 op) := fun F H σ en L r0 v0 Lr en' r' st rr nd e Q q => by
  unfold gS1 at e
  split at e
  · cases e
  rename_i a e1
  split at e
  · cases e
  rename_i d e2
  cases e
  obtain ⟨v, hv, k⟩ := h a v0 H d (rr.peek st e1) e2
  exact k Q (q v F H L [] st (by simp only [RR]; exact own_sh (rep_v hv)) (by simpa using st.nd) (by simpa using Ext.refl.mem (fun a h => by simp [h]) fun a h => h))
section
variable {X : Cx} {e : Expr} {f : FE}
theorem op1_behind {r : List V → Hp → VK → Prop} {g : En → R → Option (En × R)} (o : OpU X.K X.mg r g) {σ : L2.St} {H : Hp} {Q : VK} (h : tS X.K X.mg (fU g f) σ H Q) : tS X.K X.mg f σ H fun v H' => r [v] H' Q := by
  obtain ⟨F, en, L, en', rr, st, ef, k⟩ := h
  unfold fU at ef
  split at ef
  · cases ef
  rename_i en1 rs e1
  refine ⟨F, en, L, en1, rs, st, e1, fun vs F1 H1 L1 Lr1 st1 rr1 nd1 x1 => ?_⟩
  exact o F1 H1 σ en1 L1 rs vs Lr1 en' rr st1 rr1 nd1 ef Q fun v F2 H2 L2 Lr2 st2 rr2 nd2 x2 => k v F2 H2 L2 Lr2 st2 rr2 nd2 (x1.trans x2)
end
abbrev FT := En → Option (En × Bool)
def tT (K : PySem.W.Frag) (mg : Str → Option Value) (f : FT) : TT := fun σ H Q => ∃ F en L en' b, StOk K mg F H σ en L ∧ f en = some (en', b) ∧
  ∀ F' H' L', StOk K mg F' H' σ en' L' → Ext F H L F' H' L' → Q b H'
abbrev ST (X : Cx) (e : Expr) (f : FT) : Prop := PT X e (tT X.K X.mg f)
abbrev SW (X : Cx) (e : Expr) (f : FT) : Prop := PW X e (tT X.K X.mg f)
theorem pw_imp {X : Cx} {e : Expr} {t t' : TT} (h : PW X e t) (i : ∀ σ H Q, t' σ H Q → t σ H Q) : PW X e t' := ⟨fun whole pins s σ H Q I q => h.run whole pins s σ H Q I (i σ H Q q)⟩
/-- the bool that an expression gives -/
def fTb (f : FE) : FT := fun en => match f en with
  | none => none
  | some (en', r) => match r.d en' with
    | some (.bl b) => some (en', b)
    | _ => none
def truthD : D → Option Bool
  | .non => some false
  | .bl b => some b
  | .int i => some (i != 0)
  | .str x => if x.length ≤ sizeLine then some ((x.length : Int) != 0) else none
  | .tup ds => some (!ds.isEmpty)
  | .lst ds => some (!ds.isEmpty)
  | .frl ds => some (!ds.isEmpty)
  | .dK ks _ => some (!ks.isEmpty)
  | _ => none
/-- an expression's truth -/
def fTr (f : FE) : FT := fun en => match f en with
  | none => none
  | some (en', r) => match r.d en' with
    | none => none
    | some d => match truthD d with
      | none => none
      | some b => some (en', b)
section
variable {K : PySem.W.Frag} {mg : Str → Option Value}
theorem truth_ok {H : Hp} {d : D} {v : V} {k : Bool} (h : Rep K mg H d v) (e : truthD d = some k) : TruV K v H k := by
  have emp : ∀ {ds : List D} {vs : List V}, Reps K mg H ds vs → (!ds.isEmpty) = !vs.isEmpty := fun {ds vs} h => by
    cases ds <;> cases vs <;> first | rfl | simp only [Reps] at h
  cases d with
  | non => simp only [truthD, Option.some.injEq] at e; subst e; cases rep_non h; rfl
  | bl b => simp only [truthD, Option.some.injEq] at e; subst e; cases rep_bl h; rfl
  | int i => simp only [truthD, Option.some.injEq] at e; subst e; cases rep_int h; rfl
  | str x =>
    simp only [truthD] at e
    split at e
    · rename_i hx
      cases e
      cases rep_str h
      exact ⟨hx, rfl⟩
    · cases e
  | tup ds =>
    simp only [truthD, Option.some.injEq] at e
    subst e
    simp only [Rep] at h
    obtain ⟨a, vs, rfl, h1, h2⟩ := h
    exact .inr (.inl ⟨vs, h1.1, emp h2⟩)
  | lst ds =>
    simp only [truthD, Option.some.injEq] at e
    subst e
    simp only [Rep] at h
    obtain ⟨a, vs, rfl, h1, h2⟩ := h
    exact .inl ⟨vs, SqL.of h1, emp h2⟩
  | frl ds =>
    simp only [truthD, Option.some.injEq] at e
    subst e
    simp only [Rep] at h
    obtain ⟨a, vs, rfl, h1, h2⟩ := h
    exact .inl ⟨vs, h1, emp h2⟩
  | dK ks ds =>
    simp only [truthD, Option.some.injEq] at e
    subst e
    simp only [Rep] at h
    obtain ⟨a, kws, rfl, h1, h2, h3⟩ := h
    refine .inr (.inr ⟨kws, h1, ?_⟩)
    rw [← h2]
    cases kws <;> rfl
  | any => cases e
  | dT _ _ => cases e
  | lT _ _ => cases e
  | ins _ _ => cases e
theorem drop_temp {F H F' H' : Hp} {L L' Lr : List Addr} (x : Ext F H L F' H' (L' ++ Lr)) : Ext F H L F' H' L' := x.mem (fun _ h => h) fun a h => by simp [h]
theorem tTb {f : FE} {σ : L2.St} {H : Hp} {Q : Bool → Hp → Prop} (h : tT K mg (fTb f) σ H Q) : tS K mg f σ H fun x H' => ∃ k, x = .bl k ∧ Q k H' := by
  obtain ⟨F, en, L, en', b, st, e, q⟩ := h
  unfold fTb at e
  split at e
  · cases e
  rename_i en1 r e1
  split at e
  · rename_i b' e2
    cases e
    exact ⟨F, en, L, _, r, st, e1, fun v F' H' L' Lr st' rr nd x => ⟨b, rep_bl (rr.peek st' e2), q F' H' L' st' (drop_temp x)⟩⟩
  · cases e
theorem tTr {f : FE} {σ : L2.St} {H : Hp} {Q : Bool → Hp → Prop} (h : tT K mg (fTr f) σ H Q) : tS K mg f σ H fun x H' => ∃ k, TruV K x H' k ∧ Q k H' := by
  obtain ⟨F, en, L, en', b, st, e, q⟩ := h
  unfold fTr at e
  split at e
  · cases e
  rename_i en1 r e1
  split at e
  · cases e
  rename_i d e2
  split at e
  · cases e
  rename_i b' e3
  cases e
  exact ⟨F, en, L, _, r, st, e1, fun v F' H' L' Lr st' rr nd x => ⟨b, truth_ok (rr.peek st' e2) e3, q F' H' L' st' (drop_temp x)⟩⟩
end
section
variable {X : Cx} {a b c : Expr} {fa fb fc : FE} {ta tb : FT} {pos : Pos}
/-- an expression whose test is its truth -/
theorem st_tr (h : SE X a fa) (he : ∀ whole, isTrue a X.env whole = (do let v ← whole; standAt a.pos; holding [v] (truthy v)) := by intro _; rfl) : ST X a (fTr fa) := pt_imp (pt_truth h he) fun _ _ _ q => tTr q
theorem st_cmp {op : CmpOp} {r : R2} {g : En → List R → Option (En × R)} (ho : OpR X (compareOp op) r) (o : OpN X.K X.mg (r2N r) g) (hm : behindInMarks op b = false) (ha : SE X a fa) (hb : SE X b fb) : ST X (.Compare a [op] [b] pos) (fTb (fN g [fa, fb])) :=
  pt_imp (pt_cmpR ho ha hb hm) fun σ H Q q => tEv_two (op_behind o (tTb q))
def fNotT (t : FT) : FT := fun en => match t en with
  | none => none
  | some (en', b) => some (en', !b)
theorem st_not (h : ST X a ta) : ST X (.UnaryOp .Not a pos) (fNotT ta) := pt_imp (pt_not h) fun σ H Q q => by
  obtain ⟨F, en, L, en', b, st, e, q⟩ := q
  unfold fNotT at e
  split at e
  · cases e
  rename_i en1 b1 e1
  cases e
  exact ⟨F, en, L, _, b1, st, e1, q⟩
def fAndT (t u : FT) : FT := fun en => match t en with
  | none => none
  | some (en', b) => if b = true then u en' else some (en', false)
def fOrT (t u : FT) : FT := fun en => match t en with
  | none => none
  | some (en', b) => if b = true then some (en', true) else u en'
theorem sw_or1 (h : ST X a ta) : SW X (.BoolOp .Or [a] pos) ta := pw_or1 h
theorem sw_or {rest : List Expr} (h : ST X a ta) (h2 : SW X (.BoolOp .Or (b :: rest) pos) tb) : SW X (.BoolOp .Or (a :: b :: rest) pos) (fOrT ta tb) := pw_imp (pw_or h h2) fun σ H Q q => by
  obtain ⟨F, en, L, en', k, st, e, q⟩ := q
  unfold fOrT at e
  split at e
  · cases e
  rename_i en1 b1 e1
  refine ⟨F, en, L, en1, b1, st, e1, fun F1 H1 L1 st1 x1 => ?_⟩
  cases b1 with
  | true =>
    rw [if_pos rfl] at e ⊢
    cases e
    exact q F1 H1 L1 st1 x1
  | false =>
    rw [if_neg Bool.false_ne_true] at e ⊢
    exact ⟨F1, en1, L1, en', k, st1, e, fun F2 H2 L2 st2 x2 => q F2 H2 L2 st2 (x1.trans x2)⟩
theorem st_w (h : SW X a ta) : ST X a ta := h.pt
def fOrV (f g : FE) : FE := fun en => match f en with
  | none => none
  | some (en', r) => match r.d en' with
    | none => none
    | some d => match truthD d with
      | none => none
      | some b => if b = true then some (en', r) else g en'
def fAndV (f g : FE) : FE := fun en => match f en with
  | none => none
  | some (en', r) => match r.d en' with
    | none => none
    | some d => match truthD d with
      | none => none
      | some b => if b = true then g en' else some (en', r)
theorem se_one {op} (h : SE X a fa) : SE X (.BoolOp op [a] pos) fa := pe_one h
theorem se_or {rest : List Expr} (ha : SE X a fa) (hb : SE X (.BoolOp .Or (b :: rest) pos) fb) : SE X (.BoolOp .Or (a :: b :: rest) pos) (fOrV fa fb) := pe_imp (pe_orT ha hb) fun σ H Q q => by
  obtain ⟨F, en, L, en', r0, st, e, q⟩ := q
  unfold fOrV at e
  split at e
  · cases e
  rename_i en1 r e1
  split at e
  · cases e
  rename_i d e2
  split at e
  · cases e
  rename_i k e3
  refine ⟨F, en, L, en1, r, st, e1, fun v F1 H1 L1 Lr st1 rr nd x1 => ⟨k, truth_ok (rr.peek st1 e2) e3, ?_⟩⟩
  cases k with
  | true =>
    rw [if_pos rfl] at e ⊢
    cases e
    exact q v F1 H1 L1 Lr st1 rr nd x1
  | false =>
    rw [if_neg Bool.false_ne_true] at e ⊢
    exact ⟨F1, en1, L1, en', r0, st1, e, fun v F2 H2 L2 Lr2 st2 rr2 nd2 x2 => q v F2 H2 L2 Lr2 st2 rr2 nd2 ((drop_temp x1).trans x2)⟩
def oNotV (d : D) : Option D := match truthD d with
  | some k => some (.bl (!k))
  | none => none
def fNotV (f : FE) : FE := fU (gS1 oNotV) f
def fIf (t : FT) (f g : FE) : FE := fun en => match t en with
  | none => none
  | some (en', b) => if b = true then f en' else g en'
theorem se_if (hc : ST X c ta) (ha : SE X a fa) (hb : SE X b fb) : SE X (.IfExp c a b pos) (fIf ta fa fb) := pe_imp (pe_ifExp hc ha hb) fun σ H Q q => by
  obtain ⟨F, en, L, en', r0, st, e, q⟩ := q
  unfold fIf at e
  split at e
  · cases e
  rename_i en1 k e1
  refine ⟨F, en, L, en1, k, st, e1, fun F1 H1 L1 st1 x1 => ?_⟩
  cases k with
  | true =>
    rw [if_pos rfl] at e ⊢
    exact ⟨F1, en1, L1, en', r0, st1, e, fun v F2 H2 L2 Lr2 st2 rr2 nd2 x2 => q v F2 H2 L2 Lr2 st2 rr2 nd2 (x1.trans x2)⟩
  | false =>
    rw [if_neg Bool.false_ne_true] at e ⊢
    exact ⟨F1, en1, L1, en', r0, st1, e, fun v F2 H2 L2 Lr2 st2 rr2 nd2 x2 => q v F2 H2 L2 Lr2 st2 rr2 nd2 (x1.trans x2)⟩
def gIn : En → List R → Option (En × R) := gOr (gS oInS) (gOr (gS oInF) (gS oIn))
def gNotIn : En → List R → Option (En × R) := gOr (gS oNotInS) (gOr (gS oNotInF) (gS oNotIn))
theorem OpN.r2 {r r' : R2} {g g' : En → List R → Option (En × R)} (h : OpN X.K X.mg (r2N r) g) (h' : OpN X.K X.mg (r2N r') g') : OpN X.K X.mg (r2N fun x y H Q => r x y H Q ∨ r' x y H Q) (gOr g g') :=
  (h.or h').imp fun vs H Q q => by
    rcases q with ⟨a, b, e, q⟩ | ⟨a, b, e, q⟩
    · exact ⟨a, b, e, .inl q⟩
    · exact ⟨a, b, e, .inr q⟩
section
variable (hu : X.A.units + 65 < cLine)
include hu
theorem st_notin (ha : SE X a fa) (hb : SE X b fb) (hm : behindInMarks .NotIn b = false := by rfl) : ST X (.Compare a [.NotIn] [b] pos) (fTb (fN gNotIn [fa, fb])) :=
  st_cmp (op_notIn_sign.or (op_notIn_seq.or (op_notInD hu))) ((PkS.ok pk_notInS).r2 ((PkS.ok pk_notInF).r2 (PkS.ok pk_notIn))) hm ha hb
theorem se_eq (ha : SE X a fa) (hb : SE X b fb) : SE X (.Compare a [.Eq] [b] pos) (fN (gS oEq) [fa, fb]) := se_cmp (op_eqD (by omega)) (PkS.ok pk_eq) (nomark _) ha hb
theorem st_eq (ha : SE X a fa) (hb : SE X b fb) : ST X (.Compare a [.Eq] [b] pos) (fTb (fN (gS oEq) [fa, fb])) := st_cmp (op_eqD (by omega)) (PkS.ok pk_eq) (nomark _) ha hb
theorem st_ne (ha : SE X a fa) (hb : SE X b fb) : ST X (.Compare a [.NotEq] [b] pos) (fTb (fN (gS oNe) [fa, fb])) := st_cmp (op_neD (by omega)) (PkS.ok pk_ne) (nomark _) ha hb
end
def gLt : En → List R → Option (En × R) := gOr (gS oLtI) (gS oLtS)
theorem st_lt (ha : SE X a fa) (hb : SE X b fb) : ST X (.Compare a [.Lt] [b] pos) (fTb (fN gLt [fa, fb])) := st_cmp (op_lt.or op_lt_str) nLt (nomark _) ha hb
theorem st_gt (ha : SE X a fa) (hb : SE X b fb) : ST X (.Compare a [.Gt] [b] pos) (fTb (fN (gS oGtI) [fa, fb])) := st_cmp op_gt nGt (nomark _) ha hb
theorem se_ge (ha : SE X a fa) (hb : SE X b fb) : SE X (.Compare a [.GtE] [b] pos) (fN (gS oGeI) [fa, fb]) := se_cmp op_ge nGe (nomark _) ha hb
theorem st_notN (ha : SE X a fa) (hb : SE X b fb) : ST X (.Compare a [.IsNot] [b] pos) (fTb (fN (gS oNotN) [fa, fb])) := st_cmp op_notN (PkS.ok pk_notN) (nomark _) ha hb
end
end Pu
namespace Pu
variable [TabN]
open PySem PySem.Spec PyProof.Rows L2
section
variable {K : PySem.W.Frag} {mg : Str → Option Value}
theorem rep_tup {F H : Hp} {p : Addr} {ds : List D} {vs : List V} (s : Same F H) (h : H p = none) (r : Reps K mg F ds vs) : Rep K mg (upd F p (.tup vs)) (.tup ds) (.ref p) := by
  simp only [Rep]
  refine ⟨p, vs, rfl, .of upd_same, r.mono fun b u e => ?_⟩
  rw [upd_ne (ne_of_none (s b u e) h)]
  exact e
/-- a frozen tuple is laid -/
theorem lay_tup {F H : Hp} {σ : L2.St} {en : En} {L : List Addr} {p : Addr} {ds : List D} {vs : List V} (st : StOk K mg F H σ en L) (h : H p = none) (r : Reps K mg F ds vs) :
    StOk K mg (upd F p (.tup vs)) (upd H p (.tup vs)) σ en L ∧ RR K mg (upd F p (.tup vs)) (upd H p (.tup vs)) σ en L (.val (.sh (.tup ds))) (.ref p) [] ∧ (L ++ []).Nodup ∧ Ext F H L (upd F p (.tup vs)) (upd H p (.tup vs)) (L ++ []) := by
  obtain ⟨a, b⟩ := lay_frozen (o := .tup vs) st h
  exact ⟨a, by simp only [RR]; exact own_sh (rep_tup st.sub h r), by simpa using st.nd, by simpa using b⟩
theorem owns_sh {F H : Hp} : ∀ {ds : List D} {vs : List V}, Reps K mg F ds vs → Owns K mg F H (ds.map W.sh) vs []
  | [], [], _ => by simp only [List.map_nil, Owns]
  | d :: ds, v :: vs, h => by
    simp only [Reps] at h
    simp only [List.map_cons, Owns]
    exact ⟨[], [], rfl, own_sh h.1, owns_sh h.2⟩
  | [], _ :: _, h => by simp only [Reps] at h
  | _ :: _, [], h => by simp only [Reps] at h
/-- an owned list is laid -/
theorem lay_list {F H : Hp} {σ : L2.St} {en : En} {L Lr : List Addr} {p : Addr} {ws : List W} {vs : List V} (st : StOk K mg F H σ en L) (h : H p = none) (r : Owns K mg F H ws vs Lr) (nd : (L ++ Lr).Nodup) :
    StOk K mg F (upd H p (.lst vs)) σ en L ∧ RR K mg F (upd H p (.lst vs)) σ en L (.val (.lst ws)) (.ref p) (p :: Lr) ∧ (L ++ p :: Lr).Nodup ∧ Ext F H (L ++ Lr) F (upd H p (.lst vs)) (L ++ p :: Lr) := by
  obtain ⟨a, ex⟩ := lay_owned (o := .lst vs) st h
  have hp : ∀ c ∈ Lr, c ≠ p := fun c hc z => (r.cell c hc).1.1 (z ▸ h)
  have hpL : p ∉ L := fun z => (st.cell p z).1.1 h
  obtain ⟨n1, n2, n3⟩ := nd_app nd
  refine ⟨a, ?_, ?_, ?_⟩
  · simp only [RR, Own]
    exact ⟨p, vs, Lr, rfl, upd_same, sub_none st.sub h, rfl, r.stay ⟨Same.refl F, fun b hb => (r.cell b hb).2, fun b hb => upd_ne (hp b hb)⟩⟩
  · refine nd_of n1 (List.nodup_cons.mpr ⟨fun z => hp p z rfl, n2⟩) fun b hb hb' => ?_
    rcases List.mem_cons.mp hb' with rfl | z
    · exact hpL hb
    · exact n3 b hb z
  · refine (ex.frame Lr).mem (fun a h => h) fun a h => ?_
    simp only [List.mem_append, List.mem_cons] at h ⊢
    rcases h with z | rfl | z <;> simp_all
end
def gTupD : En → List R → Option (En × R) := fun en rs => match rfz en rs with
  | none => none
  | some (en', ds) => if ds.length ≤ sizeLine then some (en', .val (.sh (.tup ds))) else none
def gLstD : En → List R → Option (En × R) := fun en rs => match rtk en rs with
  | none => none
  | some (en', ws) => if ws.length ≤ sizeLine then some (en', .val (.lst ws)) else none
section
variable {K : PySem.W.Frag} {mg : Str → Option Value}
theorem n_tup : OpN K mg (fun xs H1 Q => xs.length ≤ sizeLine ∧ ∀ p, H1 p = none → Q (.ref p) (upd H1 p (.tup xs))) gTupD := by
  intro F H σ en L rs vs Lr en' r' st rr hs nd e Q q
  unfold gTupD at e
  split at e
  · cases e
  rename_i en1 ds e1
  split at e
  · rename_i hl
    cases e
    obtain ⟨F1, L1, st1, rp, x1⟩ := rr.fz st hs nd e1
    refine ⟨by rw [← rp.len]; exact hl, fun p hp => ?_⟩
    obtain ⟨a, b, c, d⟩ := lay_tup st1 hp rp
    exact q _ _ _ _ _ a b c (x1.trans d)
  · cases e
theorem n_lst : OpN K mg (fun xs H1 Q => xs.length ≤ sizeLine ∧ ∀ p, H1 p = none → Q (.ref p) (upd H1 p (.lst xs))) gLstD := by
  intro F H σ en L rs vs Lr en' r' st rr hs nd e Q q
  unfold gLstD at e
  split at e
  · cases e
  rename_i en1 ws e1
  split at e
  · rename_i hl
    cases e
    obtain ⟨F1, L1, Lr1, st1, ow, nd1, x1⟩ := rr.tk st hs nd e1
    refine ⟨by rw [← ow.len]; exact hl, fun p hp => ?_⟩
    obtain ⟨a, b, c, d⟩ := lay_list st1 hp ow nd1
    exact q _ _ _ _ _ a b c (x1.trans d)
  · cases e
end
def fTup (fs : List FE) : FE := fN gTupD fs
def fLst (fs : List FE) : FE := fN gLstD fs
theorem se_tup {X : Cx} {es : List Expr} {fs : List FE} {x1} {pos : Pos} (h : SA X es fs) : SE X (.Tuple es x1 pos) (fTup fs) := pe_imp (pe_tup h) fun σ H Q q => op_behind n_tup q
theorem se_lst {X : Cx} {es : List Expr} {fs : List FE} {pos : Pos} (h : SA X es fs) : SE X (.List es pos) (fLst fs) := pe_imp (pe_lst h) fun σ H Q q => op_behind n_lst q

inductive Kd where
  | t | l | f
  deriving DecidableEq
def shs (ws : List W) : List W := (W.ds ws).map W.sh
def D.its : D → Option (Kd × List D)
  | .tup ds => some (.t, ds)
  | .lst ds => some (.l, ds)
  | .frl ds => some (.f, ds)
  | _ => none
def R.els (en : En) : R → Option (En × Kd × List D)
  | .val (.sh d) => match d.its with
    | some (k, ds) => some (en, k, ds)
    | none => none
  | .val (.lst ws) => some (en, .l, W.ds ws)
  | .val _ => none
  | .pl i p => match en.get i p with
    | some (.sh d) => match d.its with
      | some (k, ds) => some (en, k, ds)
      | none => none
    | some (.lst ws) => some (en.put i p (.lst (shs ws)), .l, W.ds ws)
    | _ => none
/-- how such a thing stands -/
def StK (K : PySem.W.Frag) (H : Hp) (k : Kd) (a : Addr) (vs : List V) : Prop := match k with
  | .t => TupAt K H a vs
  | .l => H a = some (.lst vs)
  | .f => SqL K H a vs
section
variable {K : PySem.W.Frag} {mg : Str → Option Value}
theorem rep_its {H : Hp} {d : D} {v : V} {k : Kd} {ds : List D} (h : Rep K mg H d v) (e : d.its = some (k, ds)) : ∃ a vs, v = .ref a ∧ StK K H k a vs ∧ Reps K mg H ds vs := by
  cases d <;> simp only [D.its, Option.some.injEq, Prod.mk.injEq] at e <;> first
    | (cases e; done)
    | (obtain ⟨rfl, rfl⟩ := e
       simp only [Rep] at h
       exact h)
theorem StK.mono {H H' : Hp} {k : Kd} {a : Addr} {vs : List V} (s : Same H H') (h : StK K H k a vs) : StK K H' k a vs := by
  cases k with
  | t => exact ⟨seqT s h.1, h.2.imp (s _ _) id⟩
  | l => exact s _ _ h
  | f => exact s.seq h
theorem StK.lst {H : Hp} {k : Kd} {a : Addr} {vs : List V} (h : StK K H k a vs) (hk : k ≠ .t) : SqL K H a vs := by
  cases k with
  | t => exact absurd rfl hk
  | l => exact SqL.of h
  | f => exact h
theorem StK.any {H : Hp} {k : Kd} {a : Addr} {vs : List V} (h : StK K H k a vs) : SqL K H a vs ∨ SqT K H a vs := by
  cases k with
  | t => exact .inr h.1
  | l => exact .inl (SqL.of h)
  | f => exact .inl h
theorem RR.els {F H : Hp} {σ : L2.St} {en en' : En} {L Lr : List Addr} {r : R} {v : V} {k : Kd} {ds : List D} (st : StOk K mg F H σ en L) (h : RR K mg F H σ en L r v Lr) (nd : (L ++ Lr).Nodup) (e : r.els en = some (en', k, ds)) :
    ∃ F' L', StOk K mg F' H σ en' L' ∧ (∃ a vs, v = .ref a ∧ (StK K H k a vs ∧ (k = .t → TupAt K F' a vs)) ∧ Reps K mg F' ds vs) ∧ Ext F H (L ++ Lr) F' H L' := by
  cases r with
  | val w =>
    cases w with
    | sh d =>
      simp only [R.els] at e
      split at e
      · rename_i k' ds' e1
        cases e
        simp only [RR, Own] at h
        obtain ⟨h1, rfl⟩ := h
        obtain ⟨a, vs, e2, e3, e4⟩ := rep_its h1 e1
        exact ⟨F, L, st, ⟨a, vs, e2, ⟨e3.mono st.sub, fun z => by subst z; exact e3⟩, e4⟩, by simpa using Ext.refl⟩
      · cases e
    | lst ws =>
      simp only [R.els, Option.some.injEq, Prod.mk.injEq] at e
      obtain ⟨rfl, rfl, rfl⟩ := e
      simp only [RR, Own] at h
      obtain ⟨a, vs, L', rfl, h2, h3, rfl, h5⟩ := h
      obtain ⟨n1, n2, n3⟩ := nd_app nd
      refine ⟨addF F H L', L, st.freeze (fun b hb hb' => n3 b hb (by simp [hb'])) (fun b hb => (h5.cell b hb).1), ⟨a, vs, rfl, ⟨h2, fun z => by cases z⟩, h5.seen (seen_add st.sub fun _ h => h)⟩, Ext.freeze st.sub (fun b hb => by simp [hb]) fun b hb => by simp [hb]⟩
    | dT _ _ => cases e
    | dK _ _ => cases e
    | ins _ _ => cases e
  | pl i p =>
    obtain ⟨rfl, w1, La, Lm, Lb, P⟩ := RR.part st h
    have g := P.1
    simp only [R.els, g] at e
    obtain ⟨_, eL, o, kk⟩ := P
    cases w1 with
    | sh d =>
      simp only at e
      split at e
      · rename_i k' ds' e1
        cases e
        simp only [Own] at o
        obtain ⟨h1, rfl⟩ := o
        obtain ⟨a, vs, e2, e3, e4⟩ := rep_its h1 e1
        exact ⟨F, L, st, ⟨a, vs, e2, ⟨e3.mono st.sub, fun z => by subst z; exact e3⟩, e4⟩, by simpa using Ext.refl⟩
      · cases e
    | lst ws =>
      simp only [Option.some.injEq, Prod.mk.injEq] at e
      obtain ⟨rfl, rfl, rfl⟩ := e
      simp only [Own] at o
      obtain ⟨a, vs, L', rfl, h2, h3, rfl, h5⟩ := o
      have nd0 := st.nd
      have cl := st.cell
      subst eL
      obtain ⟨n1, n2⟩ := nodup3 nd0
      have nm : (a :: L').Nodup := (nd_app (nd_app nd0).2.1).1
      obtain ⟨na, nL⟩ := List.nodup_cons.mp nm
      have rp : Reps K mg (addF F H L') (W.ds ws) vs := h5.seen (seen_add st.sub fun _ h => h)
      have hs : Stay F H (addF F H L') H (La ++ Lb) := stay_freeze st.sub (fun b hb => (cl b (by simp only [List.mem_append] at hb ⊢; rcases hb with z | z <;> simp [z])).2) fun b hb z => n2 b hb (by simp [z])
      have own' : Own K mg (addF F H L') H (.lst (shs ws)) (.ref a) [a] := by
        simp only [Own]
        exact ⟨a, vs, [], rfl, h2, by rw [addF_out na]; exact h3, rfl, owns_sh rp⟩
      refine ⟨addF F H L', La ++ ([a] ++ Lb), ⟨addF_le st.sub, ?_, kk _ _ _ _ hs own', st.tb.add st.sub fun b hb => (h5.cell b hb).1.2.2⟩, ⟨a, vs, rfl, ⟨h2, fun z => by cases z⟩, rp⟩, ?_⟩
      · simp only [List.nodup_append, List.mem_append, List.mem_cons] at nd0 ⊢
        obtain ⟨q1, ⟨q2, q3, q4⟩, q5⟩ := nd0
        refine ⟨q1, ⟨by simp, q3, fun x hx y hy => ?_⟩, fun x hx y hy => ?_⟩
        · have : x = a := by simpa using hx
          subst this
          exact q4 x (.inl rfl) y hy
        · rcases hy with z | z
          · have : y = a := by simpa using z
            exact q5 x hx y (.inl (.inl this))
          · exact q5 x hx y (.inr z)
      · refine Ext.freeze st.sub (fun b hb => by simp [hb]) fun b hb => ?_
        simp only [List.mem_append, List.mem_cons, List.mem_singleton] at hb ⊢
        rcases hb with z | z | z
        · simp [z]
        · rcases z with z | z
          · simp [z]
          · cases z
        · simp [z]
    | dT _ _ => cases e
    | dK _ _ => cases e
    | ins _ _ => cases e
/-- both operands' items -/
def els2 (en : En) (r1 r2 : R) : Option (En × (Kd × List D) × (Kd × List D)) := match r1.els en with
  | none => none
  | some (en1, k1, ds1) => match r2.els en1 with
    | none => none
    | some (en2, k2, ds2) => some (en2, (k1, ds1), (k2, ds2))
theorem RRs.els2 {F H : Hp} {σ : L2.St} {en en' : En} {L Lr : List Addr} {r1 r2 : R} {vs : List V} {k1 k2 : Kd} {ds1 ds2 : List D} (st : StOk K mg F H σ en L) (h : RRs K mg F H σ en L [r1, r2] vs Lr) (hs : ∀ r ∈ [r1, r2], r.stable = true) (nd : (L ++ Lr).Nodup) (e : els2 en r1 r2 = some (en', (k1, ds1), (k2, ds2))) :
    ∃ a b xs ys F' L', vs = [.ref a, .ref b] ∧ StOk K mg F' H σ en' L' ∧ (StK K H k1 a xs ∧ (k1 = .t → TupAt K F' a xs)) ∧ (StK K H k2 b ys ∧ (k2 = .t → TupAt K F' b ys)) ∧ Reps K mg F' ds1 xs ∧ Reps K mg F' ds2 ys ∧ Ext F H (L ++ Lr) F' H L' := by
  match vs, h with
  | [v1, v2], h =>
    simp only [RRs] at h
    obtain ⟨A, B, rfl, h1, C, E, e0, h2, rfl⟩ := h
    have e0' : B = C := by simpa using e0
    subst e0'
    unfold Pu.els2 at e
    split at e
    · cases e
    rename_i en1 k1' ds1' e1
    split at e
    · cases e
    rename_i en2 k2' ds2' e2
    simp only [Option.some.injEq, Prod.mk.injEq] at e
    obtain ⟨rfl, ⟨rfl, rfl⟩, ⟨rfl, rfl⟩⟩ := e
    have nd' : (L ++ A ++ B).Nodup := by simpa using nd
    obtain ⟨nd1, nd2, dj0⟩ := nd_app nd'
    have dj : ∀ b ∈ B, b ∉ L ++ A := fun b hb hb' => dj0 b hb' hb
    obtain ⟨F1, M1, st1, ⟨a, xs, rfl, s1, rp1⟩, x1⟩ := h1.els st nd1 e1
    have k2 := h2.keep (en' := en1) (L' := M1) (hs _ (by simp)) x1 dj
    have ap := x1.apart (M := B) fun b hb => ⟨dj b hb, (h2.cell b hb).1.1⟩
    obtain ⟨F2, M2, st2, ⟨b, ys, rfl, s2, rp2⟩, x2⟩ := k2.els st1 (nd_of st1.nd nd2 fun b hb hb' => ap b hb b hb' rfl) e2
    refine ⟨a, b, xs, ys, F2, M2, rfl, st2, ⟨s1.1, fun z => StK.mono (k := .t) x2.sub (s1.2 z)⟩, s2, rp1.mono x2.sub, rp2, ?_⟩
    exact ((x1.frame B).trans x2).mem (fun a h => by simpa using h) fun a h => h
  | [], h => simp only [RRs] at h
  | [_], h =>
    simp only [RRs] at h
    obtain ⟨_, _, _, _, h⟩ := h
    exact h.elim
  | _ :: _ :: _ :: _, h =>
    simp only [RRs] at h
    obtain ⟨_, _, _, _, _, _, _, _, h⟩ := h
    exact h.elim
def gCatL : En → List R → Option (En × R)
  | en, [r1, r2] => match els2 en r1 r2 with
    | some (en', (.l, ds1), (.l, ds2)) => if ds1.length + ds2.length ≤ sizeLine then some (en', .val (.lst ((ds1 ++ ds2).map W.sh))) else none
    | _ => none
  | _, _ => none
def gCatT : En → List R → Option (En × R)
  | en, [r1, r2] => match els2 en r1 r2 with
    | some (en', (.t, ds1), (.t, ds2)) => if ds1.length + ds2.length ≤ sizeLine then some (en', .val (.sh (.tup (ds1 ++ ds2)))) else none
    | _ => none
  | _, _ => none
theorem n_catL : OpN K mg (r2N rCat) gCatL := by
  intro F H σ en L rs vs Lr en' r' st rr hs nd e Q q
  unfold gCatL at e
  split at e
  · rename_i r1 r2
    split at e
    · rename_i en1 ds1 ds2 e1
      split at e
      · rename_i hl
        cases e
        obtain ⟨a, b, xs, ys, F1, L1, rfl, st1, s1, s2, p1, p2, x1⟩ := rr.els2 st hs nd e1
        refine ⟨_, _, rfl, a, b, xs, ys, rfl, rfl, s1.1, s2.1, by rw [← p1.len, ← p2.len]; exact hl, fun p hp => ?_⟩
        obtain ⟨z1, z2, z3, z4⟩ := lay_list st1 hp (owns_sh (p1.append p2)) (by simpa using st1.nd)
        exact q _ _ _ _ _ z1 z2 z3 (x1.trans (z4.mem (fun a h => by simpa using h) fun a h => h))
      · cases e
    · cases e
  · cases e
theorem n_catT : OpN K mg (r2N (rCatA K)) gCatT := by
  intro F H σ en L rs vs Lr en' r' st rr hs nd e Q q
  unfold gCatT at e
  split at e
  · rename_i r1 r2
    split at e
    · rename_i en1 ds1 ds2 e1
      split at e
      · rename_i hl
        cases e
        obtain ⟨a, b, xs, ys, F1, L1, rfl, st1, s1, s2, p1, p2, x1⟩ := rr.els2 st hs nd e1
        have nd1 : (L1 ++ []).Nodup := by simpa using st1.nd
        have fin : ∀ {c : Addr} {zs : List V}, TupAt K F1 c zs → Reps K mg F1 (ds1 ++ ds2) zs → Q (.ref c) H := fun {c zs} h1 h2 =>
          q (.ref c) F1 H L1 [] st1 (by simp only [RR]; exact own_sh (by simp only [Rep]; exact ⟨c, zs, rfl, h1, h2⟩)) nd1 (x1.mem (fun _ h => h) fun a h => by simpa using h)
        refine ⟨_, _, rfl, a, b, xs, ys, rfl, rfl, s1.1.1, s2.1.1, by rw [← p1.len, ← p2.len]; exact hl, fun hx => ?_, fun hx hy => ?_, fun hx hy p hp => ?_⟩
        · subst hx
          exact fin (s2.2 rfl) (by simpa using p1.append p2)
        · subst hy
          exact fin (s1.2 rfl) (by simpa using p1.append p2)
        · obtain ⟨z1, z2, z3, z4⟩ := lay_tup st1 hp (p1.append p2)
          exact q _ _ _ _ _ z1 z2 z3 (x1.trans z4)
      · cases e
    · cases e
  · cases e
end
end Pu
namespace Pu
variable [TabN]
open PySem PySem.Spec PyProof.Rows L2
def gAdd : En → List R → Option (En × R) := gOr (gS oAddI) (gOr (gS oAddS) (gOr gCatL gCatT))
def fAdd (fa fb : FE) : FE := fN gAdd [fa, fb]
theorem se_add {X : Cx} {a b : Expr} {fa fb : FE} {pos : Pos} (ha : SE X a fa) (hb : SE X b fb) : SE X (.BinOp a .Add b pos) (fAdd fa fb) :=
  se_op (op_add.or (op_add_str.or (op_cat.or op_catA))) ((PkS.ok (pk_II (r := rI0 fun i j => .int (i + j)) (fun _ _ => rfl) fun i j H Q _ q => ⟨_, _, rfl, rfl, q⟩)).r2 ((PkS.ok pk_addS).r2 (n_catL.r2 n_catT))) ha hb

section
variable {K : PySem.W.Frag} {mg : Str → Option Value}
theorem reps_at {F : Hp} : ∀ {ds : List D} {vs : List V} {j : Nat} {d : D}, Reps K mg F ds vs → ds[j]? = some d → ∃ v, vs[j]? = some v ∧ Rep K mg F d v
  | d :: ds, v :: vs, 0, x, h, e => by
    simp only [Reps] at h
    simp only [List.getElem?_cons_zero, Option.some.injEq] at e
    subst e
    exact ⟨v, rfl, h.1⟩
  | d :: ds, v :: vs, j + 1, x, h, e => by
    simp only [Reps] at h
    simp only [List.getElem?_cons_succ] at e ⊢
    exact reps_at h.2 e
  | [], _, _, _, _, e => by simp at e
  | _ :: _, [], _, _, h, _ => by simp only [Reps] at h
theorem at_of {α β : Type} {xs : List α} {ys : List β} {i : Int} {x : α} (hl : xs.length = ys.length) (h : atI xs i = some x) : ∃ j, ixN xs.length i = some j ∧ xs[j]? = some x ∧ ∀ y, ys[j]? = some y → atI ys i = some y := by
  unfold atI at h ⊢
  cases hj : ixN xs.length i with
  | none => rw [hj] at h; cases h
  | some j =>
    rw [hj] at h
    exact ⟨j, rfl, h, fun y hy => by rw [← hl, hj]; exact hy⟩
end
def oIxD (d : D) (k : Int) : Option D := match d with
  | .tup ds => atI ds k
  | .lst ds => atI ds k
  | .frl ds => atI ds k
  | .str x => if x.length ≤ sizeLine then (match atI x.cps.toList k with
    | some c => some (.str ⟨#[c]⟩)
    | none => none) else none
  | _ => none
def gIx : En → List R → Option (En × R)
  | en, [r1, r2] => match r2.d en with
    | some (.int k) => match r1 with
      | .val (.sh d) => match oIxD d k with
        | some x => some (en, .val (.sh x))
        | none => none
      | .val (.lst ws) => match atI ws k with
        | some w => some (en, .val w)
        | none => none
      | .pl i [] => match en[i]? with
        | some (.sh d) => match oIxD d k with
          | some x => some (en, .val (.sh x))
          | none => none
        | some (.lst ws) => match ixN ws.length k with
          | some j => match ws[j]? with
            | some (.sh d) => some (en, .val (.sh d))
            | some _ => some (en, .pl i [j])
            | none => none
          | none => none
        | _ => none
      | _ => none
    | _ => none
  | _, _ => none
section
variable {K : PySem.W.Frag} {mg : Str → Option Value}
theorem ixD_ok {F H : Hp} {d x : D} {v : V} {k : Int} {Q : VK} (s : Same F H) (h : Rep K mg F d v) (e : oIxD d k = some x) (q : ∀ y, Rep K mg F x y → Q y H) : rIx K v (.int k) H Q := by
  have seq : ∀ {ds : List D} {a : Addr} {vs : List V}, Reps K mg F ds vs → atI ds k = some x → ∃ y, atI vs k = some y ∧ Rep K mg F x y := fun {ds a vs} r e => by
    obtain ⟨j, e1, e2, e3⟩ := at_of r.len e
    obtain ⟨y, h1, h2⟩ := reps_at r e2
    exact ⟨y, e3 y h1, h2⟩
  cases d with
  | tup ds =>
    simp only [Rep] at h
    obtain ⟨a, vs, rfl, h1, h2⟩ := h
    obtain ⟨y, z1, z2⟩ := seq (a := a) h2 e
    exact .inr (.inl ⟨a, vs, k, y, rfl, rfl, seqT s h1.1, z1, q y z2⟩)
  | lst ds =>
    simp only [Rep] at h
    obtain ⟨a, vs, rfl, h1, h2⟩ := h
    obtain ⟨y, z1, z2⟩ := seq (a := a) h2 e
    exact .inl ⟨a, vs, k, y, rfl, rfl, SqL.of (s _ _ h1), z1, q y z2⟩
  | frl ds =>
    simp only [Rep] at h
    obtain ⟨a, vs, rfl, h1, h2⟩ := h
    obtain ⟨y, z1, z2⟩ := seq (a := a) h2 e
    exact .inl ⟨a, vs, k, y, rfl, rfl, s.seq h1, z1, q y z2⟩
  | str z =>
    cases rep_str h
    simp only [oIxD] at e
    split at e
    · rename_i hz
      split at e
      · rename_i c hc
        cases e
        exact .inr (.inr ⟨z, k, c, rfl, rfl, hz, hc, q _ (rep_v rfl)⟩)
      · cases e
    · cases e
  | _ => cases e
theorem n_ix : OpN K mg (r2N (rIx K)) gIx := by
  intro F H σ en L rs vs Lr en' r' st rr hs nd e Q q
  unfold gIx at e
  split at e
  · rename_i r1 r2
    split at e
    · rename_i k ek
      match vs, rr with
      | [v1, v2], rr =>
        have pk : Rep K mg H (.int k) v2 := by
          simp only [RRs] at rr
          obtain ⟨A, B, _, _, C, E, _, h2, _⟩ := rr
          exact h2.peek st ek
        cases rep_int pk
        simp only [RRs] at rr
        obtain ⟨A, B, rfl, h1, _⟩ := rr
        have base : Ext F H (L ++ (A ++ B)) F H (L ++ []) := Ext.refl.mem (fun a h => h) fun a h => by
          have h' : a ∈ L := by simpa using h
          simp [h']
        have shc : ∀ {x : D} {y : V}, Rep K mg F x y → (en, R.val (.sh x)) = (en', r') → Q y H := fun {x y} hx ee => by
          cases ee
          exact q y F H L [] st (by simp only [RR]; exact own_sh hx) (by simpa using st.nd) base
        split at e
        · rename_i d
          split at e
          · rename_i x ex
            simp only [Option.some.injEq] at e
            simp only [RR, Own] at h1
            exact ⟨_, _, rfl, ixD_ok st.sub h1.1 ex fun y hy => shc hy e⟩
          · cases e
        · rename_i ws
          split at e
          · rename_i w ew
            cases e
            simp only [RR, Own] at h1
            obtain ⟨a, xs, A', rfl, ha, hfa, rfl, ho⟩ := h1
            obtain ⟨j, e1, e2, e3⟩ := at_of ho.len ew
            obtain ⟨y, La, Lm, Lb, g1, g2, g3, _⟩ := ho.get e2
            subst g2
            refine ⟨_, _, rfl, .inl ⟨a, xs, k, y, rfl, rfl, SqL.of ha, e3 y g1, ?_⟩⟩
            refine q y F H L Lm st (by simp only [RR]; exact g3) ?_ (Ext.refl.mem (fun a h => h) fun c hc => ?_)
            · obtain ⟨n1, n2, n3⟩ := nd_app nd
              refine nd_of n1 ?_ fun c hc hc' => n3 c hc (by simp [hc'])
              have m1 := (nd_app n2).1
              have m2 := (List.nodup_cons.mp m1).2
              exact (nd_app (nd_app m2).2.1).1
            · simp only [List.mem_append] at hc ⊢
              rcases hc with z | z <;> simp [z]
          · cases e
        · rename_i i
          have hv := h1
          simp only [RR] at hv
          obtain ⟨rfl, hσ⟩ := hv
          split at e
          · rename_i d hd
            split at e
            · rename_i x ex
              simp only [Option.some.injEq] at e
              obtain ⟨o, La, Lm, Lb, g1, g2, g3, _⟩ := st.own.get hd
              rw [hσ] at g1
              cases g1
              rcases g3 with ⟨v', ev, ho⟩ | ⟨ev, _⟩
              · cases ev
                simp only [Own] at ho
                exact ⟨_, _, rfl, ixD_ok st.sub ho.1 ex fun y hy => shc hy e⟩
              · cases ev
            · cases e
          · rename_i ws hw
            obtain ⟨w0, La, Lm, Lb, P⟩ := part_name st.own hσ
            have hw0 : w0 = .lst ws := by
              have := P.1
              simp only [En.get, hw, W.get, Option.some.injEq] at this
              exact this.symm
            subst hw0
            obtain ⟨_, eL, o, kk⟩ := P
            have o2 := o
            simp only [Own] at o2
            obtain ⟨a, xs, A', rfl, ha, hfa, rfl, ho⟩ := o2
            split at e
            · rename_i j hj
              have atv : ∀ {w : W}, ws[j]? = some w → ∃ y La Lm Lb, xs[j]? = some y ∧ atI xs k = some y ∧ A' = La ++ (Lm ++ Lb) ∧ Own K mg F H w y Lm ∧
                  ∀ (F' H' : Hp) (w' : W) (v' : V) (Lm' : List Addr), Stay F H F' H' (La ++ Lb) → Own K mg F' H' w' v' Lm' → Owns K mg F' H' (ws.set j w') (xs.set j v') (La ++ (Lm' ++ Lb)) := fun {w} ew => by
                obtain ⟨y, La, Lm, Lb, g1, g2, g3, g4⟩ := ho.get ew
                refine ⟨y, La, Lm, Lb, g1, ?_, g2, g3, g4⟩
                unfold atI
                rw [← ho.len, hj]
                exact g1
              split at e
              · rename_i d hd
                simp only [Option.some.injEq] at e
                obtain ⟨y, _, _, _, _, z2, _, z4, _⟩ := atv hd
                simp only [Own] at z4
                exact ⟨_, _, rfl, .inl ⟨a, xs, k, y, rfl, rfl, SqL.of ha, z2, shc z4.1 e⟩⟩
              · rename_i w1 hne hw1
                cases e
                obtain ⟨y, Ma, Mm, Mb, z1, z2, z3, z4, z5⟩ := atv hw1
                subst z3 eL
                refine ⟨_, _, rfl, .inl ⟨a, xs, k, y, rfl, rfl, SqL.of ha, z2, ?_⟩⟩
                refine q y F H _ [] st ?_ (by simpa using st.nd) base
                simp only [RR]
                refine ⟨trivial, w1, La ++ (a :: Ma), Mm, Mb ++ Lb, ?_, by simp, z4, fun F' H' w' Lm' s' o' => ?_⟩
                · simp only [En.get, hw, W.get, hw1]
                · have s1 : Stay F H F' H' (Ma ++ Mb) := s'.less fun c hc => by
                    rcases List.mem_append.mp hc with z | z <;> simp [z]
                  have s2 : Stay F H F' H' (La ++ Lb) := s'.less fun c hc => by
                    rcases List.mem_append.mp hc with z | z <;> simp [z]
                  have q1 := z5 F' H' w' y Lm' s1 o'
                  rw [set_get z1] at q1
                  have q2 : Own K mg F' H' (.lst (ws.set j w')) (.ref a) (a :: (Ma ++ (Lm' ++ Mb))) := by
                    simp only [Own]
                    exact ⟨a, xs, _, rfl, (s'.eq a (by simp)).trans ha, s'.out a (by simp), rfl, q1⟩
                  have q3 := kk F' H' _ _ s2 q2
                  have ep : en.put i [j] w' = en.put i [] (.lst (ws.set j w')) := by
                    simp only [En.put, hw, W.put, hw1]
                  rw [ep]
                  simpa using q3
              · cases e
            · cases e
          · cases e
        · cases e
      | [], rr => simp only [RRs] at rr
      | [_], rr =>
        simp only [RRs] at rr
        obtain ⟨_, _, _, _, h⟩ := rr
        exact h.elim
      | _ :: _ :: _ :: _, rr =>
        simp only [RRs] at rr
        obtain ⟨_, _, _, _, _, _, _, _, h⟩ := rr
        exact h.elim
    · cases e
  · cases e
end
def fIx (fa fb : FE) : FE := fN gIx [fa, fb]
theorem se_ix {X : Cx} {a b : Expr} {fa fb : FE} {pos : Pos} (ha : SE X a fa) (hb : SE X b fb) (hs : PlainIx b := by exact fun _ _ => rfl) : SE X (.Subscript a b pos) (fIx fa fb) :=
  pe_imp (pe_ix ix_seq ha hb hs) fun σ H Q q => tEv_two (op_behind n_ix q)
end Pu
namespace Pu
variable [TabN]
open PySem PySem.Spec PyProof.Rows L2
def cutG {α : Type} (xs : List α) (lo hi : Option Int) : List α := (xs.drop (HT.sIx xs.length 0 lo)).take (HT.sIx xs.length xs.length hi - HT.sIx xs.length 0 lo)
section
variable {K : PySem.W.Frag} {mg : Str → Option Value}
theorem reps_drop {F : Hp} : ∀ {ds : List D} {vs : List V} (n : Nat), Reps K mg F ds vs → Reps K mg F (ds.drop n) (vs.drop n)
  | _, _, 0, h => h
  | [], [], _ + 1, h => h
  | _ :: _, _ :: _, n + 1, h => by
    simp only [Reps] at h
    exact reps_drop n h.2
  | [], _ :: _, _ + 1, h => by simp only [Reps] at h
  | _ :: _, [], _ + 1, h => by simp only [Reps] at h
theorem reps_take {F : Hp} : ∀ {ds : List D} {vs : List V} (n : Nat), Reps K mg F ds vs → Reps K mg F (ds.take n) (vs.take n)
  | _, _, 0, h => by simp only [List.take_zero, Reps]
  | [], [], _ + 1, h => by simp only [List.take_nil, Reps]
  | _ :: _, _ :: _, n + 1, h => by
    simp only [Reps] at h
    simp only [List.take_succ_cons, Reps]
    exact ⟨h.1, reps_take n h.2⟩
  | [], _ :: _, _ + 1, h => by simp only [Reps] at h
  | _ :: _, [], _ + 1, h => by simp only [Reps] at h
theorem reps_cut {F : Hp} {ds : List D} {vs : List V} {lo hi : Option Int} (h : Reps K mg F ds vs) : Reps K mg F (cutG ds lo hi) (cutV vs lo hi) := by
  unfold cutG cutV
  rw [h.len]
  exact reps_take _ (reps_drop _ h)
end
/-- the parts of a slice among the results -/
def sPart (en : En) : List (Bool × R) → Option (List (Option Int))
  | [] => some []
  | (true, r) :: rs => match r.d en, sPart en rs with
    | some (.int i), some os => some (some i :: os)
    | _, _ => none
  | (false, _) :: rs => match sPart en rs with
    | some os => some (none :: os)
    | none => none
def slOf (en : En) (r : R) (lo hi : Option Int) : Option (En × R) := match r.d en with
  | some (.str x) => if x.length ≤ sizeLine then some (en, .val (.sh (.str (cutS x lo hi)))) else none
  | _ => match r.els en with
    | some (en', .t, ds) => some (en', .val (.sh (.tup (cutG ds lo hi))))
    | some (en', _, ds) => some (en', .val (.lst ((cutG ds lo hi).map W.sh)))
    | none => none
/-- a slice by values -/
def rSlAll (K : PySem.W.Frag) : V → Option Int → Option Int → Hp → VK → Prop := fun x lo hi H Q => rSlL K x lo hi H Q ∨ (rSlA K x lo hi H Q ∨ rSlS x lo hi H Q)
theorem sl_all {X : Cx} : SlR X (rSlAll X.K) := sl_list.or (sl_tupA.or sl_str)
section
variable {K : PySem.W.Frag} {mg : Str → Option Value}
theorem slOf_ok {F H : Hp} {σ : L2.St} {en en' : En} {L Lr : List Addr} {r r' : R} {v : V} {lo hi : Option Int} {Q : VK} (st : StOk K mg F H σ en L) (h : RR K mg F H σ en L r v Lr) (nd : (L ++ Lr).Nodup) (e : slOf en r lo hi = some (en', r'))
    (q : ∀ v F' H' L' Lr', StOk K mg F' H' σ en' L' → RR K mg F' H' σ en' L' r' v Lr' → (L' ++ Lr').Nodup → Ext F H (L ++ Lr) F' H' (L' ++ Lr') → Q v H') : rSlAll K v lo hi H Q := by
  unfold slOf at e
  split at e
  · rename_i x hx
    split at e
    · rename_i hl
      cases e
      cases rep_str (h.peek st hx)
      exact .inr (.inr ⟨x, rfl, hl, q _ F H L [] st (by simp only [RR]; exact own_sh (rep_v rfl)) (by simpa using st.nd) (Ext.refl.mem (fun _ h => h) fun a h => by
        have h' : a ∈ L := by simpa using h
        simp [h'])⟩)
    · cases e
  · split at e
    · rename_i en1 ds e1
      cases e
      obtain ⟨F1, L1, st1, ⟨a, vs, rfl, ⟨s1, s2⟩, rp⟩, x1⟩ := h.els st nd e1
      refine .inr (.inl ⟨a, vs, rfl, s1.1, fun hw => ?_, fun hw p hp => ?_⟩)
      · have ec : cutV vs lo hi = vs := by
          unfold cutV
          rw [hw.1, hw.2]
          simp
        have r1 := reps_cut (lo := lo) (hi := hi) rp
        rw [ec] at r1
        refine q (.ref a) F1 H L1 [] st1 (by simp only [RR]; exact own_sh (by simp only [Rep]; exact ⟨a, vs, rfl, s2 rfl, r1⟩)) (by simpa using st1.nd) (x1.mem (fun _ h => h) fun a h => by simpa using h)
      · obtain ⟨z1, z2, z3, z4⟩ := lay_tup st1 hp (reps_cut (lo := lo) (hi := hi) rp)
        exact q _ _ _ _ _ z1 z2 z3 (x1.trans z4)
    · rename_i en1 k ds hk e1
      cases e
      obtain ⟨F1, L1, st1, ⟨a, vs, rfl, ⟨s1, s2⟩, rp⟩, x1⟩ := h.els st nd e1
      refine .inl ⟨a, vs, rfl, s1.lst (fun z => hk z), fun p hp => ?_⟩
      obtain ⟨z1, z2, z3, z4⟩ := lay_list st1 hp (owns_sh (reps_cut (lo := lo) (hi := hi) rp)) (by simpa using st1.nd)
      exact q _ _ _ _ _ z1 z2 z3 (x1.trans (z4.mem (fun a h => by simpa using h) fun a h => h))
    · cases e
end
def gSl0 : En → R → Option (En × R) := fun en r => slOf en r none none
def gSlLo : En → List R → Option (En × R)
  | en, [r, r1] => match r1.d en with
    | some (.int i) => slOf en r (some i) none
    | _ => none
  | _, _ => none
def gSlHi : En → List R → Option (En × R)
  | en, [r, r1] => match r1.d en with
    | some (.int i) => slOf en r none (some i)
    | _ => none
  | _, _ => none
def gSl2 : En → List R → Option (En × R)
  | en, [r, r1, r2] => match r1.d en, r2.d en with
    | some (.int i), some (.int j) => slOf en r (some i) (some j)
    | _, _ => none
  | _, _ => none
section
variable {K : PySem.W.Frag} {mg : Str → Option Value}
theorem slOf_list {F H : Hp} {σ : L2.St} {en en' : En} {L Lr : List Addr} {r r' : R} {rs : List R} {vs : List V} {v : V} {lo hi : Option Int} {Q : VK} (st : StOk K mg F H σ en L) (h : RRs K mg F H σ en L (r :: rs) (v :: vs) Lr) (nd : (L ++ Lr).Nodup) (e : slOf en r lo hi = some (en', r'))
    (q : ∀ v F' H' L' Lr', StOk K mg F' H' σ en' L' → RR K mg F' H' σ en' L' r' v Lr' → (L' ++ Lr').Nodup → Ext F H (L ++ Lr) F' H' (L' ++ Lr') → Q v H') : rSlAll K v lo hi H Q := by
  simp only [RRs] at h
  obtain ⟨A, B, rfl, h1, _⟩ := h
  have nd1 : (L ++ A).Nodup := (nd_app (by simpa using nd : (L ++ A ++ B).Nodup)).1
  exact slOf_ok st h1 nd1 e fun v F' H' L' Lr' a b c d => q v F' H' L' Lr' a b c (d.mem (fun a h => by
    simp only [List.mem_append] at h ⊢
    rcases h with z | z <;> simp [z]) fun a h => h)
theorem rrs2 {F H : Hp} {σ : L2.St} {en : En} {L Lr : List Addr} {r1 r2 : R} {vs : List V} (h : RRs K mg F H σ en L [r1, r2] vs Lr) : ∃ v1 v2 A B, vs = [v1, v2] ∧ Lr = A ++ B ∧ RR K mg F H σ en L r1 v1 A ∧ RR K mg F H σ en L r2 v2 B := by
  match vs, h with
  | [v1, v2], h =>
    simp only [RRs] at h
    obtain ⟨A, B, rfl, h1, C, E, e0, h2, rfl⟩ := h
    exact ⟨v1, v2, A, C, rfl, by rw [e0]; simp, h1, h2⟩
  | [], h => simp only [RRs] at h
  | [_], h =>
    simp only [RRs] at h
    obtain ⟨_, _, _, _, h⟩ := h
    exact h.elim
  | _ :: _ :: _ :: _, h =>
    simp only [RRs] at h
    obtain ⟨_, _, _, _, _, _, _, _, h⟩ := h
    exact h.elim
end
section
variable {X : Cx} {e : Expr} {lo hi : Expr} {fe fl fh : FE} {pos p2 : Pos}
theorem se_slLo (he : SE X e fe) (hl : SE X lo fl) : SE X (.Subscript e (.Slice (some lo) none none p2) pos) (fN gSlLo [fe, fl]) :=
  pe_imp (pe_slice sl_all he (po_some hl) po_none) fun σ H Q q => by
    have o : OpN X.K X.mg (r2N fun x y H Q => ∃ i, y = .int i ∧ rSlAll X.K x (some i) none H Q) gSlLo := fun F H σ en L rs vs Lr en' r' st rr hs nd e Q q => by
      unfold gSlLo at e
      split at e
      · split at e
        · rename_i i hi
          obtain ⟨v1, v2, A, B, rfl, rfl, h1, h2⟩ := rrs2 rr
          cases rep_int (h2.peek st hi)
          exact ⟨_, _, rfl, i, rfl, slOf_list st rr nd e q⟩
        · cases e
      · cases e
    exact tEv_two (op_behind o q)
theorem se_slHi (he : SE X e fe) (hl : SE X hi fh) : SE X (.Subscript e (.Slice none (some hi) none p2) pos) (fN gSlHi [fe, fh]) :=
  pe_imp (pe_slice sl_all he po_none (po_some hl)) fun σ H Q q => by
    have o : OpN X.K X.mg (r2N fun x y H Q => ∃ i, y = .int i ∧ rSlAll X.K x none (some i) H Q) gSlHi := fun F H σ en L rs vs Lr en' r' st rr hs nd e Q q => by
      unfold gSlHi at e
      split at e
      · split at e
        · rename_i i hi
          obtain ⟨v1, v2, A, B, rfl, rfl, h1, h2⟩ := rrs2 rr
          cases rep_int (h2.peek st hi)
          exact ⟨_, _, rfl, i, rfl, slOf_list st rr nd e q⟩
        · cases e
      · cases e
    exact tEv_two (op_behind o q)
/-- one more expression behind results that stay -/
theorem ev_then {K : PySem.W.Frag} {mg : Str → Option Value} {F H : Hp} {σ : L2.St} {en en' : En} {L Lr : List Addr} {rs : List R} {vs : List V} {f : FE} {r : R} {Q : VK} (st : StOk K mg F H σ en L) (rr : RRs K mg F H σ en L rs vs Lr) (hs : ∀ r ∈ rs, r.stable = true) (nd : (L ++ Lr).Nodup) (e : f en = some (en', r))
    (q : ∀ v F' H' L' Lr', StOk K mg F' H' σ en' L' → RRs K mg F' H' σ en' L' rs vs Lr → RR K mg F' H' σ en' L' r v Lr' → (L' ++ (Lr ++ Lr')).Nodup → Ext F H (L ++ Lr) F' H' (L' ++ (Lr ++ Lr')) → Q v H') : tS K mg f σ H Q := by
  refine ⟨F, en, L, en', r, st, e, fun v F3 H3 L3 Lr3 st3 rr3 nd3 x3 => ?_⟩
  obtain ⟨a1, a2, a3⟩ := nd_app nd
  obtain ⟨b1, b2, b3⟩ := nd_app nd3
  have dj : ∀ b ∈ Lr, b ∉ L := fun b hb hb' => a3 b hb' hb
  have k2 := RRs.keep (en' := en') (L' := L3) rr hs (x3.mem (fun _ h => h) fun a h => by simp [h]) dj
  have ap := x3.apart (M := Lr) fun b hb => ⟨dj b hb, (rr.cell b hb).1.1⟩
  refine q v F3 H3 L3 Lr3 st3 k2 rr3 ?_ ?_
  · refine nd_of b1 (nd_of a2 b2 fun b hb hb' => ap b (by simp [hb']) b hb rfl) fun b hb hb' => ?_
    rcases List.mem_append.mp hb' with z | z
    · exact ap b (by simp [hb]) b z rfl
    · exact b3 b hb z
  · refine (x3.frame Lr).mem (fun a h => h) fun a ha => ?_
    simp only [List.mem_append] at ha ⊢
    rcases ha with z | z | z <;> simp [z]
def fSl2 (fe fl fh : FE) : FE := fun en => match evs [fe, fl] en with
  | some (en1, [r, r1]) => match r1.d en1 with
    | some (.int i) => match fh en1 with
      | none => none
      | some (en2, r2) => match r2.d en2 with
        | some (.int j) => slOf en2 r (some i) (some j)
        | _ => none
    | _ => none
  | _ => none
theorem se_sl2 (he : SE X e fe) (hl : SE X lo fl) (hh : SE X hi fh) : SE X (.Subscript e (.Slice (some lo) (some hi) none p2) pos) (fSl2 fe fl fh) :=
  pe_imp (pe_slice sl_all he (po_some hl) (po_some hh)) fun σ H Q q => by
    obtain ⟨F, en, L, en', r', st, e, k⟩ := q
    unfold fSl2 at e
    split at e
    · rename_i en1 r r1 e1
      split at e
      · rename_i i hi
        split at e
        · cases e
        rename_i en2 r2 e2
        split at e
        · rename_i j hj
          refine tEv_two (K := X.K) (mg := X.mg) (R := fun a b H2 => ∃ i, b = .int i ∧ tS X.K X.mg fh σ H2 fun c H3 => ∃ j, c = .int j ∧ rSlAll X.K a (some i) (some j) H3 Q) ⟨F, en, L, en1, [r, r1], st, e1, fun vs F1 H1 L1 Lr1 st1 rr1 nd1 x1 => ?_⟩
          obtain ⟨v1, v2, A, B, rfl, rfl, h1, h2⟩ := rrs2 rr1
          refine ⟨v1, v2, rfl, i, rep_int (h2.peek st1 hi), ?_⟩
          refine ev_then st1 rr1 (evs_stable e1) nd1 e2 fun v F2 H2 L2 Lr2 st2 rrs rr2 nd2 x2 => ⟨j, rep_int (rr2.peek st2 hj), ?_⟩
          have nd3 : (L2 ++ (A ++ B)).Nodup := (nd_app (by simpa using nd2 : (L2 ++ (A ++ B) ++ Lr2).Nodup)).1
          refine slOf_list st2 rrs nd3 e fun v F' H' L' Lr' a b c d => k v F' H' L' Lr' a b c (x1.trans (x2.trans (d.mem (fun a h => ?_) fun a h => h)))
          simp only [List.mem_append] at h ⊢
          rcases h with z | z | z <;> simp [z]
        · cases e
      · cases e
    · cases e
end
section
variable {X : Cx} {e : Expr} {f : FE} {p pos : Pos} {x : Str} {r : List V → Hp → VK → Prop} {g : En → R → Option (En × R)}
theorem se_callB {id : String} (hc : CallR X (.builtin id) r) (o : OpU X.K X.mg r g) (hg : Gl X x) (hm : X.mg x = none) (hv : bootBuiltins x = some (.builtin id)) (he : SE X e f) (hn : x ≠ "__name__" := by decide) (hdb : (x == ("__debug__" : Str)) = false := by decide) (hs : starEach [e] X.env = [(false, eval e X.env)] := by rfl) :
    SE X (.Call (.Name x p) [e] [] pos) (fU g f) :=
  pe_imp (pe_callB hc hg hm hv (pa_cons he pa_nil hs) hn hdb hs rfl) fun σ H Q q => op1_behind o q
theorem se_callTy {T : String} (hc : CallR X (.type T) r) (o : OpU X.K X.mg r g) (hg : Gl X x) (hm : X.mg x = none) (hv : bootBuiltins x = some (.type T)) (he : SE X e f) (hn : x ≠ "__name__" := by decide) (hdb : (x == ("__debug__" : Str)) = false := by decide) (hs : starEach [e] X.env = [(false, eval e X.env)] := by rfl) :
    SE X (.Call (.Name x p) [e] [] pos) (fU g f) :=
  pe_imp (pe_callTy hc hg hm hv (pa_cons he pa_nil hs) hn hdb hs rfl) fun σ H Q q => op1_behind o q
end
def oLen : D → Option D
  | .str x => if x.length ≤ sizeLine then some (.int x.length) else none
  | .tup ds => some (.int ds.length)
  | .lst ds => some (.int ds.length)
  | .frl ds => some (.int ds.length)
  | .dK ks _ => some (.int ks.length)
  | _ => none
def rLenAll (K : PySem.W.Frag) : List V → Hp → VK → Prop := fun xs H Q => (∃ x n, xs = [x] ∧ LenV K x H n ∧ Q (.int n) H) ∨ ∃ a kvs, xs = [V.ref a] ∧ H a = some (.dK kvs) ∧ Q (.int kvs.length) H
theorem call_or {X : Cx} {f : Value} {r r' : List V → Hp → VK → Prop} (h : CallR X f r) (h' : CallR X f r') : CallR X f (fun xs H Q => r xs H Q ∨ r' xs H Q) := by
  intro pins s σ H xs us Q I rs q
  rcases q with q | q
  · exact h pins s σ H xs us Q I rs q
  · exact h' pins s σ H xs us Q I rs q
def oAbs : D → Option D
  | .int i => some (.int (if i < 0 then -i else i))
  | _ => none
def oInt : D → Option D
  | .int i => some (.int i)
  | .bl k => some (.int (if k then 1 else 0))
  | _ => none
/-- a list of bools, of ints -/
def D.bls : List D → Option (List Bool)
  | [] => some []
  | .bl b :: ds => match D.bls ds with
    | some bs => some (b :: bs)
    | none => none
  | _ => none
def D.ints : List D → Option (List Int)
  | [] => some []
  | .int b :: ds => match D.ints ds with
    | some bs => some (b :: bs)
    | none => none
  | _ => none
def D.strs : List D → Option (List Str)
  | [] => some []
  | .str b :: ds => match D.strs ds with
    | some bs => some (b :: bs)
    | none => none
  | _ => none
def D.litems : D → Option (List D)
  | .lst ds => some ds
  | .frl ds => some ds
  | _ => none
def oAll (d : D) : Option D := match d.litems with
  | some ds => match D.bls ds with
    | some bs => some (.bl (bs.all id))
    | none => none
  | none => none
def oAny (d : D) : Option D := match d.litems with
  | some ds => match D.bls ds with
    | some bs => some (.bl (bs.any id))
    | none => none
  | none => none
def oSum (d : D) : Option D := match d.litems with
  | some ds => match D.ints ds with
    | some bs => some (.int bs.sum)
    | none => none
  | none => none
section
variable {K : PySem.W.Frag} {mg : Str → Option Value} {H : Hp}
theorem pk_len : PkU K mg (rLenAll K) oLen := by
  intro a va H d h e
  cases a with
  | str x =>
    simp only [oLen] at e
    split at e
    · rename_i hx
      cases e
      cases rep_str h
      exact ⟨_, rfl, fun Q q => .inl ⟨_, x.length, rfl, ⟨hx, rfl⟩, q⟩⟩
    · cases e
  | tup ds =>
    simp only [oLen, Option.some.injEq] at e
    subst e
    simp only [Rep] at h
    obtain ⟨a, vs, rfl, h1, h2⟩ := h
    exact ⟨_, rfl, fun Q q => .inl ⟨_, _, rfl, .inr ⟨vs, h1.1, rfl⟩, by rw [← h2.len]; exact q⟩⟩
  | lst ds =>
    simp only [oLen, Option.some.injEq] at e
    subst e
    simp only [Rep] at h
    obtain ⟨a, vs, rfl, h1, h2⟩ := h
    exact ⟨_, rfl, fun Q q => .inl ⟨_, _, rfl, .inl ⟨vs, SqL.of h1, rfl⟩, by rw [← h2.len]; exact q⟩⟩
  | frl ds =>
    simp only [oLen, Option.some.injEq] at e
    subst e
    simp only [Rep] at h
    obtain ⟨a, vs, rfl, h1, h2⟩ := h
    exact ⟨_, rfl, fun Q q => .inl ⟨_, _, rfl, .inl ⟨vs, h1, rfl⟩, by rw [← h2.len]; exact q⟩⟩
  | dK ks ds =>
    simp only [oLen, Option.some.injEq] at e
    subst e
    simp only [Rep] at h
    obtain ⟨a, kws, rfl, h1, h2, h3⟩ := h
    exact ⟨_, rfl, fun Q q => .inr ⟨a, kws, rfl, h1, by rw [← h2, List.length_map] at q; exact q⟩⟩
  | _ => cases e
theorem pk_abs : PkU K mg (fun xs H Q => ∃ i, xs = [.int i] ∧ Q (.int (if i < 0 then -i else i)) H) oAbs := by
  intro a va H d h e
  cases a <;> first | (cases e; done) | skip
  cases e
  cases rep_int h
  exact ⟨_, rfl, fun Q q => ⟨_, rfl, q⟩⟩
theorem pk_int : PkU K mg (fun xs H Q => (∃ i, xs = [.int i] ∧ Q (.int i) H) ∨ ∃ k, xs = [.bl k] ∧ Q (.int (if k then 1 else 0)) H) oInt := by
  intro a va H d h e
  cases a <;> first | (cases e; done) | skip
  · cases e
    cases rep_bl h
    exact ⟨_, rfl, fun Q q => .inr ⟨_, rfl, q⟩⟩
  · cases e
    cases rep_int h
    exact ⟨_, rfl, fun Q q => .inl ⟨_, rfl, q⟩⟩
theorem reps_bls : ∀ {ds : List D} {vs : List V} {bs : List Bool}, Reps K mg H ds vs → D.bls ds = some bs → vs = bs.map V.bl
  | [], [], bs, _, e => by simp only [D.bls, Option.some.injEq] at e; subst e; rfl
  | .bl b :: ds, v :: vs, bs, h, e => by
    simp only [D.bls] at e
    split at e
    · rename_i bs' e1
      cases e
      simp only [Reps] at h
      rw [List.map_cons, ← reps_bls h.2 e1, rep_bl h.1]
    · cases e
  | [], _ :: _, _, h, _ => by simp only [Reps] at h
  | .bl _ :: _, [], _, h, _ => by simp only [Reps] at h
  | .any :: _, _, _, _, e => by simp [D.bls] at e
  | .non :: _, _, _, _, e => by simp [D.bls] at e
  | .int _ :: _, _, _, _, e => by simp [D.bls] at e
  | .str _ :: _, _, _, _, e => by simp [D.bls] at e
  | .tup _ :: _, _, _, _, e => by simp [D.bls] at e
  | .lst _ :: _, _, _, _, e => by simp [D.bls] at e
  | .frl _ :: _, _, _, _, e => by simp [D.bls] at e
  | .dT _ _ :: _, _, _, _, e => by simp [D.bls] at e
  | .lT _ _ :: _, _, _, _, e => by simp [D.bls] at e
  | .dK _ _ :: _, _, _, _, e => by simp [D.bls] at e
  | .ins _ _ :: _, _, _, _, e => by simp [D.bls] at e
theorem rep_litems {d : D} {v : V} {ds : List D} (h : Rep K mg H d v) (e : d.litems = some ds) : ∃ a vs, v = .ref a ∧ SqL K H a vs ∧ Reps K mg H ds vs := by
  cases d <;> simp only [D.litems, Option.some.injEq] at e <;> first
    | (cases e; done)
    | (subst e
       simp only [Rep] at h
       obtain ⟨a, vs, e1, h1, h2⟩ := h
       first
       | exact ⟨a, vs, e1, h1, h2⟩
       | exact ⟨a, vs, e1, SqL.of h1, h2⟩)
theorem pk_all : PkU K mg (rAll K) oAll := by
  intro a va H d h e
  unfold oAll at e
  split at e
  · rename_i ds e1
    split at e
    · rename_i bs e2
      cases e
      obtain ⟨p, vs, rfl, h1, h2⟩ := rep_litems h e1
      have := reps_bls h2 e2
      subst this
      exact ⟨_, rfl, fun Q q => ⟨p, bs, rfl, h1, q⟩⟩
    · cases e
  · cases e
/-- list(x), tuple(x) -/
def gList : En → R → Option (En × R) := fun en r => match r.els en with
  | some (en', _, ds) => some (en', .val (.lst (ds.map W.sh)))
  | none => none
def gTuple : En → R → Option (En × R) := fun en r => match r.els en with
  | some (en', _, ds) => some (en', .val (.sh (.tup ds)))
  | none => none
theorem u_list : OpU K mg (fun xs H Q => ∃ p ys, xs = [.ref p] ∧ (SqL K H p ys ∨ SqT K H p ys) ∧ ∀ l, H l = none → Q (.ref l) (upd H l (.lst ys))) gList := by
  intro F H σ en L r v Lr en' r' st h nd e Q q
  unfold gList at e
  split at e
  · rename_i en1 k ds e1
    cases e
    obtain ⟨F1, L1, st1, ⟨a, vs, rfl, ⟨s1, s2⟩, rp⟩, x1⟩ := h.els st nd e1
    refine ⟨a, vs, rfl, s1.any, fun p hp => ?_⟩
    obtain ⟨z1, z2, z3, z4⟩ := lay_list st1 hp (owns_sh rp) (by simpa using st1.nd)
    exact q _ _ _ _ _ z1 z2 z3 (x1.trans (z4.mem (fun a h => by simpa using h) fun a h => h))
  · cases e
theorem u_tuple : OpU K mg (fun xs H Q => ∃ p ys, xs = [.ref p] ∧ ((SqL K H p ys ∧ ∀ l, H l = none → Q (.ref l) (upd H l (.tup ys))) ∨ (SqT K H p ys ∧ Q (.ref p) H))) gTuple := by
  intro F H σ en L r v Lr en' r' st h nd e Q q
  unfold gTuple at e
  split at e
  · rename_i en1 k ds e1
    cases e
    obtain ⟨F1, L1, st1, ⟨a, vs, rfl, ⟨s1, s2⟩, rp⟩, x1⟩ := h.els st nd e1
    refine ⟨a, vs, rfl, ?_⟩
    have lay : SqL K H a vs → ((SqL K H a vs ∧ ∀ l, H l = none → Q (.ref l) (upd H l (.tup vs))) ∨ (SqT K H a vs ∧ Q (.ref a) H)) := fun z => Or.inl ⟨z, fun p hp => by
      obtain ⟨z1, z2, z3, z4⟩ := lay_tup st1 hp rp
      exact q _ _ _ _ _ z1 z2 z3 (x1.trans z4)⟩
    cases k with
    | t => exact .inr ⟨s1.1, q (.ref a) F1 H L1 [] st1 (by simp only [RR]; exact own_sh (by simp only [Rep]; exact ⟨a, vs, rfl, s2 rfl, rp⟩)) (by simpa using st1.nd) (x1.mem (fun _ h => h) fun a h => by simpa using h)⟩
    | l => exact lay (SqL.of s1)
    | f => exact lay s1
  · cases e
end
end Pu
namespace Pu
variable [TabN]
open PySem PySem.Spec PyProof.Rows L2
def D.tyn : D → Option String
  | .non => some "NoneType"
  | .bl _ => some "bool"
  | .int _ => some "int"
  | .str _ => some "str"
  | .tup _ => some "tuple"
  | .lst _ => some "list"
  | .frl _ => some "list"
  | .dT _ _ => some "dict"
  | .dK _ _ => some "dict"
  | _ => none
def isiB (t : String) : List String → Option Bool
  | [] => some false
  | c :: cs => match kitB t c with
    | none => none
    | some true => some true
    | some false => isiB t cs
def oIsi (cs : List String) (d : D) : Option D := match d.tyn with
  | none => none
  | some t => match isiB t cs with
    | none => none
    | some b => some (.bl b)
section
variable {K : PySem.W.Frag} {mg : Str → Option Value} {H : Hp}
theorem tyn_ok {d : D} {v : V} {t : String} (h : Rep K mg H d v) (e : d.tyn = some t) : TyX K H v (.type t) := by
  cases d <;> simp only [D.tyn, Option.some.injEq] at e <;> first | (cases e; done) | skip
  · subst e; cases rep_non h; exact .base .non
  · subst e; cases rep_bl h; exact .base (.bl _)
  · subst e; cases rep_int h; exact .base (.int _)
  · subst e; cases rep_str h; exact .base (.str _)
  · subst e
    simp only [Rep] at h
    obtain ⟨a, vs, rfl, h1, h2⟩ := h
    rcases h1.1 with (z | ⟨o, z⟩) | ⟨o, its, n, z, c, _⟩
    · exact .base (.tup z)
    · exact .fTuple z
    · exact .kTuple z c
  · subst e
    simp only [Rep] at h
    obtain ⟨a, vs, rfl, h1, h2⟩ := h
    exact .base (.lst h1)
  · subst e
    simp only [Rep] at h
    obtain ⟨a, vs, rfl, h1, h2⟩ := h
    rcases h1 with (z | ⟨o, z⟩) | ⟨o, its, n, z, c, _⟩
    · exact .base (.lst z)
    · exact .base (.frz z)
    · exact .kList z c
  · subst e
    simp only [Rep] at h
    obtain ⟨a, vs, rfl, h1, h2⟩ := h
    exact .base (.dT h1)
  · subst e
    simp only [Rep] at h
    obtain ⟨a, vs, rfl, h1, h2⟩ := h
    exact .base (.dK h1)
theorem isiB_any {t : String} : ∀ {cs : List String} {b : Bool}, isiB t cs = some b → PySem.W.kitAny K (.type t) (cs.map Value.type) = some b
  | [], b, e => by
    simp only [isiB] at e
    rw [List.map_nil, kitAny_nil]
    exact e
  | c :: cs, b, e => by
    simp only [isiB] at e
    rw [List.map_cons]
    cases hk : kitB t c with
    | none => rw [hk] at e; cases e
    | some k =>
      rw [hk] at e
      cases k with
      | true =>
        simp only [Option.some.injEq] at e
        exact kitAny_cons (kit_ty hk) (fun z => by cases z) (fun _ => e.symm)
      | false => exact kitAny_cons (kit_ty hk) (fun _ => isiB_any e) (fun z => by cases z)
theorem pk_isi1 {c : String} : PkU K mg (fun xs H Q => ∃ x, xs = [x] ∧ rIsi K [x, .ty c] H Q) (oIsi [c]) := by
  intro a va H d h e
  unfold oIsi at e
  split at e
  · cases e
  rename_i t et
  split at e
  · cases e
  rename_i b eb
  cases e
  refine ⟨_, rfl, fun Q q => ⟨va, rfl, va, .ty c, .type t, .type c, b, rfl, .ty c, tyn_ok h et, ?_, q⟩⟩
  simp only [isiB] at eb
  cases hk : kitB t c with
  | none => rw [hk] at eb; cases eb
  | some k =>
    rw [hk] at eb
    cases k <;> (cases eb; exact kit_ty hk)
end
/-- class names as arguments -/
def tTys (ns : List String) : TA := fun _ H Q => Q (ns.map V.ty) H
theorem ty_nil {X : Cx} : PA X [] (tTys []) := pa_nil
theorem ty_cons {X : Cx} {x : Str} {p : Pos} {es : List Expr} {n : String} {ns : List String} (hg : Gl X x) (hm : X.mg x = none) (hv : bootBuiltins x = some (.type n)) (h : PA X es (tTys ns)) (hn : x ≠ "__name__" := by decide) (hd : (x == ("__debug__" : Str)) = false := by decide)
    (hs : starEach (.Name x p :: es) X.env = (false, eval (.Name x p) X.env) :: starEach es X.env := by rfl) : PA X (.Name x p :: es) (tTys (n :: ns)) :=
  pa_imp (pa_cons (pe_bltn hg hm hv (v := .ty n) rfl hn hd) h hs) fun _ _ _ q => q
section
variable {K : PySem.W.Frag} {mg : Str → Option Value}
theorem par_ty : ∀ cs : List String, Paired ClsV (cs.map V.ty) (cs.map Value.type)
  | [] => .nil
  | c :: cs => .cons (.ty c) (par_ty cs)
theorem u_isiT {cs : List String} (hl : cs.length ≤ sizeLine) : OpU K mg (fun xs H Q => ∃ x, xs = [x] ∧ (cs.map V.ty).length ≤ sizeLine ∧ ∀ p, H p = none → rIsiT K [x, .ref p] (upd H p (.tup (cs.map V.ty))) Q) (gS1 (oIsi cs)) := by
  intro F H σ en L r v Lr en' r' st h nd e Q q
  unfold gS1 at e
  split at e
  · cases e
  rename_i a e1
  split at e
  · cases e
  rename_i d e2
  cases e
  have hp := h.peek st e1
  unfold oIsi at e2
  split at e2
  · cases e2
  rename_i t et
  split at e2
  · cases e2
  rename_i b eb
  cases e2
  refine ⟨v, rfl, by simpa using hl, fun p np => ?_⟩
  obtain ⟨z1, z2⟩ := lay_frozen (o := .tup (cs.map V.ty)) st np
  refine ⟨v, p, cs.map V.ty, .type t, cs.map Value.type, b, rfl, upd_same, par_ty cs, ?_, isiB_any eb, ?_⟩
  · exact tyn_ok (hp.mono (upd_sub (Same.refl _) np)) et
  · exact q (.bl b) _ _ L [] z1 (by simp only [RR]; exact own_sh (rep_v rfl)) (by simpa using z1.nd) (z2.mem (fun a h => by simp [h]) fun a h => by simpa using h)
end
def fIsi (cs : List String) (f : FE) : FE := fU (gS1 (oIsi cs)) f
section
variable {X : Cx} {a b c e : Expr} {fa fb fc f : FE} {p p2 p3 pos : Pos}
theorem se_isi1 {x : Str} {n : String} (hi : Gl X "isinstance") (hmi : X.mg "isinstance" = none) (he : SE X e f) (hg : Gl X x) (hm : X.mg x = none) (hv : bootBuiltins x = some (.type n)) (hn : x ≠ "__name__" := by decide) (hd : (x == ("__debug__" : Str)) = false := by decide)
    (hs : starEach [e, .Name x p2] X.env = [(false, eval e X.env), (false, eval (.Name x p2) X.env)] := by rfl) : SE X (.Call (.Name "isinstance" p) [e, .Name x p2] [] pos) (fIsi [n] f) :=
  pe_imp (pe_callB call_isi hi hmi (by decide +kernel) (pa_cons he (ty_cons (ns := []) hg hm hv ty_nil hn hd) hs) (by decide) (by decide) hs rfl) fun σ H Q q => by
    have o := PkU.ok (pk_isi1 (K := X.K) (mg := X.mg) (c := n))
    obtain ⟨F, en, L, en1, r, st, e1, k⟩ := op1_behind o q
    exact ⟨F, en, L, en1, r, st, e1, fun v F1 H1 L1 Lr st1 rr nd x1 => by
      obtain ⟨x, ex, z⟩ := k v F1 H1 L1 Lr st1 rr nd x1
      cases ex
      exact z⟩
theorem se_isiT {es : List Expr} {ns : List String} {x1} (hi : Gl X "isinstance") (hmi : X.mg "isinstance" = none) (he : SE X e f) (ht : PA X es (tTys ns)) (hl : ns.length ≤ sizeLine)
    (hs : starEach [e, .Tuple es x1 p2] X.env = [(false, eval e X.env), (false, eval (.Tuple es x1 p2) X.env)] := by rfl) (hs2 : starEach [.Tuple es x1 p2] X.env = [(false, eval (.Tuple es x1 p2) X.env)] := by rfl) : SE X (.Call (.Name "isinstance" p) [e, .Tuple es x1 p2] [] pos) (fIsi ns f) :=
  pe_imp (pe_callB call_isiT hi hmi (by decide +kernel) (pa_cons he (pa_cons (pe_tup ht) pa_nil hs2) (hs.trans (by rw [hs2]))) (by decide) (by decide) (hs.trans (by rw [hs2])) (by rw [hs2]; rfl)) fun σ H Q q => by
    obtain ⟨F, en, L, en1, r, st, e1, k⟩ := op1_behind (u_isiT (K := X.K) (mg := X.mg) hl) q
    exact ⟨F, en, L, en1, r, st, e1, fun v F1 H1 L1 Lr st1 rr nd x1 => by
      obtain ⟨x, ex, z⟩ := k v F1 H1 L1 Lr st1 rr nd x1
      cases ex
      exact z⟩

def fChain (o1 o2 : List D → Option D) (fa fb fc : FE) : FE := fun en => match evs [fa, fb] en with
  | some (en1, [r1, r2]) => match r1.d en1, r2.d en1 with
    | some d1, some d2 => match o1 [d1, d2], d2.v with
      | some (.bl true), some _ => match fc en1 with
        | none => none
        | some (en2, r3) => match r3.d en2 with
          | none => none
          | some d3 => match o2 [d2, d3] with
            | none => none
            | some d => some (en2, .val (.sh d))
      | some (.bl false), some _ => some (en1, .val (.sh (.bl false)))
      | _, _ => none
    | _, _ => none
  | _ => none
theorem chain_ok {r1 r2 : R2} {o1 o2 : List D → Option D} (h1 : PkS X.K X.mg (r2N r1) o1) (h2 : PkS X.K X.mg (r2N r2) o2) {σ : L2.St} {H : Hp} {Q : VK} (q : tS X.K X.mg (fChain o1 o2 fa fb fc) σ H Q) : tChain r1 r2 (tS X.K X.mg fa) (tS X.K X.mg fb) (tS X.K X.mg fc) σ H Q := by
  obtain ⟨F, en, L, en', r', st, e, k⟩ := q
  unfold fChain at e
  split at e
  · rename_i en1 q1 q2 e1
    split at e
    · rename_i d1 d2 ed1 ed2
      refine tEv_two (K := X.K) (mg := X.mg) (R := fun x y H2 => r1 x y H2 fun z H3 => ∃ k, z = .bl k ∧ (if k = true then tS X.K X.mg fc σ H3 fun w' H4 => r2 y w' H4 Q else Q (.bl false) H3)) ⟨F, en, L, en1, [q1, q2], st, e1, fun vs F1 H1 L1 Lr1 st1 rr1 nd1 x1 => ?_⟩
      obtain ⟨v1, v2, A, B, rfl, rfl, g1, g2⟩ := rrs2 rr1
      have p1 := g1.peek st1 ed1
      have p2 := g2.peek st1 ed2
      refine ⟨v1, v2, rfl, ?_⟩
      split at e
      · rename_i w eo ev
        obtain ⟨v, hv, z⟩ := h1 [d1, d2] [v1, v2] H1 _ (by simp only [Reps]; exact ⟨p1, p2, trivial⟩) eo
        simp only [D.v, Option.some.injEq] at hv
        subst hv
        obtain ⟨a, b, ee, zz⟩ := z (fun z H3 => ∃ k, z = .bl k ∧ (if k = true then tS X.K X.mg fc σ H3 fun w' H4 => r2 v2 w' H4 Q else Q (.bl false) H3)) (by
          refine ⟨true, rfl, ?_⟩
          rw [if_pos rfl]
          split at e
          · cases e
          rename_i en2 q3 e3
          split at e
          · cases e
          rename_i d3 ed3
          split at e
          · cases e
          rename_i d eo2
          cases e
          refine ev_then st1 rr1 (evs_stable e1) nd1 e3 fun u F2 H2 L2 Lr2 st2 rrs rr2 nd2 x2 => ?_
          obtain ⟨_, v2', _, _, ee, _, _, g2'⟩ := rrs2 rrs
          cases ee
          have ev2 : v2 = w := by
            have hr := p2
            cases d2 <;> simp only [D.v, Option.some.injEq] at ev <;> first
              | (cases ev; done)
              | (subst ev
                 simpa only [Rep] using hr)
          obtain ⟨v, hv, z⟩ := h2 [d2, d3] [v2, u] H2 _ (by simp only [Reps]; exact ⟨by rw [ev2]; exact rep_v ev, rr2.peek st2 ed3, trivial⟩) eo2
          obtain ⟨a, b, ee, zz⟩ := z Q (k v F2 H2 L2 [] st2 (by simp only [RR]; exact own_sh (rep_v hv)) (by simpa using st2.nd) (x1.trans (x2.mem (fun a h => h) fun a h => by
            have h' : a ∈ L2 := by simpa using h
            simp [h'])))
          cases ee
          exact zz)
        cases ee
        exact zz
      · rename_i w eo ev
        cases e
        obtain ⟨v, hv, z⟩ := h1 [d1, d2] [v1, v2] H1 _ (by simp only [Reps]; exact ⟨p1, p2, trivial⟩) eo
        simp only [D.v, Option.some.injEq] at hv
        subst hv
        obtain ⟨a, b, ee, zz⟩ := z (fun z H3 => ∃ k, z = .bl k ∧ (if k = true then tS X.K X.mg fc σ H3 fun w' H4 => r2 v2 w' H4 Q else Q (.bl false) H3)) ⟨false, rfl, by
          rw [if_neg Bool.false_ne_true]
          exact k (.bl false) F1 H1 L1 [] st1 (by simp only [RR]; exact own_sh (rep_v rfl)) (by simpa using st1.nd) (x1.mem (fun a h => h) fun a h => by
            have h' : a ∈ L1 := by simpa using h
            simp [h'])⟩
        cases ee
        exact zz
      · cases e
    · cases e
  · cases e
theorem st_chain {op op' : CmpOp} {r r' : R2} {o1 o2 : List D → Option D} (ho : OpR X (compareOp op) r) (ho' : OpR X (compareOp op') r') (h1 : PkS X.K X.mg (r2N r) o1) (h2 : PkS X.K X.mg (r2N r') o2) (ha : SE X a fa) (hb : SE X b fb) (hc : SE X c fc)
    (hm : lastMarks [op, op'] [b, c] = false := by with_unfolding_all rfl) : ST X (.Compare a [op, op'] [b, c] pos) (fTb (fChain o1 o2 fa fb fc)) := pt_imp (pt_chain ho ho' ha hb hc hm) fun _ _ _ q => chain_ok h1 h2 (tTb q)
theorem cI (g : Int → Int → Bool) {K : PySem.W.Frag} {mg : Str → Option Value} : PkS K mg (r2N (rI0 fun i j => .bl (g i j))) (oII tt2 fun i j => .bl (g i j)) := pk_II (fun _ _ => rfl) fun i j H Q _ q => ⟨_, _, rfl, rfl, q⟩
end
abbrev PF := List W → Option (W × List W)
/-- what a def is worth: its arguments' things to its result and the things behind -/
def spP (K : PySem.W.Frag) (mg : Str → Option Value) (g : PF) : Sp := fun vs H Q _ => ∃ F ws L, Same F H ∧ L.Nodup ∧ Owns K mg F H ws vs L ∧ ∃ w ws', g ws = some (w, ws') ∧ TbOk F H ∧
  ∀ v F' H' L', Same F' H' → L'.Nodup → TbOk F' H' → Owns K mg F' H' (w :: ws') (v :: vs) L' → Ext F H L F' H' L' → Q v H'
/-- the arguments: what is owned at a name is lent -/
def argsOf : En → List R → Option (En × List W × List (Option Nat))
  | en, [] => some (en, [], [])
  | en, .val w :: rs => match argsOf en rs with
    | some (en', ws, bs) => some (en', w :: ws, none :: bs)
    | none => none
  | en, .pl i [] :: rs => match en[i]? with
    | none => none
    | some (.sh d) => match argsOf en rs with
      | some (en', ws, bs) => some (en', .sh d :: ws, none :: bs)
      | none => none
    | some w => match argsOf (en.set i (.sh .any)) rs with
      | some (en', ws, bs) => some (en', w :: ws, some i :: bs)
      | none => none
  | _, .pl _ (_ :: _) :: _ => none
def putB : En → List (Option Nat) → List W → En
  | en, some i :: bs, w :: ws => putB (en.set i w) bs ws
  | en, none :: bs, _ :: ws => putB en bs ws
  | en, _, _ => en
def fCall (g : PF) (fs : List FE) : FE := fun en => match evs fs en with
  | none => none
  | some (en1, rs) => match argsOf en1 rs with
    | none => none
    | some (en2, ws, bs) => match g ws with
      | none => none
      | some (w, ws') => if ws'.length = ws.length then some (putB en2 bs ws', .val w) else none
/-- the places lent -/
def Lent (σ : L2.St) : En → List (Option Nat) → List V → Prop
  | _, [], [] => True
  | en, some i :: bs, v :: vs => σ[i]? = some (some v) ∧ en[i]? = some (.sh .any) ∧ (∀ j, some j ∈ bs → j ≠ i) ∧ Lent σ en bs vs
  | en, none :: bs, _ :: vs => Lent σ en bs vs
  | _, _, _ => False
section
variable {K : PySem.W.Frag} {mg : Str → Option Value} {σ : L2.St}
theorem args_hole : ∀ {rs : List R} {en en' : En} {ws : List W} {bs : List (Option Nat)} {i : Nat}, argsOf en rs = some (en', ws, bs) → en[i]? = some (.sh .any) → en'[i]? = some (.sh .any) ∧ ∀ j, some j ∈ bs → j ≠ i
  | [], en, en', ws, bs, i, e, h => by
    simp only [argsOf, Option.some.injEq, Prod.mk.injEq] at e
    obtain ⟨rfl, rfl, rfl⟩ := e
    exact ⟨h, fun j hj => by cases hj⟩
  | .val w :: rs, en, en', ws, bs, i, e, h => by
    simp only [argsOf] at e
    split at e
    · rename_i en1 ws1 bs1 e1
      cases e
      obtain ⟨h1, h2⟩ := args_hole e1 h
      exact ⟨h1, fun j hj => h2 j (by simpa using hj)⟩
    · cases e
  | .pl k [] :: rs, en, en', ws, bs, i, e, h => by
    simp only [argsOf] at e
    split at e
    · cases e
    · split at e
      · rename_i en1 ws1 bs1 e1
        cases e
        obtain ⟨h1, h2⟩ := args_hole e1 h
        exact ⟨h1, fun j hj => h2 j (by simpa using hj)⟩
      · cases e
    · rename_i w hne hk
      split at e
      · rename_i en1 ws1 bs1 e1
        cases e
        have hki : k ≠ i := fun z => by
          subst z
          rw [h] at hk
          cases hk
          exact hne _ rfl
        obtain ⟨h1, h2⟩ := args_hole e1 (i := i) (by rw [List.getElem?_set_ne hki]; exact h)
        refine ⟨h1, fun j hj => ?_⟩
        rcases List.mem_cons.mp hj with z | z
        · cases z; exact hki
        · exact h2 j z
      · cases e
  | .pl _ (_ :: _) :: _, _, _, _, _, _, e, _ => by simp only [argsOf] at e; cases e
theorem args_ok : ∀ {rs : List R} {vs : List V} {F H : Hp} {en en' : En} {L Lr : List Addr} {ws : List W} {bs : List (Option Nat)}, StOk K mg F H σ en L → RRs K mg F H σ en L rs vs Lr → (∀ r ∈ rs, r.stable = true) → (L ++ Lr).Nodup → argsOf en rs = some (en', ws, bs) →
    ∃ L2 La, StOk K mg F H σ en' L2 ∧ Owns K mg F H ws vs La ∧ (L2 ++ La).Nodup ∧ (∀ a ∈ L2 ++ La, a ∈ L ++ Lr) ∧ Lent σ en' bs vs
  | [], [], F, H, en, en', L, Lr, ws, bs, st, h, hs, nd, e => by
    simp only [argsOf, Option.some.injEq, Prod.mk.injEq] at e
    obtain ⟨rfl, rfl, rfl⟩ := e
    exact ⟨L, [], st, by simp only [Owns], by simpa using st.nd, fun a h => by
      have h' : a ∈ L := by simpa using h
      simp [h'], by simp only [Lent]⟩
  | .val w :: rs, v :: vs, F, H, en, en', L, Lr, ws, bs, st, h, hs, nd, e => by
    simp only [argsOf] at e
    split at e
    · rename_i en1 ws1 bs1 e1
      cases e
      simp only [RRs] at h
      obtain ⟨A, B, rfl, h1, h2⟩ := h
      simp only [RR] at h1
      have nd' : (L ++ B).Nodup := by
        obtain ⟨n1, n2, n3⟩ := nd_app nd
        exact nd_of n1 (nd_app n2).2.1 fun b hb hb' => n3 b hb (by simp [hb'])
      obtain ⟨L2, La, st2, ow, nd2, sub, ln⟩ := args_ok st h2 (fun r hr => hs r (by simp [hr])) nd' e1
      have dA : ∀ a ∈ A, a ∉ L ++ B := fun a ha hb => by
        obtain ⟨n1, n2, n3⟩ := nd_app nd
        rcases List.mem_append.mp hb with z | z
        · exact n3 a z (by simp [ha])
        · exact (nd_app n2).2.2 a ha z
      refine ⟨L2, A ++ La, st2, by simp only [Owns]; exact ⟨A, La, rfl, h1, ow⟩, ?_, fun a ha => ?_, by simp only [Lent]; exact ln⟩
      · obtain ⟨m1, m2, m3⟩ := nd_app nd2
        refine nd_of m1 (nd_of (nd_app (nd_app nd).2.1).1 m2 fun b hb hb' => dA b hb (sub b (by simp [hb']))) fun b hb hb' => ?_
        rcases List.mem_append.mp hb' with z | z
        · exact dA b z (sub b (by simp [hb]))
        · exact m3 b hb z
      · simp only [List.mem_append] at ha sub ⊢
        rcases ha with z | z | z
        · rcases sub a (.inl z) with q | q <;> simp [q]
        · simp [z]
        · rcases sub a (.inr z) with q | q <;> simp [q]
    · cases e
  | .pl i [] :: rs, v :: vs, F, H, en, en', L, Lr, ws, bs, st, h, hs, nd, e => by
    simp only [RRs] at h
    obtain ⟨A, B, rfl, h1, h2⟩ := h
    simp only [RR] at h1
    obtain ⟨rfl, hσ⟩ := h1
    simp only [argsOf] at e
    split at e
    · cases e
    · rename_i d hd
      split at e
      · rename_i en1 ws1 bs1 e1
        cases e
        obtain ⟨L2, La, st2, ow, nd2, sub, ln⟩ := args_ok st h2 (fun r hr => hs r (by simp [hr])) (by simpa using nd) e1
        obtain ⟨w0, Lx, Lm, Ly, g, eL, o, kk⟩ := part_name st.own hσ
        have hw0 : w0 = .sh d := by
          simp only [En.get, hd, W.get, Option.some.injEq] at g
          exact g.symm
        subst hw0
        simp only [Own] at o
        exact ⟨L2, La, st2, by simp only [Owns]; exact ⟨[], La, rfl, own_sh o.1, ow⟩, nd2, fun a ha => by simpa using sub a ha, by simp only [Lent]; exact ln⟩
      · cases e
    · rename_i w hne hw
      split at e
      · rename_i en1 ws1 bs1 e1
        cases e
        obtain ⟨w0, Lx, Lm, Ly, g, eL, o, kk⟩ := part_name st.own hσ
        have hw0 : w0 = w := by
          simp only [En.get, hw, W.get, Option.some.injEq] at g
          exact g.symm
        subst hw0
        subst eL
        have nd0 := st.nd
        obtain ⟨n1, n2⟩ := nodup3 nd0
        have cl := st.cell
        have hs0 : Stay F H F H (Lx ++ Ly) := ⟨Same.refl F, fun b hb => (cl b (by simp only [List.mem_append] at hb ⊢; rcases hb with z | z <;> simp [z])).2, fun _ _ => rfl⟩
        have q := kk F H (.sh .any) [] hs0 (own_sh (by simp only [Rep]))
        have ep : en.put i [] (.sh .any) = en.set i (.sh .any) := by simp only [En.put, hw, W.put]
        rw [ep] at q
        have st1 : StOk K mg F H σ (en.set i (.sh .any)) (Lx ++ Ly) := ⟨st.sub, n1, by simpa using q, st.tb⟩
        have ndB : ((Lx ++ Ly) ++ B).Nodup := by
          have nd' : (Lx ++ (Lm ++ Ly) ++ B).Nodup := by simpa using nd
          obtain ⟨m1, m2, m3⟩ := nd_app nd'
          exact nd_of n1 m2 fun b hb hb' => m3 b (by simp only [List.mem_append] at hb ⊢; rcases hb with z | z <;> simp [z]) hb'
        have h2' : RRs K mg F H σ (en.set i (.sh .any)) (Lx ++ Ly) rs vs B := RRs.keep (M := Lx ++ Ly) h2 (fun r hr => hs r (by simp [hr])) Ext.refl (fun b hb hb' => (nd_app ndB).2.2 b hb' hb)
        obtain ⟨L2, La, st2, ow, nd2, sub, ln⟩ := args_ok st1 h2' (fun r hr => hs r (by simp [hr])) ndB e1
        obtain ⟨hh1, hh2⟩ := args_hole e1 (i := i) (by rw [List.getElem?_set_self (List.getElem?_eq_some_iff.mp hw).1])
        have dM : ∀ a ∈ Lm, a ∉ (Lx ++ Ly) ++ B := fun a ha hb => by
          rcases List.mem_append.mp hb with z | z
          · exact n2 a z ha
          · have nd' : (Lx ++ (Lm ++ Ly) ++ B).Nodup := by simpa using nd
            exact (nd_app nd').2.2 a (by simp [ha]) z
        refine ⟨L2, Lm ++ La, st2, by simp only [Owns]; exact ⟨Lm, La, rfl, o, ow⟩, ?_, fun a ha => ?_, by simp only [Lent]; exact ⟨hσ, hh1, hh2, ln⟩⟩
        · obtain ⟨m1, m2, m3⟩ := nd_app nd2
          refine nd_of m1 (nd_of (nd_app (nd_app nd0).2.1).1 m2 fun b hb hb' => dM b hb (sub b (by simp [hb']))) fun b hb hb' => ?_
          rcases List.mem_append.mp hb' with z | z
          · exact dM b z (sub b (by simp [hb]))
          · exact m3 b hb z
        · simp only [List.mem_append] at ha sub ⊢
          rcases ha with z | z | z
          · rcases sub a (.inl z) with (q | q) | q <;> simp [q]
          · simp [z]
          · rcases sub a (.inr z) with (q | q) | q <;> simp [q]
      · cases e
  | .pl _ (_ :: _) :: _, _ :: _, _, _, _, _, _, _, _, _, _, _, _, _, e => by simp only [argsOf] at e; cases e
  | [], _ :: _, _, _, _, _, _, _, _, _, _, h, _, _, _ => by simp only [RRs] at h
  | .val _ :: _, [], _, _, _, _, _, _, _, _, _, h, _, _, _ => by simp only [RRs] at h
  | .pl _ _ :: _, [], _, _, _, _, _, _, _, _, _, h, _, _, _ => by simp only [RRs] at h
theorem Lent.set {en : En} {i : Nat} {w : W} : ∀ {bs : List (Option Nat)} {vs : List V}, Lent σ en bs vs → (∀ j, some j ∈ bs → j ≠ i) → Lent σ (en.set i w) bs vs
  | [], [], _, _ => by simp only [Lent]
  | some k :: bs, v :: vs, h, hd => by
    simp only [Lent] at h ⊢
    obtain ⟨h1, h2, h3, h4⟩ := h
    have hk : k ≠ i := hd k (by simp)
    exact ⟨h1, by rw [List.getElem?_set_ne (Ne.symm hk)]; exact h2, h3, Lent.set h4 fun j hj => hd j (by simp [hj])⟩
  | none :: bs, v :: vs, h, hd => by
    simp only [Lent] at h ⊢
    exact Lent.set h fun j hj => hd j (by simp [hj])
  | [], _ :: _, h, _ => by simp only [Lent] at h
  | some _ :: _, [], h, _ => by simp only [Lent] at h
  | none :: _, [], h, _ => by simp only [Lent] at h
theorem put_ok {F H : Hp} : ∀ {bs : List (Option Nat)} {vs : List V} {ws : List W} {en : En} {L La : List Addr}, StOk K mg F H σ en L → Lent σ en bs vs → Owns K mg F H ws vs La → (L ++ La).Nodup → ∃ L3, StOk K mg F H σ (putB en bs ws) L3 ∧ ∀ a ∈ L3, a ∈ L ++ La
  | [], [], [], en, L, La, st, _, _, _ => ⟨L, by simp only [putB]; exact st, fun a h => by simp [h]⟩
  | some i :: bs, v :: vs, w :: ws, en, L, La, st, ln, ow, nd => by
    simp only [Lent] at ln
    obtain ⟨l1, l2, l3, l4⟩ := ln
    simp only [Owns] at ow
    obtain ⟨A, B, rfl, o1, o2⟩ := ow
    obtain ⟨w0, Lx, Lm, Ly, g, eL, o, kk⟩ := part_name st.own l1
    have hw0 : w0 = .sh .any := by
      simp only [En.get, l2, W.get, Option.some.injEq] at g
      exact g.symm
    subst hw0
    simp only [Own] at o
    obtain ⟨_, rfl⟩ := o
    subst eL
    have cl := st.cell
    have hs0 : Stay F H F H (Lx ++ Ly) := ⟨Same.refl F, fun b hb => (cl b (by simp only [List.mem_append] at hb ⊢; rcases hb with z | z <;> simp [z])).2, fun _ _ => rfl⟩
    have q := kk F H w A hs0 o1
    have ep : en.put i [] w = en.set i w := by simp only [En.put, l2, W.put]
    rw [ep] at q
    obtain ⟨m1, m2, m3⟩ := nd_app nd
    obtain ⟨p1, p2, p3⟩ := nd_app m2
    have ndq : (Lx ++ (A ++ Ly)).Nodup := by
      have m1' : (Lx ++ Ly).Nodup := by simpa using m1
      obtain ⟨q1, q2, q3⟩ := nd_app m1'
      refine nd_of q1 (nd_of p1 q2 fun b hb hb' => m3 b (by simp [hb']) (by simp [hb])) fun b hb hb' => ?_
      rcases List.mem_append.mp hb' with z | z
      · exact m3 b (by simp [hb]) (by simp [z])
      · exact q3 b hb z
    have st1 : StOk K mg F H σ (en.set i w) (Lx ++ (A ++ Ly)) := ⟨st.sub, ndq, q, st.tb⟩
    obtain ⟨L3, st3, sub⟩ := put_ok st1 (l4.set l3) o2 (nd_of ndq p2 fun b hb hb' => by
      simp only [List.mem_append] at hb
      rcases hb with z | z | z
      · exact m3 b (by simp [z]) (by simp [hb'])
      · exact p3 b z hb'
      · exact m3 b (by simp [z]) (by simp [hb']))
    refine ⟨L3, by simp only [putB]; exact st3, fun a ha => ?_⟩
    have := sub a ha
    simp only [List.mem_append] at this ⊢
    rcases this with (z | z | z) | z <;> simp [z]
  | none :: bs, v :: vs, w :: ws, en, L, La, st, ln, ow, nd => by
    simp only [Lent] at ln
    simp only [Owns] at ow
    obtain ⟨A, B, rfl, o1, o2⟩ := ow
    obtain ⟨m1, m2, m3⟩ := nd_app nd
    obtain ⟨L3, st3, sub⟩ := put_ok st ln o2 (nd_of m1 (nd_app m2).2.1 fun b hb hb' => m3 b hb (by simp [hb']))
    refine ⟨L3, by simp only [putB]; exact st3, fun a ha => ?_⟩
    have := sub a ha
    simp only [List.mem_append] at this ⊢
    rcases this with z | z <;> simp [z]
  | [], _ :: _, _, _, _, _, _, h, _, _ => by simp only [Lent] at h
  | some _ :: _, [], _, _, _, _, _, h, _, _ => by simp only [Lent] at h
  | none :: _, [], _, _, _, _, _, h, _, _ => by simp only [Lent] at h
  | [], [], _ :: _, _, _, _, _, _, h, _ => by simp only [Owns] at h
  | some _ :: _, _ :: _, [], _, _, _, _, _, h, _ => by simp only [Owns] at h
  | none :: _, _ :: _, [], _, _, _, _, _, h, _ => by simp only [Owns] at h
/-- a call behind its arguments' results -/
theorem call_from {F H : Hp} {en en2 : En} {L Lr : List Addr} {rs : List R} {vs : List V} {ws ws' : List W} {bs : List (Option Nat)} {w : W} {g : PF} {Q : VK} {E : XK} (st : StOk K mg F H σ en L) (rr : RRs K mg F H σ en L rs vs Lr) (hs : ∀ r ∈ rs, r.stable = true) (nd : (L ++ Lr).Nodup)
    (ea : argsOf en rs = some (en2, ws, bs)) (eg : g ws = some (w, ws'))
    (q : ∀ v F' H' L' Lr', StOk K mg F' H' σ (putB en2 bs ws') L' → RR K mg F' H' σ (putB en2 bs ws') L' (.val w) v Lr' → (L' ++ Lr').Nodup → Ext F H (L ++ Lr) F' H' (L' ++ Lr') → Q v H') : spP K mg g vs H Q E := by
  obtain ⟨L2, La, st2, ow, nd2, sub, ln⟩ := args_ok st rr hs nd ea
  obtain ⟨n1, n2, n3⟩ := nd_app nd2
  refine ⟨F, ws, La, st.sub, n2, ow, w, ws', eg, st.tb, fun v F' H' L' s' nd' tb' ow' x => ?_⟩
  simp only [Owns] at ow'
  obtain ⟨Lw, La', rfl, o1, o2⟩ := ow'
  obtain ⟨m1, m2, m3⟩ := nd_app nd'
  have cl2 := st2.cell
  have st2' : StOk K mg F' H' σ en2 L2 := ⟨s', n1, st2.own.stay (x.stay fun b hb => ⟨n3 b hb, cl2 b hb⟩), tb'⟩
  have ap := x.apart (M := L2) fun b hb => ⟨n3 b hb, (cl2 b hb).1.1⟩
  obtain ⟨L3, st3, sub3⟩ := put_ok st2' ln o2 (nd_of n1 m2 fun b hb hb' => ap b (by simp [hb']) b hb rfl)
  refine q v F' H' L3 Lw st3 (by simp only [RR]; exact o1) (nd_of st3.nd m1 fun b hb hb' => ?_) ?_
  · rcases List.mem_append.mp (sub3 b hb) with z | z
    · exact ap b (by simp [hb']) b z rfl
    · exact m3 b hb' z
  · refine (x.frame L2).mem (fun a ha => ?_) fun a ha => ?_
    · rcases List.mem_append.mp ha with z | z
      · exact sub a (by simp [z])
      · exact sub a (by simp [z])
    · rcases List.mem_append.mp ha with z | z
      · rcases List.mem_append.mp (sub3 a z) with y | y <;> simp [y]
      · simp [z]
end
section
variable {X : Cx}
theorem call_behind {g : PF} {fs : List FE} {σ : L2.St} {H : Hp} {Q : VK} {E : XK} (h : tS X.K X.mg (fCall g fs) σ H Q) : tEv X.K X.mg fs σ H fun vs H' => spP X.K X.mg g vs H' Q E := by
  obtain ⟨F, en, L, en', rr, st, ef, k⟩ := h
  unfold fCall at ef
  split at ef
  · cases ef
  rename_i en1 rs e1
  split at ef
  · cases ef
  rename_i en2 ws bs e2
  split at ef
  · cases ef
  rename_i w ws' e3
  split at ef
  · cases ef
    refine ⟨F, en, L, en1, rs, st, e1, fun vs F1 H1 L1 Lr1 st1 rr1 nd1 x1 => ?_⟩
    exact call_from st1 rr1 (evs_stable e1) nd1 e2 e3 fun v F' H' L' Lr' a b c d => k v F' H' L' Lr' a b c (x1.trans d)
  · cases ef
variable {k : Nat} {f : Addr} {fd : FuncData} {ps : List Str} {x : Str} {p pos : Pos} {e : Expr} {es : List Expr} {fs : List FE} {g : PF}
/-- f(e, ..) -/
theorem se_call (G : FnOk X.prog X.w X.K X.mg X.base CX0 k f fd ps (spP X.K X.mg g)) (hr : Room k X.A) (hg : Gl X x) (hm : X.mg x = some (.ref f)) (hk : PySem.W.keepIn X.K (.ref f) = true) (hb : Binds X.K fd ps []) (ha : SA X (e :: es) fs)
    (hdb : (x == ("__debug__" : Str)) = false := by decide) (he : starEach (e :: es) X.env = (false, eval e X.env) :: starEach es X.env := by rfl) (hpl : (backTo pos (starEach es X.env)).any (·.1) = false := by rfl) : SE X (.Call (.Name x p) (e :: es) [] pos) (fCall g fs) :=
  pe_imp (pe_call G hr hg hm hk hb .nil pass0 ha hdb he hpl) fun σ H Q q => by
    have z := call_behind (E := E0) q
    unfold tCall
    simpa only [List.append_nil] using z
end
end Pu
namespace Pu
variable [TabN]
open PySem PySem.Spec PyProof.Rows L2
inductive Fl where
  | nx | bk | ct
  | ret (w : W)
abbrev FS := En → Option (En × Fl)
def Fixed (fix : List Nat) (σ σ' : L2.St) : Prop := ∀ i ∈ fix, σ'[i]? = σ[i]?
theorem Fixed.refl {fix : List Nat} {σ : L2.St} : Fixed fix σ σ := fun _ _ => rfl
theorem Fixed.trans {fix : List Nat} {σ σ1 σ2 : L2.St} (a : Fixed fix σ σ1) (b : Fixed fix σ1 σ2) : Fixed fix σ σ2 := fun i hi => (b i hi).trans (a i hi)
section
variable (K : PySem.W.Frag) (mg : Str → Option Value) (fix : List Nat)
/-- what is wanted behind a statement -/
def tEnd (D : Ends) (F H : Hp) (L : List Addr) (σ : L2.St) (en' : En) : Fl → Prop
  | .nx => ∀ σ' F' H' L', StOk K mg F' H' σ' en' L' → Fixed fix σ σ' → Ext F H L F' H' L' → D.nx σ' H'
  | .bk => ∀ σ' F' H' L', StOk K mg F' H' σ' en' L' → Fixed fix σ σ' → Ext F H L F' H' L' → D.bk σ' H'
  | .ct => ∀ σ' F' H' L', StOk K mg F' H' σ' en' L' → Fixed fix σ σ' → Ext F H L F' H' L' → D.ct σ' H'
  | .ret w => ∀ v σ' F' H' L' Lr, StOk K mg F' H' σ' en' L' → Fixed fix σ σ' → Own K mg F' H' w v Lr → (L' ++ Lr).Nodup → Ext F H L F' H' (L' ++ Lr) → D.rt v H'
def tX (f : FS) : TS := fun D σ H => ∃ F en L en' fl, StOk K mg F H σ en L ∧ f en = some (en', fl) ∧ tEnd K mg fix D F H L σ en' fl
end
abbrev SS (X : Cx) (fix : List Nat) (st : Stmt) (f : FS) : Prop := PS X st (tX X.K X.mg fix f)
abbrev SSs (X : Cx) (fix : List Nat) (sts : List Stmt) (f : FS) : Prop := PSs X sts (tX X.K X.mg fix f)
section
variable {K : PySem.W.Frag} {mg : Str → Option Value} {fix : List Nat}
theorem tEnd.step {D : Ends} {F H F1 H1 : Hp} {L L1 : List Addr} {σ σ1 : L2.St} {en' : En} {fl : Fl} (h : tEnd K mg fix D F H L σ en' fl) (hf : Fixed fix σ σ1) (x : Ext F H L F1 H1 L1) : tEnd K mg fix D F1 H1 L1 σ1 en' fl := by
  cases fl with
  | nx => exact fun σ' F' H' L' a b c => h σ' F' H' L' a (hf.trans b) (x.trans c)
  | bk => exact fun σ' F' H' L' a b c => h σ' F' H' L' a (hf.trans b) (x.trans c)
  | ct => exact fun σ' F' H' L' a b c => h σ' F' H' L' a (hf.trans b) (x.trans c)
  | ret w => exact fun v σ' F' H' L' Lr a b c d e => h v σ' F' H' L' Lr a (hf.trans b) c d (x.trans e)
end
def sNil : FS := fun en => some (en, .nx)
def sSeq (f g : FS) : FS := fun en => match f en with
  | none => none
  | some (en', .nx) => g en'
  | some (en', fl) => some (en', fl)
def sBk : FS := fun en => some (en, .bk)
def sCt : FS := fun en => some (en, .ct)
def sNever : FS := fun _ => none
def sExpr (f : FE) : FS := fun en => match f en with
  | none => none
  | some (en', _) => some (en', .nx)
/-- what is handed back -/
def R.out (fix : List Nat) (en : En) : R → Option (En × W)
  | .val w => some (en, w)
  | .pl i [] => if i ∈ fix then (R.pl i []).tk en else match en[i]? with
    | some w => some (en.set i (.sh .any), w)
    | none => none
  | .pl i p => (R.pl i p).tk en
def sRet (fix : List Nat) (f : FE) : FS := fun en => match f en with
  | none => none
  | some (en', r) => match r.out fix en' with
    | none => none
    | some (en2, w) => some (en2, .ret w)
def sRetN : FS := fun en => some (en, .ret (.sh .non))
def sIf (t : FT) (f g : FS) : FS := fun en => match t en with
  | none => none
  | some (en', b) => if b = true then f en' else g en'
section
variable {X : Cx} {fix : List Nat} {st : Stmt} {rest : List Stmt} {f g : FS} {pos : Pos}
theorem ss_nil : SSs X fix [] sNil := pss_imp pss_nil fun D σ H q => by
  obtain ⟨F, en, L, en', fl, st, e, q⟩ := q
  simp only [sNil, Option.some.injEq, Prod.mk.injEq] at e
  obtain ⟨rfl, rfl⟩ := e
  exact q σ F H L st Fixed.refl Ext.refl
theorem tX_seq {K : PySem.W.Frag} {mg : Str → Option Value} {D : Ends} {σ : L2.St} {H : Hp} (q : tX K mg fix (sSeq f g) D σ H) : tSeq (tX K mg fix f) (tX K mg fix g) D σ H := by
  obtain ⟨F, en, L, en', fl, st, e, q⟩ := q
  unfold sSeq at e
  split at e
  · cases e
  · rename_i en1 e1
    exact ⟨F, en, L, en1, .nx, st, e1, fun σ1 F1 H1 L1 st1 h1 x1 => ⟨F1, en1, L1, en', fl, st1, e, q.step h1 x1⟩⟩
  · rename_i en1 fl1 hne e1
    cases e
    refine ⟨F, en, L, _, fl, st, e1, ?_⟩
    cases fl with
    | nx => exact absurd rfl hne
    | bk => exact q
    | ct => exact q
    | ret w => exact q
theorem ss_cons (h1 : SS X fix st f) (h2 : SSs X fix rest g) : SSs X fix (st :: rest) (sSeq f g) := pss_imp (pss_cons h1 h2) fun D σ H q => tX_seq q
theorem ss_one (h1 : SS X fix st f) : SSs X fix [st] f := pss_one h1
theorem ss_never : SS X fix st sNever := ps_imp ps_never fun D σ H q => by
  obtain ⟨F, en, L, en', fl, st, e, q⟩ := q
  cases e
theorem ss_expr {e : Expr} {fe : FE} (he : SE X e fe) (hs : swapsWith e none pos.line X.env = pure false := by rfl) : SS X fix (.Expr e pos) (sExpr fe) := ps_imp (ps_expr he hs) fun D σ H q => by
  obtain ⟨F, en, L, en', fl, st, e, q⟩ := q
  unfold sExpr at e
  split at e
  · cases e
  rename_i en1 r e1
  cases e
  exact ⟨F, en, L, _, r, st, e1, fun v F1 H1 L1 Lr st1 rr nd x => q σ F1 H1 L1 st1 Fixed.refl (drop_temp x)⟩
theorem out_ok {K : PySem.W.Frag} {mg : Str → Option Value} {F H : Hp} {σ : L2.St} {en en' : En} {L Lr : List Addr} {r : R} {v : V} {w : W} (st : StOk K mg F H σ en L) (h : RR K mg F H σ en L r v Lr) (nd : (L ++ Lr).Nodup) (e : r.out fix en = some (en', w)) :
    ∃ F' L' Lr', StOk K mg F' H σ en' L' ∧ Own K mg F' H w v Lr' ∧ (L' ++ Lr').Nodup ∧ Ext F H (L ++ Lr) F' H (L' ++ Lr') := by
  cases r with
  | val w0 =>
    simp only [R.out] at e
    exact RR.tk st h nd e
  | pl i p =>
    cases p with
    | cons k p =>
      simp only [R.out] at e
      exact RR.tk st h nd e
    | nil =>
      simp only [R.out] at e
      split at e
      · exact RR.tk st h nd e
      · obtain ⟨rfl, w1, La, Lm, Lb, P⟩ := RR.part st h
        obtain ⟨g, eL, o, kk⟩ := P
        split at e
        · rename_i w' hw
          cases e
          have hww : w1 = w := by
            simp only [En.get, hw, W.get, Option.some.injEq] at g
            exact g.symm
          subst hww
          subst eL
          have nd0 := st.nd
          have cl := st.cell
          obtain ⟨n1, n2⟩ := nodup3 nd0
          have hs : Stay F H F H (La ++ Lb) := ⟨Same.refl F, fun b hb => (cl b (by simp only [List.mem_append] at hb ⊢; rcases hb with z | z <;> simp [z])).2, fun _ _ => rfl⟩
          have q := kk F H (.sh .any) [] hs (own_sh (by simp only [Rep]))
          have ep : en.put i [] (.sh .any) = en.set i (.sh .any) := by simp only [En.put, hw, W.put]
          rw [ep] at q
          refine ⟨F, La ++ Lb, Lm, ⟨st.sub, n1, by simpa using q, st.tb⟩, o, nd_of n1 (nd_app (nd_app nd0).2.1).1 fun b hb hb' => n2 b hb hb', (Ext.refl (L := La ++ (Lm ++ Lb))).mem (fun _ h => by simpa using h) fun a ha => ?_⟩
          simp only [List.mem_append] at ha ⊢
          rcases ha with (z | z) | z <;> simp [z]
        · cases e
theorem ss_ret {e : Expr} {fe : FE} (he : SE X e fe) : SS X fix (.Return (some e) pos) (sRet fix fe) := ps_imp (ps_ret he) fun D σ H q => by
  obtain ⟨F, en, L, en', fl, st, e, q⟩ := q
  unfold sRet at e
  split at e
  · cases e
  rename_i en1 r e1
  split at e
  · cases e
  rename_i en2 w e2
  cases e
  refine ⟨F, en, L, en1, r, st, e1, fun v F1 H1 L1 Lr st1 rr nd x => ?_⟩
  obtain ⟨F2, L2, Lr2, st2, o, nd2, x2⟩ := out_ok st1 rr nd e2
  exact q v σ F2 H1 L2 Lr2 st2 Fixed.refl o nd2 (x.trans x2)
theorem ss_if {c : Expr} {a b : List Stmt} {t : FT} (hc : ST X c t) (ha : SSs X fix a f) (hb : SSs X fix b g) : SS X fix (.If c a b pos) (sIf t f g) := ps_imp (ps_if hc ha hb) fun D σ H q => by
  obtain ⟨F, en, L, en', fl, st, e, q⟩ := q
  unfold sIf at e
  split at e
  · cases e
  rename_i en1 k e1
  refine ⟨F, en, L, en1, k, st, e1, fun F1 H1 L1 st1 x1 => ?_⟩
  cases k with
  | true =>
    rw [if_pos rfl] at e ⊢
    exact ⟨F1, en1, L1, en', fl, st1, e, q.step Fixed.refl x1⟩
  | false =>
    rw [if_neg Bool.false_ne_true] at e ⊢
    exact ⟨F1, en1, L1, en', fl, st1, e, q.step Fixed.refl x1⟩
end
abbrev FG := En → W → Option En
def tG (K : PySem.W.Frag) (mg : Str → Option Value) (fix : List Nat) (g : FG) : TG := fun v σ H Q => ∃ F en L w Lw en', StOk K mg F H σ en L ∧ Own K mg F H w v Lw ∧ (L ++ Lw).Nodup ∧ g en w = some en' ∧
  ∀ σ' F' H' L', StOk K mg F' H' σ' en' L' → Fixed fix σ σ' → Ext F H (L ++ Lw) F' H' L' → Q σ' H'
def tGs (K : PySem.W.Frag) (mg : Str → Option Value) (fix : List Nat) (g : En → List W → Option En) : TGs := fun vs σ H Q => ∃ F en L ws Lw en', StOk K mg F H σ en L ∧ Owns K mg F H ws vs Lw ∧ (L ++ Lw).Nodup ∧ g en ws = some en' ∧
  ∀ σ' F' H' L', StOk K mg F' H' σ' en' L' → Fixed fix σ σ' → Ext F H (L ++ Lw) F' H' L' → Q σ' H'
abbrev SG (X : Cx) (fix : List Nat) (tg : Expr) (g : FG) : Prop := PG X tg (tG X.K X.mg fix g)
abbrev SGs (X : Cx) (fix : List Nat) (tgs : List Expr) (g : En → List W → Option En) : Prop := PGs X tgs (tGs X.K X.mg fix g)
theorem pg_imp {X : Cx} {tg : Expr} {t t' : TG} (h : PG X tg t) (i : ∀ v σ H Q, t' v σ H Q → t v σ H Q) : PG X tg t' := ⟨fun pins s σ H v u Q I r q => h.run pins s σ H v u Q I r (i v σ H Q q)⟩
theorem pgs_imp {X : Cx} {tg : List Expr} {t t' : TGs} (h : PGs X tg t) (i : ∀ v σ H Q, t' v σ H Q → t v σ H Q) : PGs X tg t' := ⟨fun pins s σ H vs us Q I r q => h.run pins s σ H vs us Q I r (i vs σ H Q q)⟩
def gN (i : Nat) : FG := fun en w => if i < en.length then some (en.set i w) else none
section
variable {K : PySem.W.Frag} {mg : Str → Option Value} {fix : List Nat}
/-- a name takes a thing of its own -/
theorem name_takes {F H : Hp} {σ : L2.St} {en : En} {L Lw : List Addr} {i : Nat} {w : W} {v : V} (st : StOk K mg F H σ en L) (o : Own K mg F H w v Lw) (nd : (L ++ Lw).Nodup) (hi : i < en.length) :
    ∃ L', StOk K mg F H (σ.set i (some v)) (en.set i w) L' ∧ ∀ a ∈ L', a ∈ L ++ Lw := by
  obtain ⟨o0, La, Lm, Lb, e1, e2, e3, e4⟩ := st.own.get (List.getElem?_eq_getElem hi)
  subst e2
  have nd0 := st.nd
  have cl := st.cell
  obtain ⟨n1, n2⟩ := nodup3 nd0
  obtain ⟨m1, m2, m3⟩ := nd_app nd
  have hs : Stay F H F H (La ++ Lb) := ⟨Same.refl F, fun b hb => (cl b (by simp only [List.mem_append] at hb ⊢; rcases hb with z | z <;> simp [z])).2, fun _ _ => rfl⟩
  refine ⟨La ++ (Lw ++ Lb), ⟨st.sub, ?_, e4 F H w v Lw hs o, st.tb⟩, fun a ha => ?_⟩
  · obtain ⟨q1, q2, q3⟩ := nd_app n1
    refine nd_of q1 (nd_of m2 q2 fun b hb hb' => m3 b (by simp [hb']) hb) fun b hb hb' => ?_
    rcases List.mem_append.mp hb' with z | z
    · exact m3 b (by simp [hb]) z
    · exact q3 b hb z
  · simp only [List.mem_append] at ha ⊢
    rcases ha with z | z | z <;> simp [z]
theorem fixed_set {σ : L2.St} {i : Nat} {v : V} (h : i ∉ fix) : Fixed fix σ (σ.set i (some v)) := fun j hj => by
  have : i ≠ j := fun z => h (z ▸ hj)
  rw [List.getElem?_set_ne this]
end
section
variable {X : Cx} {fix : List Nat} {tg e : Expr} {tgs : List Expr} {fe : FE} {g : FG} {gs : En → List W → Option En} {pos : Pos}
theorem tG_name {K : PySem.W.Frag} {mg : Str → Option Value} {i : Nat} (hfix : i ∉ fix) {v : V} {σ : L2.St} {H : Hp} {Q : L2.St → Hp → Prop} (q : tG K mg fix (gN i) v σ H Q) : gName i v σ H Q := by
  obtain ⟨F, en, L, w, Lw, en', st, o, nd, e, q⟩ := q
  unfold gN at e
  split at e
  · rename_i hi
    cases e
    obtain ⟨L', st', sub⟩ := name_takes st o nd hi
    exact q _ F H L' st' (fixed_set hfix) (Ext.refl.mem (fun _ h => h) sub)
  · cases e
theorem sg_name {i : Nat} {x : Str} (hN : X.N.Nodup) (hi : X.N[i]? = some x) (hx : Loc X.env.scope x) (hfix : i ∉ fix) (hf : X.fn x = true ∨ X.env.scope.names.lookup x = some .local := by first | exact .inl rfl | exact .inr rfl | assumption) : SG X fix (.Name x pos) (gN i) :=
  pg_imp (pg_name hN hi hx hf) fun v σ H Q q => tG_name hfix q
def gsNil : En → List W → Option En
  | en, [] => some en
  | _, _ :: _ => none
def gsCons (g : FG) (gs : En → List W → Option En) : En → List W → Option En
  | _, [] => none
  | en, w :: ws => match g en w with
    | none => none
    | some en' => gs en' ws
theorem tGs_nil {K : PySem.W.Frag} {mg : Str → Option Value} {vs : List V} {σ : L2.St} {H : Hp} {Q : L2.St → Hp → Prop} (q : tGs K mg fix gsNil vs σ H Q) : gNil vs σ H Q := by
  obtain ⟨F, en, L, ws, Lw, en', st, o, nd, e, q⟩ := q
  cases ws with
  | nil =>
    simp only [gsNil, Option.some.injEq] at e
    subst e
    cases vs with
    | nil =>
      simp only [Owns] at o
      subst o
      exact ⟨rfl, q σ F H L st Fixed.refl (by simpa using Ext.refl)⟩
    | cons v vs => simp only [Owns] at o
  | cons w ws => cases e
theorem sgs_nil : SGs X fix [] gsNil := pgs_imp pgs_nil fun vs σ H Q q => tGs_nil q
theorem tGs_cons {K : PySem.W.Frag} {mg : Str → Option Value} {vs : List V} {σ : L2.St} {H : Hp} {Q : L2.St → Hp → Prop} (q : tGs K mg fix (gsCons g gs) vs σ H Q) : gCons (tG K mg fix g) (tGs K mg fix gs) vs σ H Q := by
  obtain ⟨F, en, L, ws, Lw, en', st, o, nd, e, q⟩ := q
  cases ws with
  | nil => cases e
  | cons w ws =>
    simp only [gsCons] at e
    split at e
    · cases e
    rename_i en1 e1
    cases vs with
    | nil => simp only [Owns] at o
    | cons v vs =>
      simp only [Owns] at o
      obtain ⟨A, B, rfl, o1, o2⟩ := o
      have nd' : (L ++ A ++ B).Nodup := by simpa using nd
      obtain ⟨n1, n2, n3⟩ := nd_app nd'
      refine ⟨v, vs, rfl, F, en, L, w, A, en1, st, o1, n1, e1, fun σ1 F1 H1 L1 st1 f1 x1 => ?_⟩
      have dj : ∀ b ∈ B, b ∉ L ++ A := fun b hb hb' => n3 b hb' hb
      have ap := x1.apart (M := B) fun b hb => ⟨dj b hb, (o2.cell b hb).1.1⟩
      refine ⟨F1, en1, L1, ws, B, en', st1, o2.stay (x1.stay fun b hb => ⟨dj b hb, o2.cell b hb⟩), nd_of st1.nd n2 fun b hb hb' => ap b hb b hb' rfl, e, fun σ2 F2 H2 L2 st2 f2 x2 => ?_⟩
      exact q σ2 F2 H2 L2 st2 (f1.trans f2) (((x1.frame B).trans x2).mem (fun a h => by simpa using h) fun a h => h)
theorem sgs_cons (h1 : SG X fix tg g) (h2 : SGs X fix tgs gs) (hs : (assignEach (tg :: tgs) X.env).map (·.2) = assign tg X.env :: (assignEach tgs X.env).map (·.2) := by rfl) : SGs X fix (tg :: tgs) (gsCons g gs) := pgs_imp (pgs_cons h1 h2 hs) fun vs σ H Q q => tGs_cons q
/-- a, b, .. = a tuple or a list that stays -/
theorem assign_Tuple_list {prog : Program} {w : World} {A : Around} {E : Value → Shared → Prop} {s : Shared} {env : Env} {elts : List Expr} {k : Nat} {pos : Pos} {t : Addr} {items : Array Value} {Q : Unit → Shared → Prop} (hh : A.handled = none) (ht : s.heap.IsList t items)
    (hn : (assignEach elts env).length = items.size) (hstar : (assignEach elts env).findIdx? (·.1) = none)
    (h : ∀ h', Heap.ExtBut s.heap.objs.size s.heap h' → wpAny (model prog w) A (assignInOrder ((assignEach elts env).map (·.2)) items.toList) Q E { s with heap := h' }) :
    wpAny (model prog w) A (assign (.Tuple elts k pos) env (.ref t)) Q E s := by
  rw [assign_Tuple]
  refine wpAny_bind (wpAny_standAt ?_)
  unfold unpack
  rw [hn, hstar]
  exact wpAny_bind (wpAny_holding (PySem.W.kun_itemsOf hh ht h))
def gTupL (K : PySem.W.Frag) (n : Nat) (t : TGs) : TG := fun v σ H Q => ∃ a xs, v = .ref a ∧ (SqT K H a xs ∨ SqL K H a xs) ∧ xs.length = n ∧ t xs σ H Q
theorem pg_tupL {es : List Expr} {k : Nat} {t : TGs} {n : Nat} (hc : X.calm = true) (h : PGs X es t)
    (hn : (assignEach es X.env).length = n := by rfl) (hst : (assignEach es X.env).findIdx? (·.1) = none := by rfl) : PG X (.Tuple es k pos) (gTupL X.K n t) := by
  refine ⟨fun pins s σ H v u Q I r hw => ?_⟩
  obtain ⟨a, xs, e1, hq, hl, hw⟩ := hw
  subst e1
  cases r
  rcases hq with hq | hq
  · obtain ⟨its, rv, ht, hz⟩ := I.tuple hq
    refine assign_Tuple_tuple (I.ok.hd hc) ht (by simp [hn, ← hl, rv.length]) hst fun h' hx => ?_
    have I1 : Inv X pins σ H { s with heap := h' } := I.kept (t' := s.toks) fun b o e => hx b o (Nat.ne_of_lt (Heap.lt_size e)) e
    exact h.run pins _ σ H xs _ Q I1 (by simpa using rv) hw
  · obtain ⟨its, rv, ht, hz⟩ := I.list hq
    refine assign_Tuple_list (I.ok.hd hc) ht.isList (by simp [hn, ← hl, rv.length]) hst fun h' hx => ?_
    have I1 : Inv X pins σ H { s with heap := h' } := I.kept (t' := s.toks) fun b o e => hx b o (Nat.ne_of_lt (Heap.lt_size e)) e
    exact h.run pins _ σ H xs _ Q I1 (by simpa using rv) hw
def gTupT (n : Nat) (gs : En → List W → Option En) : FG := fun en w => match w with
  | .sh (.tup ds) => if ds.length = n then gs en (ds.map W.sh) else none
  | .sh (.lst ds) => if ds.length = n then gs en (ds.map W.sh) else none
  | _ => none
theorem sg_tup {n : Nat} {kt pt} (hc : X.calm = true) (h : SGs X fix tgs gs) (hn : (assignEach tgs X.env).length = n := by rfl) (hst : (assignEach tgs X.env).findIdx? (·.1) = none := by rfl) : SG X fix (.Tuple tgs kt pt) (gTupT n gs) :=
  pg_imp (pg_tupL hc h hn hst) fun v σ H Q q => by
    obtain ⟨F, en, L, w, Lw, en', st, o, nd, e, q⟩ := q
    unfold gTupT at e
    split at e
    · rename_i ds
      split at e
      · rename_i hl
        simp only [Own, Rep] at o
        obtain ⟨⟨a, vs, rfl, h1, h2⟩, rfl⟩ := o
        exact ⟨a, vs, rfl, .inl (seqT st.sub h1.1), h2.len.symm.trans hl, F, en, L, ds.map W.sh, [], en', st, owns_sh h2, nd, e, q⟩
      · cases e
    · rename_i ds
      split at e
      · rename_i hl
        simp only [Own, Rep] at o
        obtain ⟨⟨a, vs, rfl, h1, h2⟩, rfl⟩ := o
        exact ⟨a, vs, rfl, .inr (SqL.of (st.sub _ _ h1)), h2.len.symm.trans hl, F, en, L, ds.map W.sh, [], en', st, owns_sh h2, nd, e, q⟩
      · cases e
    · cases e
/-- target = e -/
def sAsg (fe : FE) (g : FG) : FS := fun en => match fe en with
  | none => none
  | some (en1, r) => match r.tk en1 with
    | none => none
    | some (en2, w) => match g en2 w with
      | none => none
      | some en' => some (en', .nx)
theorem tX_asg {D : Ends} {σ : L2.St} {H : Hp} (q : tX X.K X.mg fix (sAsg fe g) D σ H) : tAsg (tS X.K X.mg fe) (tG X.K X.mg fix g) D σ H := by
  obtain ⟨F, en, L, en', fl, st, e, q⟩ := q
  unfold sAsg at e
  split at e
  · cases e
  rename_i en1 r e1
  split at e
  · cases e
  rename_i en2 w e2
  split at e
  · cases e
  rename_i en3 e3
  cases e
  refine ⟨F, en, L, en1, r, st, e1, fun v F1 H1 L1 Lr st1 rr nd x => ?_⟩
  obtain ⟨F2, L2, Lr2, st2, o, nd2, x2⟩ := rr.tk st1 nd e2
  exact ⟨F2, en2, L2, w, Lr2, _, st2, o, nd2, e3, fun σ' F' H' L' st' f' x' => q σ' F' H' L' st' f' (x.trans (x2.trans x'))⟩
theorem ss_asg (he : SE X e fe) (hg : SG X fix tg g) (hs : swapsWithSole [tg] e pos.line X.env = pure false := by rfl) (hw : swappedStores [tg] e X.env = pure none := by rfl) (h1 : (assignEach [tg] X.env).map (·.2) = [assign tg X.env] := by rfl) : SS X fix (.Assign [tg] e pos) (sAsg fe g) :=
  ps_imp (ps_asg he hg hs hw h1) fun D σ H q => tX_asg q
/-- a, b = e1, e2 -/
def sPar (gs : En → List W → Option En) (fs : List FE) : FS := fun en => match evs fs en with
  | none => none
  | some (en1, rs) => match rtk en1 rs with
    | none => none
    | some (en2, ws) => match gs en2 ws with
      | none => none
      | some en' => some (en', .nx)
theorem par_behind {fs : List FE} {D : Ends} {σ : L2.St} {H : Hp} (q : tX X.K X.mg fix (sPar gs fs) D σ H) : tEv X.K X.mg fs σ H fun vs H1 => tGs X.K X.mg fix gs vs σ H1 D.nx := by
  obtain ⟨F, en, L, en', fl, st, e, q⟩ := q
  unfold sPar at e
  split at e
  · cases e
  rename_i en1 rs e1
  split at e
  · cases e
  rename_i en2 ws e2
  split at e
  · cases e
  rename_i en3 e3
  cases e
  refine ⟨F, en, L, en1, rs, st, e1, fun vs F1 H1 L1 Lr st1 rr nd x => ?_⟩
  obtain ⟨F2, L2, Lr2, st2, o, nd2, x2⟩ := rr.tk st1 (evs_stable e1) nd e2
  exact ⟨F2, en2, L2, ws, Lr2, _, st2, o, nd2, e3, fun σ' F' H' L' st' f' x' => q σ' F' H' L' st' f' (x.trans (x2.trans x'))⟩
/-- the pair is laid, then parted -/
theorem ss_parT {es : List Expr} {fs : List FE} {n : Nat} {kt pt k2 pt2} (hc : X.calm = true) (he : SA X es fs) (h : SGs X fix tgs gs) (hl : n ≤ sizeLine) (hn : fs.length = n) (hn' : (assignEach tgs X.env).length = n := by rfl) (hst : (assignEach tgs X.env).findIdx? (·.1) = none := by rfl)
    (hs : swapsWithSole [.Tuple tgs kt pt] (.Tuple es k2 pt2) pos.line X.env = pure false := by rfl) (hw : swappedStores [.Tuple tgs kt pt] (.Tuple es k2 pt2) X.env = pure none := by rfl) (h1 : (assignEach [.Tuple tgs kt pt] X.env).map (·.2) = [assign (.Tuple tgs kt pt) X.env] := by rfl) :
    SS X fix (.Assign [.Tuple tgs kt pt] (.Tuple es k2 pt2) pos) (sPar gs fs) :=
  ps_imp (ps_asg (pe_tup he) (pg_tup hc h hn' hst) hs hw h1) fun D σ H q => by
    obtain ⟨F, en, L, en1, rs, st, e1, k⟩ := par_behind q
    refine ⟨F, en, L, en1, rs, st, e1, fun vs F1 H1 L1 Lr st1 rr nd x => ?_⟩
    obtain ⟨F2, en2, L2, ws, Lw, en', st2, o, nd2, e2, q2⟩ := k vs F1 H1 L1 Lr st1 rr nd x
    have hlen : vs.length = n := by
      have l1 : ∀ {fs : List FE} {en en' : En} {rs : List R}, evs fs en = some (en', rs) → rs.length = fs.length := by
        intro fs
        induction fs with
        | nil => intro en en' rs e; simp only [evs, Option.some.injEq, Prod.mk.injEq] at e; rw [← e.2]; rfl
        | cons f fs ih =>
          intro en en' rs e
          simp only [evs] at e
          split at e
          · cases e
          split at e
          · cases e
          split at e
          · cases e
          rename_i e3
          cases e
          simp [ih e3]
      have l2 : ∀ {rs : List R} {vs : List V} {Lr : List Addr}, RRs X.K X.mg F1 H1 σ en1 L1 rs vs Lr → rs.length = vs.length := by
        intro rs
        induction rs with
        | nil => intro vs Lr h; cases vs <;> first | rfl | simp only [RRs] at h
        | cons r rs ih =>
          intro vs Lr h
          cases vs with
          | nil => simp only [RRs] at h
          | cons v vs =>
            simp only [RRs] at h
            obtain ⟨_, _, _, _, h⟩ := h
            simp [ih h]
      rw [← l2 rr, l1 e1, hn]
    refine ⟨by rw [hlen]; exact hl, fun p hp => ?_⟩
    obtain ⟨z1, z2⟩ := lay_owned (o := .tup vs) st2 hp
    have hpn : ∀ b ∈ Lw, b ≠ p := fun b hb z => by subst z; exact (o.cell b hb).1.1 hp
    have o' := o.stay (F' := F2) (H' := upd H1 p (.tup vs)) ⟨Same.refl F2, fun b hb => (o.cell b hb).2, fun b hb => upd_ne (hpn b hb)⟩
    refine ⟨p, vs, rfl, SqT.of upd_same, hlen, F2, en2, L2, ws, Lw, en', z1, o', nd2, e2, fun σ' F' H' L' st' f' x' => q2 σ' F' H' L' st' f' ?_⟩
    refine ((z2.frame Lw).trans (x'.mem (fun a h => ?_) fun a h => h))
    simp only [List.mem_append] at h ⊢
    rcases h with z | z <;> simp [z]
theorem ss_par2 {i j : Nat} {x y : Str} {a b : Expr} {fa fb : FE} {px py pt : Pos} {kt k2 pt2} (hc : X.calm = true) (hN : X.N.Nodup) (hi : X.N[i]? = some x) (hj : X.N[j]? = some y) (hij : i ≠ j)
    (hx : X.env.scope.names.lookup x = some .local) (hy : X.env.scope.names.lookup y = some .local) (fi : i ∉ fix) (fj : j ∉ fix) (ha : SA X [a, b] [fa, fb])
    (hw : swappedStores [.Tuple [.Name x px, .Name y py] kt pt] (.Tuple [a, b] k2 pt2) X.env = pure (some [x, y]))
    (hs : swapsWithSole [.Tuple [.Name x px, .Name y py] kt pt] (.Tuple [a, b] k2 pt2) pos.line X.env = pure false := by rfl) :
    SS X fix (.Assign [.Tuple [.Name x px, .Name y py] kt pt] (.Tuple [a, b] k2 pt2) pos) (sPar (gsCons (gN i) (gsCons (gN j) gsNil)) [fa, fb]) :=
  ps_imp (ps_par hc hN hi hj hij hx hy ha hw hs) fun D σ H q => by
    obtain ⟨F, en, L, en1, rs, st, e1, k⟩ := par_behind q
    refine ⟨F, en, L, en1, rs, st, e1, fun vs F1 H1 L1 Lr st1 rr nd x => ?_⟩
    obtain ⟨v, vs', rfl, z1⟩ := tGs_cons (k vs F1 H1 L1 Lr st1 rr nd x)
    obtain ⟨w, vs2, rfl, z2⟩ := tGs_cons (tG_name fi z1)
    obtain ⟨rfl, z3⟩ := tGs_nil (tG_name fj z2)
    exact ⟨v, w, rfl, z3⟩
theorem ss_par3 {i j l : Nat} {x y z : Str} {a b c : Expr} {fa fb fc : FE} {px py pz pt : Pos} {kt k2 pt2} (hc : X.calm = true) (hN : X.N.Nodup) (hi : X.N[i]? = some x) (hj : X.N[j]? = some y) (hl : X.N[l]? = some z) (hij : i ≠ j) (hil : i ≠ l) (hjl : j ≠ l)
    (hx : X.env.scope.names.lookup x = some .local) (hy : X.env.scope.names.lookup y = some .local) (hz : X.env.scope.names.lookup z = some .local) (fi : i ∉ fix) (fj : j ∉ fix) (fl : l ∉ fix) (ha : SA X [a, b, c] [fa, fb, fc])
    (hw : swappedStores [.Tuple [.Name x px, .Name y py, .Name z pz] kt pt] (.Tuple [a, b, c] k2 pt2) X.env = pure (some [x, y, z]))
    (hs : swapsWithSole [.Tuple [.Name x px, .Name y py, .Name z pz] kt pt] (.Tuple [a, b, c] k2 pt2) pos.line X.env = pure false := by rfl) :
    SS X fix (.Assign [.Tuple [.Name x px, .Name y py, .Name z pz] kt pt] (.Tuple [a, b, c] k2 pt2) pos) (sPar (gsCons (gN i) (gsCons (gN j) (gsCons (gN l) gsNil))) [fa, fb, fc]) :=
  ps_imp (ps_par3 hc hN hi hj hl hij hil hjl hx hy hz ha hw hs) fun D σ H q => by
    obtain ⟨F, en, L, en1, rs, st, e1, k⟩ := par_behind q
    refine ⟨F, en, L, en1, rs, st, e1, fun vs F1 H1 L1 Lr st1 rr nd x => ?_⟩
    obtain ⟨v, vs', rfl, z1⟩ := tGs_cons (k vs F1 H1 L1 Lr st1 rr nd x)
    obtain ⟨w, vs2, rfl, z2⟩ := tGs_cons (tG_name fi z1)
    obtain ⟨u, vs3, rfl, z3⟩ := tGs_cons (tG_name fj z2)
    obtain ⟨rfl, z4⟩ := tGs_nil (tG_name fl z3)
    exact ⟨v, w, u, rfl, z4⟩
/-- name op= e -/
def sAug (i : Nat) (g : En → List R → Option (En × R)) (f : FE) : FS := fun en => match evs [fVar i, f] en with
  | none => none
  | some (en1, rs) => match g en1 rs with
    | none => none
    | some (en2, r) => match r.tk en2 with
      | none => none
      | some (en3, w) => if i < en3.length then some (en3.set i w, .nx) else none
end
end Pu
namespace Pu
variable [TabN]
open PySem PySem.Spec PyProof.Rows L2
section
variable {K : PySem.W.Frag} {mg : Str → Option Value} {σ : L2.St}
/-- expressions while a thing of one's own is held -/
theorem evs_with {F H : Hp} {en en1 : En} {L Lw : List Addr} {fs : List FE} {rs : List R} {w : W} {v : V} {Q : List V → Hp → Prop} (st : StOk K mg F H σ en L) (o : Own K mg F H w v Lw) (nd : (L ++ Lw).Nodup) (e : evs fs en = some (en1, rs))
    (q : ∀ vs F1 H1 L1 Lr1, StOk K mg F1 H1 σ en1 L1 → RRs K mg F1 H1 σ en1 L1 rs vs Lr1 → Own K mg F1 H1 w v Lw → (L1 ++ (Lr1 ++ Lw)).Nodup → Ext F H (L ++ Lw) F1 H1 (L1 ++ (Lr1 ++ Lw)) → Q vs H1) : tEv K mg fs σ H Q := by
  refine ⟨F, en, L, en1, rs, st, e, fun vs F1 H1 L1 Lr1 st1 rr1 nd1 x1 => ?_⟩
  obtain ⟨n1, n2, n3⟩ := nd_app nd
  obtain ⟨m1, m2, m3⟩ := nd_app nd1
  have dj : ∀ b ∈ Lw, b ∉ L := fun b hb hb' => n3 b hb' hb
  have ap := x1.apart (M := Lw) fun b hb => ⟨dj b hb, (o.cell b hb).1.1⟩
  refine q vs F1 H1 L1 Lr1 st1 rr1 (o.stay (x1.stay fun b hb => ⟨dj b hb, o.cell b hb⟩)) ?_ ?_
  · refine nd_of m1 (nd_of m2 n2 fun b hb hb' => ap b (by simp [hb]) b hb' rfl) fun b hb hb' => ?_
    rcases List.mem_append.mp hb' with z | z
    · exact m3 b hb z
    · exact ap b (by simp [hb]) b z rfl
  · exact (x1.frame Lw).mem (fun a h => h) fun a h => by simpa using h
/-- a list at a place is written -/
theorem write_at {F H : Hp} {en : En} {L : List Addr} {i : Nat} {p : List Nat} {ws : List W} {v : V} {La Lm Lb : List Addr} (st : StOk K mg F H σ en L) (P : PartO K mg F H σ en L i p (.lst ws) v La Lm Lb) :
    ∃ a xs L', v = .ref a ∧ H a = some (.lst xs) ∧ Lm = a :: L' ∧ Owns K mg F H ws xs L' ∧ (a :: L').Nodup ∧
      ∀ (ws' : List W) (xs' : List V) (Ln : List Addr), Owns K mg F H ws' xs' Ln → Ln.Nodup → (∀ b ∈ Ln, b ≠ a ∧ b ∉ La ++ Lb) →
        StOk K mg F (upd H a (.lst xs')) σ (en.put i p (.lst ws')) (La ++ (a :: (Ln ++ Lb))) ∧ ∀ M : List Addr, (∀ b ∈ La ++ (a :: (Ln ++ Lb)), b ∈ M) → Ext F H M F (upd H a (.lst xs')) (La ++ (a :: (Ln ++ Lb))) := by
  obtain ⟨g, eL, o, kk⟩ := P
  simp only [Own] at o
  obtain ⟨a, xs, L', rfl, h2, h3, rfl, h5⟩ := o
  subst eL
  have nd0 := st.nd
  have cl := st.cell
  obtain ⟨n1, n2⟩ := nodup3 nd0
  have nm : (a :: L').Nodup := (nd_app (nd_app nd0).2.1).1
  refine ⟨a, xs, L', rfl, h2, rfl, h5, nm, fun ws' xs' Ln ow nn dj => ?_⟩
  have hne : ∀ b ∈ La ++ Lb, b ≠ a := fun b hb z => n2 b hb (by simp [z])
  have cl2 : ∀ b ∈ La ++ Lb, F b = none := fun b hb => (cl b (by simp only [List.mem_append] at hb ⊢; rcases hb with z | z <;> simp [z])).2
  have sub : Same F (upd H a (.lst xs')) := fun b u e => by
    have hb : b ≠ a := fun z => by subst z; rw [h3] at e; cases e
    rw [upd_ne hb]
    exact st.sub b u e
  have hs : Stay F H F (upd H a (.lst xs')) (La ++ Lb) := ⟨Same.refl F, cl2, fun b hb => upd_ne (hne b hb)⟩
  have own' : Own K mg F (upd H a (.lst xs')) (.lst ws') (.ref a) (a :: Ln) := by
    simp only [Own]
    exact ⟨a, xs', Ln, rfl, upd_same, h3, rfl, ow.stay ⟨Same.refl F, fun b hb => (ow.cell b hb).2, fun b hb => upd_ne (dj b hb).1⟩⟩
  have q := kk F (upd H a (.lst xs')) (.lst ws') (a :: Ln) hs own'
  refine ⟨⟨sub, ?_, q, st.tb.upd fun ps z => by rw [h2] at z; cases z⟩, fun M hM => Ext.of (fun b u e nb => ?_) (tbl_upd fun ps z => by rw [h2] at z; cases z) (fun b e => ?_) (Same.refl F) (fun b e => .inl e) (fun b hb => .inl (hM b hb))⟩
  · obtain ⟨q1, q2, q3⟩ := nd_app n1
    refine nd_of q1 (List.nodup_cons.mpr ⟨fun z => ?_, nd_of nn q2 fun b hb hb' => (dj b hb).2 (by simp [hb'])⟩) fun b hb hb' => ?_
    · rcases List.mem_append.mp z with z | z
      · exact (dj a z).1 rfl
      · exact hne a (by simp [z]) rfl
    · rcases List.mem_cons.mp hb' with z | z
      · exact hne b (by simp [hb]) z
      · rcases List.mem_append.mp z with y | y
        · exact (dj b y).2 (by simp [hb])
        · exact q3 b hb y
  · have hb : b ≠ a := fun z => nb (hM b (by simp [z]))
    rw [upd_ne hb]
    exact e
  · by_cases z : b = a
    · subst z; rw [upd_same]; simp
    · rw [upd_ne z]; exact e
theorem Owns.append {F H : Hp} : ∀ {ws us : List W} {vs xs : List V} {L M : List Addr}, Owns K mg F H ws vs L → Owns K mg F H us xs M → Owns K mg F H (ws ++ us) (vs ++ xs) (L ++ M)
  | [], us, [], xs, L, M, h, h' => by
    simp only [Owns] at h
    subst h
    simpa using h'
  | w :: ws, us, v :: vs, xs, L, M, h, h' => by
    simp only [Owns] at h
    obtain ⟨A, B, rfl, h1, h2⟩ := h
    simp only [List.cons_append, Owns]
    exact ⟨A, B ++ M, by simp, h1, h2.append h'⟩
  | [], _, _ :: _, _, _, _, h, _ => by simp only [Owns] at h
  | _ :: _, _, [], _, _, _, h, _ => by simp only [Owns] at h
theorem Owns.one {F H : Hp} {w : W} {v : V} {L : List Addr} (h : Own K mg F H w v L) : Owns K mg F H [w] [v] L := by
  simp only [Owns]
  exact ⟨L, [], by simp, h, rfl⟩
end
def gSetI (fo fi : FE) : FG := fun en w => match evs [fo, fi] en with
  | some (en1, [.pl k [], r2]) => match r2.d en1 with
    | some (.int n) => match en1[k]? with
      | some (.lst ws) => match ixN ws.length n with
        | some j => some (en1.put k [] (.lst (ws.set j w)))
        | none => none
      | _ => none
    | _ => none
  | _ => none
section
variable {X : Cx} {fix : List Nat} {o i : Expr} {fo fi : FE} {pos p2 : Pos}
theorem sg_sub (ho : SE X o fo) (hi : SE X i fi) (hp : PG X (.Subscript o i pos) (gSub (tS X.K X.mg fo) (tS X.K X.mg fi) rSetL)) : SG X fix (.Subscript o i pos) (gSetI fo fi) :=
  pg_imp hp fun v σ H Q q => by
    obtain ⟨F, en, L, w, Lw, en', st, ow, nd, e, q⟩ := q
    unfold gSetI at e
    split at e
    · rename_i en1 k r2 e1
      split at e
      · rename_i n en2
        split at e
        · rename_i ws ew
          split at e
          · rename_i j ej
            cases e
            refine tEv_two (K := X.K) (mg := X.mg) (R := fun a b H2 => rSetL a b v H2 fun H3 => Q σ H3) (evs_with st ow nd e1 fun vs F1 H1 L1 Lr1 st1 rr1 ow1 nd1 x1 => ?_)
            obtain ⟨v1, v2, A, B, rfl, rfl, h1, h2⟩ := rrs2 rr1
            refine ⟨v1, v2, rfl, ?_⟩
            have := rep_int (h2.peek st1 en2)
            subst this
            simp only [RR] at h1
            obtain ⟨rfl, hσ⟩ := h1
            obtain ⟨w0, La, Lm, Lb, P⟩ := part_name st1.own hσ
            have hw0 : w0 = .lst ws := by
              have g := P.1
              simp only [En.get, ew, W.get, Option.some.injEq] at g
              exact g.symm
            subst hw0
            have eL := P.2.1
            obtain ⟨a, xs, L', rfl, ha, rfl, ho, na, wr⟩ := write_at st1 P
            subst eL
            have hj : ixN xs.length n = some j := by rw [← ho.len]; exact ej
            have hjlt : j < ws.length := (ixN_seq ej).2.1
            obtain ⟨y, Ma, Mm, Mb, z1, z2, z3, z4⟩ := ho.get (List.getElem?_eq_getElem hjlt)
            subst z2
            have cl1 := st1.cell
            have so : Stay F1 H1 F1 H1 (Ma ++ Mb) := ⟨Same.refl F1, fun b hb => (ho.cell b (by simp only [List.mem_append] at hb ⊢; rcases hb with z | z <;> simp [z])).2, fun _ _ => rfl⟩
            have o2 := z4 F1 H1 w v Lw so ow1
            have nd1' : ((La ++ (a :: (Ma ++ (Mm ++ Mb)) ++ Lb)) ++ ((([] : List Addr) ++ B) ++ Lw)).Nodup := nd1
            obtain ⟨k1, k2, k3⟩ := nd_app nd1'
            have lw : ∀ b ∈ Lw, b ∉ La ++ (a :: (Ma ++ (Mm ++ Mb)) ++ Lb) := fun b hb hb' => k3 b hb' (by simp [hb])
            have ndL : Lw.Nodup := (nd_app k2).2.1
            have nMM := (List.nodup_cons.mp na).2
            obtain ⟨j1, j2, j3⟩ := nd_app nMM
            obtain ⟨j4, j5, j6⟩ := nd_app j2
            have nLL := nodup3 k1
            obtain ⟨st2, ex⟩ := wr _ _ _ o2 (nd_of j1 (nd_of ndL j5 fun b hb hb' => lw b hb (by simp [hb'])) fun b hb hb' => by
              rcases List.mem_append.mp hb' with z | z
              · exact lw b z (by simp [hb])
              · exact j3 b hb (by simp [z])) fun b hb => by
                have na' := (List.nodup_cons.mp na).1
                simp only [List.mem_append] at hb
                refine ⟨fun z => ?_, fun z => ?_⟩
                · subst z
                  rcases hb with y | y | y
                  · exact na' (by simp [y])
                  · exact lw b y (by simp)
                  · exact na' (by simp [y])
                · rcases hb with y | y | y
                  · exact nLL.2 b z (by simp [y])
                  · simp only [List.mem_append] at z
                    rcases z with z | z
                    · exact lw b y (by simp [z])
                    · exact lw b y (by simp [z])
                  · exact nLL.2 b z (by simp [y])
            refine ⟨a, xs, n, j, rfl, rfl, ha, hj, q σ F1 _ _ st2 Fixed.refl (x1.trans (ex _ fun b hb => ?_))⟩
            simp only [List.mem_append, List.mem_cons] at hb ⊢
            rcases hb with z | z | (z | z | z) | z <;> simp [z]
          · cases e
        · cases e
      · cases e
    · cases e
end
section
variable {K : PySem.W.Frag} {mg : Str → Option Value} {σ : L2.St}
theorem tyV_list {T : String} {a : Addr} {xs : List V} {H : Hp} (h : H a = some (.lst xs)) (hT : T = "list") : tyV K T (.ref a) H := .inl ⟨hT, xs, SqL.of h⟩
/-- a name's list at the time of its first reading -/
theorem name_list {F H : Hp} {en : En} {L : List Addr} {k : Nat} {v : V} (st : StOk K mg F H σ en L) (hσ : σ[k]? = some (some v)) {ws : List W} (hw : en[k]? = some (.lst ws)) : ∃ a xs, v = .ref a ∧ H a = some (.lst xs) := by
  obtain ⟨w0, La, Lm, Lb, P⟩ := part_name st.own hσ
  have g := P.1
  simp only [En.get, hw, W.get, Option.some.injEq] at g
  subst g
  have o := P.2.2.1
  simp only [Own] at o
  obtain ⟨a, xs, _, e, h, _⟩ := o
  exact ⟨a, xs, e, h⟩
end
theorem nd_mid {α : Type} {La Lb : List α} {a : α} {L' Lw : List α} (h : ((La ++ (a :: L' ++ Lb)) ++ Lw).Nodup) : (L' ++ Lw).Nodup ∧ (∀ b ∈ L' ++ Lw, b ≠ a ∧ b ∉ La ++ Lb) := by
  obtain ⟨k1, k2, k3⟩ := nd_app h
  obtain ⟨q1, q2, q3⟩ := nd_app k1
  have q2' : (a :: (L' ++ Lb)).Nodup := by simpa using q2
  obtain ⟨na, q4⟩ := List.nodup_cons.mp q2'
  obtain ⟨q5, q6, q7⟩ := nd_app q4
  refine ⟨nd_of q5 k2 fun b hb hb' => k3 b (by simp [hb]) hb', fun b hb => ?_⟩
  rcases List.mem_append.mp hb with z | z
  · refine ⟨fun e => na (by simp [← e, z]), fun y => ?_⟩
    rcases List.mem_append.mp y with y | y
    · exact q3 b y (by simp [z])
    · exact q7 b z y
  · refine ⟨fun e => k3 a (by simp) (e ▸ z), fun y => ?_⟩
    rcases List.mem_append.mp y with y | y
    · exact k3 b (by simp [y]) z
    · exact k3 b (by simp [y]) z
/-- what a method of one argument makes of a list -/
abbrev FM := List W → W → Option (List W × W)
def MutOk (K : PySem.W.Frag) (mg : Str → Option Value) (r : V → List V → Hp → VK → Prop) (m : FM) : Prop :=
  ∀ (F H : Hp) (a : Addr) (ws : List W) (w : W) (ws' : List W) (z : W) (xs : List V) (v : V) (L' Lw : List Addr) (Q : VK), m ws w = some (ws', z) → Owns K mg F H ws xs L' → Own K mg F H w v Lw → Same F H → H a = some (.lst xs) → (L' ++ Lw).Nodup → a ∉ L' ++ Lw →
    ∃ xs' y Ln Lz, Owns K mg F H ws' xs' Ln ∧ Own K mg F H z y Lz ∧ (Ln ++ Lz).Nodup ∧ (∀ b ∈ Ln ++ Lz, b ∈ L' ++ Lw) ∧ (Q y (upd H a (.lst xs')) → r (.ref a) [v] H Q)
def mApp : FM := fun ws w => if ws.length < sizeLine then some (ws ++ [w], .sh .non) else none
def mPopAt : FM := fun ws w => match w with
  | .sh (.int i) => if -(2 ^ 63) ≤ i ∧ i < 2 ^ 63 then match seqIndex? i ws.length with
    | some k => match ws[k]? with
      | some z => some (ws.eraseIdx k, z)
      | none => none
    | none => none else none
  | _ => none
def mExt : FM := fun ws w => match w with
  | .sh (.lst ds) => if ws.length + ds.length ≤ sizeLine then some (ws ++ ds.map W.sh, .sh .non) else none
  | .lst us => if ws.length + us.length ≤ sizeLine then some (ws ++ us, .sh .non) else none
  | _ => none
section
variable {K : PySem.W.Frag} {mg : Str → Option Value}
theorem mut_app : MutOk K mg rAppend mApp := by
  intro F H a ws w ws' z xs v L' Lw Q e o ow s ha nd na
  unfold mApp at e
  split at e
  · rename_i hl
    cases e
    exact ⟨xs ++ [v], .non, L' ++ Lw, [], o.append (Owns.one ow), own_sh (rep_v rfl), by simpa using nd, fun b hb => by simpa using hb, fun q => ⟨a, xs, v, rfl, rfl, ha, by rw [← o.len]; exact hl, q⟩⟩
  · cases e
theorem Owns.erase {F H : Hp} : ∀ {ws : List W} {vs : List V} {L : List Addr} {k : Nat} {w : W}, Owns K mg F H ws vs L → ws[k]? = some w → ∃ v La Lm Lb, vs[k]? = some v ∧ L = La ++ (Lm ++ Lb) ∧ Own K mg F H w v Lm ∧ Owns K mg F H (ws.eraseIdx k) (vs.eraseIdx k) (La ++ Lb)
  | [], _, _, _, _, _, e => by simp at e
  | _ :: _, [], _, _, _, h, _ => by simp only [Owns] at h
  | w0 :: ws, v0 :: vs, L, 0, w, h, e => by
    simp only [Owns] at h
    obtain ⟨A, B, rfl, h1, h2⟩ := h
    simp only [List.getElem?_cons_zero, Option.some.injEq] at e
    subst e
    exact ⟨v0, [], A, B, rfl, rfl, h1, by simpa using h2⟩
  | w0 :: ws, v0 :: vs, L, k + 1, w, h, e => by
    simp only [Owns] at h
    obtain ⟨A, B, rfl, h1, h2⟩ := h
    simp only [List.getElem?_cons_succ] at e
    obtain ⟨v, La, Lm, Lb, e1, rfl, e3, e4⟩ := h2.erase e
    refine ⟨v, A ++ La, Lm, Lb, by simpa using e1, by simp, e3, ?_⟩
    simp only [List.eraseIdx_cons_succ, Owns]
    exact ⟨A, La ++ Lb, by simp, h1, e4⟩
theorem mut_popAt : MutOk K mg rPopAt mPopAt := by
  intro F H a ws w ws' z xs v L' Lw Q e o ow s ha nd na
  unfold mPopAt at e
  split at e
  · rename_i i
    split at e
    · rename_i hi
      split at e
      · rename_i k hk
        split at e
        · rename_i z' hz
          cases e
          simp only [Own] at ow
          have := rep_int ow.1
          subst this
          obtain ⟨y, La, Lm, Lb, e1, rfl, e3, e4⟩ := o.erase hz
          refine ⟨xs.eraseIdx k, y, La ++ Lb, Lm, e4, e3, ?_, fun b hb => ?_, fun q => ⟨a, xs, i, k, y, rfl, rfl, ha, hi.1, hi.2, by rw [← o.len]; exact hk, e1, q⟩⟩
          · obtain ⟨n1, n2⟩ := nodup3 (nd_app nd).1
            exact nd_of n1 (nd_app (nd_app (nd_app nd).1).2.1).1 n2
          · simp only [List.mem_append] at hb ⊢
            rcases hb with (y | y) | y <;> simp [y]
        · cases e
      · cases e
    · cases e
  · cases e
theorem mut_ext : MutOk K mg rExtend mExt := by
  intro F H a ws w ws' z xs v L' Lw Q e o ow s ha nd na
  unfold mExt at e
  split at e
  · rename_i ds
    split at e
    · rename_i hl
      cases e
      simp only [Own, Rep] at ow
      obtain ⟨⟨b, ys, rfl, hb, rp⟩, rfl⟩ := ow
      refine ⟨xs ++ ys, .non, L' ++ [], [], o.append (owns_sh rp), own_sh (rep_v rfl), by simpa using nd, fun b hb => by simpa using hb, fun q => ⟨a, b, xs, ys, rfl, rfl, ha, s _ _ hb, by rw [← o.len, ← rp.len]; exact hl, q⟩⟩
    · cases e
  · rename_i us
    split at e
    · rename_i hl
      cases e
      simp only [Own] at ow
      obtain ⟨b, ys, Lu, rfl, hb, hfb, rfl, ou⟩ := ow
      obtain ⟨n1, n2, n3⟩ := nd_app nd
      refine ⟨xs ++ ys, .non, L' ++ Lu, [], o.append ou, own_sh (rep_v rfl), ?_, fun c hc => ?_, fun q => ⟨a, b, xs, ys, rfl, rfl, ha, hb, by rw [← o.len, ← ou.len]; exact hl, q⟩⟩
      · simpa using nd_of n1 (List.nodup_cons.mp n2).2 fun c hc hc' => n3 c hc (by simp [hc'])
      · simp only [List.mem_append, List.not_mem_nil, or_false] at hc
        rcases hc with y | y <;> simp [y]
    · cases e
  · cases e
/-- the method's call at a place -/
theorem mut_place {F H : Hp} {σ : L2.St} {en : En} {L Lw : List Addr} {i : Nat} {p : List Nat} {ws ws' : List W} {w z : W} {v x : V} {La Lm Lb : List Addr} {r : V → List V → Hp → VK → Prop} {m : FM} {Q : VK} (hm : MutOk K mg r m) (st : StOk K mg F H σ en L) (P : PartO K mg F H σ en L i p (.lst ws) x La Lm Lb) (ow : Own K mg F H w v Lw) (nd : (L ++ Lw).Nodup) (e : m ws w = some (ws', z))
    (q : ∀ y F' H' L' Lr', StOk K mg F' H' σ (en.put i p (.lst ws')) L' → RR K mg F' H' σ (en.put i p (.lst ws')) L' (.val z) y Lr' → (L' ++ Lr').Nodup → Ext F H (L ++ Lw) F' H' (L' ++ Lr') → Q y H') : r x [v] H Q := by
  have eL := P.2.1
  obtain ⟨a, xs, L', rfl, ha, rfl, ho, na, wr⟩ := write_at st P
  subst eL
  obtain ⟨nn, sep⟩ := nd_mid (by simpa using nd : ((La ++ (a :: L' ++ Lb)) ++ Lw).Nodup)
  obtain ⟨xs', y, Ln, Lz, o1, o2, nz, sub, k⟩ := hm F H a ws w ws' z xs v L' Lw Q e ho ow st.sub ha nn fun h => (sep a h).1 rfl
  refine k ?_
  obtain ⟨st2, ex⟩ := wr ws' xs' Ln o1 (nd_app nz).1 fun b hb => sep b (sub b (by simp [hb]))
  have dz : ∀ b ∈ Lz, b ≠ a ∧ b ∉ La ++ Lb := fun b hb => sep b (sub b (by simp [hb]))
  refine q y F _ _ Lz st2 (by simp only [RR]; exact o2.stay ⟨Same.refl F, fun b hb => (o2.cell b hb).2, fun b hb => upd_ne (dz b hb).1⟩) ?_ ?_
  · refine nd_of st2.nd (nd_app nz).2.1 fun b hb hb' => ?_
    rcases List.mem_append.mp hb with y | y
    · exact (dz b hb').2 (by simp [y])
    · rcases List.mem_cons.mp y with y | y
      · exact (dz b hb').1 y
      · rcases List.mem_append.mp y with y | y
        · exact (nd_app nz).2.2 b y hb'
        · exact (dz b hb').2 (by simp [y])
  · have ex2 := ex ((La ++ (a :: L' ++ Lb)) ++ Lw) fun b hb => by
      simp only [List.mem_append, List.mem_cons] at hb ⊢
      rcases hb with y | y | y | y
      · simp [y]
      · simp [y]
      · have := sub b (by simp [y])
        simp only [List.mem_append] at this
        rcases this with y | y <;> simp [y]
      · simp [y]
    refine ⟨ex2.kept, ex2.tbk, ex2.tab, ex2.there, ex2.sub, ex2.newF, fun b hb => ?_⟩
    rcases List.mem_append.mp hb with y | y
    · exact ex2.newL b y
    · left
      have := sub b (by simp [y])
      simp only [List.mem_append, List.mem_cons] at this ⊢
      rcases this with y | y <;> simp [y]
end
/-- the base is the name at i, the argument any expression -/
def fMutN (i : Nat) (m : FM) (fe : FE) : FE := fun en => match en[i]? with
  | some (.lst _) => match fe en with
    | none => none
    | some (en1, r) => match r.tk en1 with
      | none => none
      | some (en2, w) => match en2[i]? with
        | some (.lst ws) => match m ws w with
          | some (ws', z) => some (en2.put i [] (.lst ws'), .val z)
          | none => none
        | _ => none
  | _ => none
/-- a quiet expression: a frozen thing, read without a step -/
def tQ (K : PySem.W.Frag) (mg : Str → Option Value) (f : En → Option D) : TE := fun σ H Q => ∃ F en L d, StOk K mg F H σ en L ∧ f en = some d ∧ ∀ v, Rep K mg F d v → Q v H
abbrev SQ (X : Cx) (e : Expr) (f : En → Option D) : Prop := PE X e (tQ X.K X.mg f)
def qC (d : D) : En → Option D := fun _ => some d
def qV (i : Nat) : En → Option D := fun en => match en[i]? with
  | some (.sh .any) => none
  | some (.sh d) => some d
  | _ => none
def fMutP (m : FM) (fo : FE) (fa : En → Option D) : FE := fun en => match fo en with
  | some (en1, .pl i p) => match fa en1 with
    | some d => match en1.get i p with
      | some (.lst ws) => match m ws (.sh d) with
        | some (ws', z) => some (en1.put i p (.lst ws'), .val z)
        | none => none
      | _ => none
    | none => none
  | _ => none
section
variable {X : Cx} {o e : Expr} {i : Nat} {fo fe : FE} {fa : En → Option D} {apos cpos : Pos} {r : V → List V → Hp → VK → Prop} {m : FM}
theorem sq_var (h : PE X e (tVar i)) : SQ X e (qV i) := pe_imp h fun σ H Q q => by
  obtain ⟨F, en, L, d', st, e, k⟩ := q
  unfold qV at e
  split at e
  · cases e
  · rename_i d hne hw
    cases e
    obtain ⟨o, La, Lm, Lb, e1, e2, e3, e4⟩ := st.own.get hw
    rcases e3 with ⟨v, rfl, ho⟩ | ⟨_, z, _⟩
    · simp only [Own] at ho
      exact ⟨v, e1, k v ho.1⟩
    · cases z
      exact absurd rfl hne
  · cases e
theorem mutN_ok (hm : MutOk X.K X.mg r m) {σ : L2.St} {H : Hp} {Q : VK} (q : tS X.K X.mg (fMutN i m fe) σ H Q) : tBM X.K "list" r (tVar i) (tCons (tS X.K X.mg fe) tNil) σ H Q := by
  obtain ⟨F, en, L, en', r', st, e, k⟩ := q
  unfold fMutN at e
  split at e
  · rename_i ws0 hw0
    split at e
    · cases e
    rename_i en1 r1 e1
    split at e
    · cases e
    rename_i en2 w e2
    split at e
    · rename_i ws hw
      split at e
      · rename_i ws' z em
        cases e
        obtain ⟨o, La, Lm, Lb, g1, g2, g3, _⟩ := st.own.get hw0
        rcases g3 with ⟨v, rfl, ho⟩ | ⟨_, z, _⟩
        · obtain ⟨a, xs, rfl, ha⟩ := name_list st g1 hw0
          refine ⟨_, g1, tyV_list ha rfl, ?_⟩
          refine ⟨F, en, L, en1, r1, st, e1, fun v1 F1 H1 L1 Lr st1 rr nd x => ?_⟩
          obtain ⟨F2, L2, Lr2, st2, o2, nd2, x2⟩ := rr.tk st1 nd e2
          obtain ⟨w1, Ma, Mm, Mb, P⟩ := part_name st2.own g1
          have hw1 : w1 = .lst ws := by
            have g := P.1
            simp only [En.get, hw, W.get, Option.some.injEq] at g
            exact g.symm
          subst hw1
          exact mut_place hm st2 P o2 nd2 em fun y F' H' L' Lr' a b c d => k y F' H' L' Lr' a b c (x.trans (x2.trans d))
        · cases z
      · cases e
    · cases e
  · cases e
theorem mutP_ok (hm : MutOk X.K X.mg r m) {σ : L2.St} {H : Hp} {Q : VK} (q : tS X.K X.mg (fMutP m fo fa) σ H Q) : tBM X.K "list" r (tS X.K X.mg fo) (tCons (tQ X.K X.mg fa) tNil) σ H Q := by
  obtain ⟨F, en, L, en', r', st, e, k⟩ := q
  unfold fMutP at e
  split at e
  · rename_i en1 j p e1
    split at e
    · rename_i d ed
      split at e
      · rename_i ws hw
        split at e
        · rename_i ws' z em
          cases e
          refine ⟨F, en, L, en1, .pl j p, st, e1, fun v F1 H1 L1 Lr st1 rr nd x => ?_⟩
          obtain ⟨rfl, w1, Ma, Mm, Mb, P⟩ := RR.part st1 rr
          have hw1 : w1 = .lst ws := by
            have g := P.1
            rw [hw] at g
            cases g
            rfl
          subst hw1
          have o := P.2.2.1
          have o2 := o
          simp only [Own] at o2
          obtain ⟨a, xs, _, rfl, ha, _⟩ := o2
          refine ⟨tyV_list ha rfl, F1, en1, L1, d, st1, ed, fun v1 hv1 => ?_⟩
          exact mut_place hm st1 P (own_sh hv1) nd em fun y F' H' L' Lr' a b c d => k y F' H' L' Lr' a b c (x.trans d)
        · cases e
      · cases e
    · cases e
  · cases e

abbrev HBase (X : Cx) (o : Expr) (name : Str) : Prop := attributeBase o name X.env (eval o X.env) = eval o X.env
abbrev HFew (X : Cx) (es : List Expr) (cpos : Pos) : Prop := ((backTo cpos (starEach es X.env)).all (fun x => !x.1) && (backToKw cpos (keywordEach [] X.env)).all (fun x => x.1.isSome) && decide (es.length + ([] : List Keyword).length + (if ([] : List Keyword).isEmpty then 0 else 1) < 30)) = true
abbrev HStar (X : Cx) (e : Expr) : Prop := starEach [e] X.env = [(false, eval e X.env)]
section
variable (hb : HBase X o "append") (hf : HFew X [e] cpos) (hl : (apos.endLine == cpos.line) = true) (hs : HStar X e)
include hb hf hl hs
theorem se_appN (ho : PE X o (tVar i)) (he : SE X e fe) : SE X (.Call (.Attribute o "append" apos) [e] [] cpos) (fMutN i mApp fe) :=
  pe_imp (pe_bm PySem.F.plainAttrs_list PySem.F.slot_list_append PySem.F.type_list_append mt_append ho (pa_cons he pa_nil hs) hb hf hl hs rfl) fun _ _ _ q => mutN_ok mut_app q
theorem se_appP (ho : SE X o fo) (he : SQ X e fa) : SE X (.Call (.Attribute o "append" apos) [e] [] cpos) (fMutP mApp fo fa) :=
  pe_imp (pe_bm PySem.F.plainAttrs_list PySem.F.slot_list_append PySem.F.type_list_append mt_append ho (pa_cons he pa_nil hs) hb hf hl hs rfl) fun _ _ _ q => mutP_ok mut_app q
end
section
variable (hb : HBase X o "extend") (hf : HFew X [e] cpos) (hl : (apos.endLine == cpos.line) = true) (hs : HStar X e)
include hb hf hl hs
end
section
variable (hb : HBase X o "pop") (hf : HFew X [e] cpos) (hl : (apos.endLine == cpos.line) = true) (hs : HStar X e)
include hb hf hl hs
theorem se_popAtN (ho : PE X o (tVar i)) (he : SE X e fe) : SE X (.Call (.Attribute o "pop" apos) [e] [] cpos) (fMutN i mPopAt fe) :=
  pe_imp (pe_bm PySem.F.plainAttrs_list PySem.F.slot_list_pop PySem.F.type_list_pop mt_popAt ho (pa_cons he pa_nil hs) hb hf hl hs rfl) fun _ _ _ q => mutN_ok mut_popAt q
end
def fPop (fo : FE) : FE := fun en => match fo en with
  | some (en1, .pl i p) => match en1.get i p with
    | some (.lst ws) => match ws[ws.length - 1]? with
      | some w => some (en1.put i p (.lst ws.dropLast), .val w)
      | none => none
    | _ => none
  | _ => none
theorem Owns.dropLast {K : PySem.W.Frag} {mg : Str → Option Value} {F H : Hp} {ws : List W} {vs : List V} {L : List Addr} {w : W} (h : Owns K mg F H ws vs L) (e : ws[ws.length - 1]? = some w) : ∃ v La Lm Lb, vs[vs.length - 1]? = some v ∧ L = La ++ (Lm ++ Lb) ∧ Own K mg F H w v Lm ∧ Owns K mg F H ws.dropLast vs.dropLast (La ++ Lb) := by
  obtain ⟨v, La, Lm, Lb, e1, e2, e3, e4⟩ := h.erase e
  refine ⟨v, La, Lm, Lb, by rw [← h.len]; exact e1, e2, e3, ?_⟩
  have l1 : ws.eraseIdx (ws.length - 1) = ws.dropLast := List.eraseIdx_length_sub_one
  have l2 : vs.eraseIdx (ws.length - 1) = vs.dropLast := by rw [h.len]; exact List.eraseIdx_length_sub_one
  rw [l1, l2] at e4
  exact e4
theorem se_pop (hb : HBase X o "pop") (hl : (apos.endLine == cpos.line) = true) (ho : SE X o fo) : SE X (.Call (.Attribute o "pop" apos) [] [] cpos) (fPop fo) :=
  pe_imp (pe_bm0 PySem.F.plainAttrs_list PySem.F.slot_list_pop PySem.F.type_list_pop mt_pop ho hb hl) fun σ H Q q => by
    obtain ⟨F, en, L, en', r', st, e, k⟩ := q
    unfold fPop at e
    split at e
    · rename_i en1 j p e1
      split at e
      · rename_i ws hw
        split at e
        · rename_i w ew
          cases e
          refine ⟨F, en, L, en1, .pl j p, st, e1, fun v F1 H1 L1 Lr st1 rr nd x => ?_⟩
          obtain ⟨rfl, w1, Ma, Mm, Mb, P⟩ := RR.part st1 rr
          have hw1 : w1 = .lst ws := by
            have g := P.1
            rw [hw] at g
            cases g
            rfl
          subst hw1
          have eL := P.2.1
          obtain ⟨a, xs, L', rfl, ha, rfl, ho, na, wr⟩ := write_at st1 P
          subst eL
          obtain ⟨y, La, Lm, Lb, z1, rfl, z3, z4⟩ := ho.dropLast ew
          have nd0 : ((Ma ++ (a :: (La ++ (Lm ++ Lb)) ++ Mb)) ++ ([] : List Addr)).Nodup := by simpa using st1.nd
          obtain ⟨nn, sep⟩ := nd_mid nd0
          have nn' : (La ++ (Lm ++ Lb)).Nodup := by simpa using nn
          obtain ⟨m1, m2⟩ := nodup3 nn'
          obtain ⟨st2, ex⟩ := wr ws.dropLast xs.dropLast (La ++ Lb) z4 m1 fun b hb => sep b (by simp only [List.mem_append] at hb ⊢; rcases hb with z | z <;> simp [z])
          refine ⟨tyV_list ha rfl, a, xs, y, rfl, rfl, ha, z1, ?_⟩
          have dz : ∀ b ∈ Lm, b ≠ a ∧ b ∉ Ma ++ Mb := fun b hb => sep b (by simp [hb])
          refine k y F1 _ _ Lm st2 (by simp only [RR]; exact z3.stay ⟨Same.refl F1, fun b hb => (z3.cell b hb).2, fun b hb => upd_ne (dz b hb).1⟩) ?_ (x.trans ?_)
          · refine nd_of st2.nd (nd_app (nd_app nn').2.1).1 fun b hb hb' => ?_
            simp only [List.mem_append, List.mem_cons] at hb
            rcases hb with y | y | (y | y) | y
            · exact (dz b hb').2 (by simp [y])
            · exact (dz b hb').1 y
            · exact m2 b (by simp [y]) hb'
            · exact m2 b (by simp [y]) hb'
            · exact (dz b hb').2 (by simp [y])
          · have ex2 := ex (Ma ++ (a :: (La ++ (Lm ++ Lb)) ++ Mb)) fun b hb => by
              simp only [List.mem_append, List.mem_cons] at hb ⊢
              rcases hb with y | y | (y | y) | y <;> simp [y]
            refine Ext.mem (L := Ma ++ (a :: (La ++ (Lm ++ Lb)) ++ Mb)) ⟨ex2.kept, ex2.tbk, ex2.tab, ex2.there, ex2.sub, ex2.newF, fun b hb => ?_⟩ (fun a h => by simpa using h) fun a h => h
            rcases List.mem_append.mp hb with y | y
            · exact ex2.newL b y
            · left
              simp only [List.mem_append, List.mem_cons]
              simp [y]
        · cases e
      · cases e
    · cases e
end
end Pu
namespace Pu
variable [TabN]
open PySem PySem.Spec PyProof.Rows L2
/-- the class c has the slot f at its place k -/
structure ClsF (K : PySem.W.Frag) (mg : Str → Option Value) (c f : Str) (k : Nat) : Prop where
  ok : ∀ C, mg c = some (.ref C) → SlX.SCls K C ∧ ∃ p, SlX.Slot1 K C f p k

def fFld (c : Str) (k : Nat) (fo : FE) : FE := fun en => match fo en with
  | some (en1, .val (.sh (.ins c' ds))) => if c' = c then (match ds[k]? with
    | some .any => none
    | some d => some (en1, .val (.sh d))
    | none => none) else none
  | some (en1, .pl i []) => match en1[i]? with
    | some (.sh (.ins c' ds)) => if c' = c then (match ds[k]? with
      | some .any => none
      | some d => some (en1, .val (.sh d))
      | none => none) else none
    | some (.ins c' ws) => if c' = c then (match ws[k]? with
      | some (.sh .any) => none
      | some (.sh d) => some (en1, .val (.sh d))
      | some _ => some (en1, .pl i [k])
      | none => none) else none
    | _ => none
  | _ => none
section
variable {K : PySem.W.Frag} {mg : Str → Option Value}
theorem repsO_at {F : Hp} : ∀ {ds : List D} {os : List (Option V)} {k : Nat} {d : D}, RepsO K mg F ds os → ds[k]? = some d → d ≠ .any → ∃ v, os[k]? = some (some v) ∧ Rep K mg F d v
  | d :: ds, some v :: os, 0, x, h, e, _ => by
    simp only [RepsO] at h
    simp only [List.getElem?_cons_zero, Option.some.injEq] at e
    subst e
    exact ⟨v, rfl, h.1⟩
  | d :: ds, none :: os, 0, x, h, e, n => by
    simp only [RepsO] at h
    simp only [List.getElem?_cons_zero, Option.some.injEq] at e
    subst e
    exact absurd h.1 n
  | d :: ds, some v :: os, k + 1, x, h, e, n => by
    simp only [RepsO] at h
    simp only [List.getElem?_cons_succ] at e ⊢
    exact repsO_at h.2 e n
  | d :: ds, none :: os, k + 1, x, h, e, n => by
    simp only [RepsO] at h
    simp only [List.getElem?_cons_succ] at e ⊢
    exact repsO_at h.2 e n
  | [], _, _, _, _, e, _ => by simp at e
  | _ :: _, [], _, _, h, _, _ => by simp only [RepsO] at h
theorem own_ins {F H : Hp} {c : Str} {ws : List W} {v : V} {L : List Addr} (h : Own K mg F H (.ins c ws) v L) : ∃ a C dx os L', v = .ref a ∧ mg c = some (.ref C) ∧ SlX.Slt H a C dx os ∧ NoTup (H dx) ∧ dx ≠ a ∧ F a = none ∧ F dx = none ∧ L = a :: dx :: L' ∧ OwnsO K mg F H ws os L' := by
  simpa only [Own] using h
end
section
variable {X : Cx} {e : Expr} {f c : Str} {k : Nat} {fo : FE} {pos : Pos}
theorem se_fld (cf : ClsF X.K X.mg c f k) (he : SE X e fo) (hb : HBase X e f) : SE X (.Attribute e f pos) (fFld c k fo) :=
  pe_imp (SlX.pe_sl he hb) fun σ H Q q => by
    obtain ⟨F, en, L, en', r', st, e, kk⟩ := q
    unfold fFld at e
    split at e
    · rename_i en1 c' ds e1
      split at e
      · rename_i hc
        subst hc
        split at e
        · cases e
        · rename_i d hne hd
          cases e
          refine ⟨F, en, L, en', _, st, e1, fun v F1 H1 L1 Lr st1 rr nd x => ?_⟩
          simp only [RR, Own, Rep] at rr
          obtain ⟨⟨a, C, dx, os, rfl, hm, hs, hr⟩, rfl⟩ := rr
          obtain ⟨y, e2, e3⟩ := repsO_at hr hd hne
          obtain ⟨sc, p, sl⟩ := cf.ok C hm
          exact ⟨a, C, dx, p, os, k, y, rfl, sltS st1.sub hs, sc, sl, e2, kk y F1 H1 L1 [] st1 (by simp only [RR]; exact own_sh e3) nd x⟩
        · cases e
      · cases e
    · rename_i en1 i e1
      split at e
      · rename_i c' ds hi
        split at e
        · rename_i hc
          subst hc
          split at e
          · cases e
          · rename_i d hne hd
            cases e
            refine ⟨F, en, L, en', _, st, e1, fun v F1 H1 L1 Lr st1 rr nd x => ?_⟩
            obtain ⟨rfl, w1, La, Lm, Lb, P⟩ := RR.part st1 rr
            have hw1 : w1 = .sh (.ins c' ds) := by
              have g := P.1
              simp only [En.get, hi, W.get, Option.some.injEq] at g
              exact g.symm
            subst hw1
            have o := P.2.2.1
            simp only [Own, Rep] at o
            obtain ⟨⟨a, C, dx, os, rfl, hm, hs, hr⟩, _⟩ := o
            obtain ⟨y, e2, e3⟩ := repsO_at hr hd hne
            obtain ⟨sc, p, sl⟩ := cf.ok C hm
            exact ⟨a, C, dx, p, os, k, y, rfl, sltS st1.sub hs, sc, sl, e2, kk y F1 H1 L1 [] st1 (by simp only [RR]; exact own_sh e3) (by simpa using st1.nd) x⟩
          · cases e
        · cases e
      · rename_i c' ws hi
        split at e
        · rename_i hc
          subst hc
          have main : ∀ {w : W} {v : V} {F1 H1 : Hp} {L1 Lr : List Addr}, StOk X.K X.mg F1 H1 σ en1 L1 → RR X.K X.mg F1 H1 σ en1 L1 (.pl i []) v Lr → ws[k]? = some w → w ≠ .sh .any →
              ∃ a C dx os y La Lb Ma Mm Mb, v = .ref a ∧ X.mg c' = some (.ref C) ∧ SlX.Slt H1 a C dx os ∧ os[k]? = some (some y) ∧ Own X.K X.mg F1 H1 w y Mm ∧ L1 = La ++ ((a :: dx :: (Ma ++ (Mm ++ Mb))) ++ Lb) ∧ Lr = [] ∧
                ∀ (F' H' : Hp) (w' : W) (Lm' : List Addr), Stay F1 H1 F' H' (La ++ (a :: dx :: Ma) ++ (Mb ++ Lb)) → Own X.K X.mg F' H' w' y Lm' → OwnsO X.K X.mg F' H' (en1.put i [k] w') σ (La ++ (a :: dx :: Ma) ++ (Lm' ++ (Mb ++ Lb))) := by
            intro w v F1 H1 L1 Lr st1 rr hw hne
            obtain ⟨rfl, w1, La, Lm, Lb, P⟩ := RR.part st1 rr
            have hw1 : w1 = .ins c' ws := by
              have g := P.1
              simp only [En.get, hi, W.get, Option.some.injEq] at g
              exact g.symm
            subst hw1
            obtain ⟨_, eL, o, k2⟩ := P
            obtain ⟨a, C, dx, os, L', rfl, hm, hs, h4, h5, h6, h7, rfl, h9⟩ := own_ins o
            obtain ⟨o1, Ma, Mm, Mb, g1, rfl, g3, g4⟩ := h9.get hw
            rcases g3 with ⟨y, rfl, g3⟩ | ⟨_, z, _⟩
            · refine ⟨a, C, dx, os, y, La, Lb, Ma, Mm, Mb, rfl, hm, hs, g1, g3, eL, rfl, fun F' H' w' Lm' s o' => ?_⟩
              have s1 : Stay F1 H1 F' H' (Ma ++ Mb) := s.less fun b hb => by
                rcases List.mem_append.mp hb with z | z <;> simp [z]
              have s2 : Stay F1 H1 F' H' (La ++ Lb) := s.less fun b hb => by
                rcases List.mem_append.mp hb with z | z <;> simp [z]
              have q1 := g4 F' H' w' y Lm' s1 o'
              rw [set_get g1] at q1
              have ea := s.eq a (by simp)
              have ed := s.eq dx (by simp)
              have q2 : Own X.K X.mg F' H' (.ins c' (ws.set k w')) (.ref a) (a :: dx :: (Ma ++ (Lm' ++ Mb))) := by
                simp only [Own]
                exact ⟨a, C, dx, os, _, rfl, hm, slt_same ea ed hs, by rw [ed]; exact h4, h5, s.out a (by simp), s.out dx (by simp), rfl, q1⟩
              have q3 := k2 F' H' _ _ s2 q2
              have ep : en1.put i [k] w' = en1.put i [] (.ins c' (ws.set k w')) := by
                simp only [En.put, hi, W.put, hw]
              rw [ep]
              simpa using q3
            · exact absurd z hne
          split at e
          · cases e
          · rename_i d hne hd
            cases e
            refine ⟨F, en, L, en', _, st, e1, fun v F1 H1 L1 Lr st1 rr nd x => ?_⟩
            obtain ⟨a, C, dx, os, y, La, Lb, Ma, Mm, Mb, rfl, hm, hs, g1, g3, eL, rfl, _⟩ := main st1 rr hd (fun z => hne (by cases z; rfl))
            obtain ⟨sc, p, sl⟩ := cf.ok C hm
            simp only [Own] at g3
            exact ⟨a, C, dx, p, os, k, y, rfl, hs, sc, sl, g1, kk y F1 H1 L1 [] st1 (by simp only [RR]; exact own_sh g3.1) (by simpa using st1.nd) x⟩
          · rename_i w hne1 hne2 hd
            cases e
            refine ⟨F, en, L, en', _, st, e1, fun v F1 H1 L1 Lr st1 rr nd x => ?_⟩
            obtain ⟨a, C, dx, os, y, La, Lb, Ma, Mm, Mb, rfl, hm, hs, g1, g3, eL, rfl, k3⟩ := main st1 rr hd (fun z => hne1 z)
            obtain ⟨sc, p, sl⟩ := cf.ok C hm
            refine ⟨a, C, dx, p, os, k, y, rfl, hs, sc, sl, g1, kk y F1 H1 L1 [] st1 ?_ (by simpa using st1.nd) x⟩
            simp only [RR]
            refine ⟨trivial, w, La ++ (a :: dx :: Ma), Mm, Mb ++ Lb, ?_, by rw [eL]; simp, g3, fun F' H' w' Lm' s o' => ?_⟩
            · simp only [En.get, hi, W.get, hd]
            · have := k3 F' H' w' Lm' (s.less fun b hb => by simpa using hb) o'
              simpa using this
          · cases e
        · cases e
      · cases e
    · cases e
end
def putW (k : Nat) (w : W) (ws : List W) : List W := (ws ++ List.replicate (k + 1 - ws.length) (W.sh .any)).set k w
section
variable {K : PySem.W.Frag} {mg : Str → Option Value}
theorem ownsO_pad {F H : Hp} : ∀ {ws : List W} {os : List (Option V)} {L : List Addr} (n : Nat), OwnsO K mg F H ws os L → OwnsO K mg F H (ws ++ List.replicate n (W.sh .any)) (os ++ List.replicate n none) L
  | [], [], L, n, h => by
    simp only [OwnsO] at h
    subst h
    induction n with
    | zero => simp only [List.replicate_zero, List.append_nil, OwnsO]
    | succ n ih =>
      simp only [List.replicate_succ, List.nil_append, OwnsO] at ih ⊢
      exact ⟨trivial, ih⟩
  | w :: ws, some o :: os, L, n, h => by
    simp only [OwnsO] at h
    obtain ⟨A, B, rfl, h1, h2⟩ := h
    simp only [List.cons_append, OwnsO]
    exact ⟨A, B, rfl, h1, ownsO_pad n h2⟩
  | w :: ws, none :: os, L, n, h => by
    simp only [OwnsO] at h
    simp only [List.cons_append, OwnsO]
    exact ⟨h.1, ownsO_pad n h.2⟩
  | [], _ :: _, _, _, h => by simp only [OwnsO] at h
  | _ :: _, [], _, _, h => by simp only [OwnsO] at h
theorem ownsO_put {F H : Hp} {ws : List W} {os : List (Option V)} {L Lw : List Addr} {k : Nat} {w : W} {v : V} (h : OwnsO K mg F H ws os L) (o : Own K mg F H w v Lw) (nd : (L ++ Lw).Nodup) :
    ∃ L', OwnsO K mg F H (putW k w ws) (SlX.putS k v os) L' ∧ L'.Nodup ∧ ∀ b ∈ L', b ∈ L ++ Lw := by
  have hp := ownsO_pad (k + 1 - ws.length) h
  have hk : k < (ws ++ List.replicate (k + 1 - ws.length) (W.sh .any)).length := by
    simp only [List.length_append, List.length_replicate]; omega
  obtain ⟨o1, Ma, Mm, Mb, g1, rfl, g3, g4⟩ := hp.get (List.getElem?_eq_getElem hk)
  have cl := hp.cell
  have s : Stay F H F H (Ma ++ Mb) := ⟨Same.refl F, fun b hb => (cl b (by simp only [List.mem_append] at hb ⊢; rcases hb with z | z <;> simp [z])).2, fun _ _ => rfl⟩
  have q := g4 F H w v Lw s o
  refine ⟨Ma ++ (Lw ++ Mb), ?_, ?_, fun b hb => ?_⟩
  · unfold putW SlX.putS
    rw [← h.len]
    exact q
  · obtain ⟨n1, n2, n3⟩ := nd_app nd
    obtain ⟨q1, q2⟩ := nodup3 n1
    obtain ⟨q3, q4, q5⟩ := nd_app q1
    refine nd_of q3 (nd_of n2 q4 fun b hb hb' => n3 b (by simp [hb']) hb) fun b hb hb' => ?_
    rcases List.mem_append.mp hb' with z | z
    · exact n3 b (by simp [hb]) z
    · exact q5 b hb z
  · simp only [List.mem_append] at hb ⊢
    rcases hb with z | z | z <;> simp [z]
end
/-- self.f = e, self the name at i -/
def sFld (c : Str) (i k : Nat) (fe : FE) : FS := fun en => match fe en with
  | none => none
  | some (en1, r) => match r.tk en1 with
    | none => none
    | some (en2, w) => match en2[i]? with
      | some (.ins c' ws) => if c' = c then some (en2.put i [] (.ins c (putW k w ws)), .nx) else none
      | _ => none
section
variable {X : Cx} {fix : List Nat} {o value : Expr} {f c : Str} {i k : Nat} {fe : FE} {pos pos' : Pos}
theorem ss_fld (cf : ClsF X.K X.mg c f k) (ho : PE X o (tVar i)) (he : SE X value fe) (hs : swapsWith value (some (.Attribute o f pos')) pos.line X.env = pure false := by rfl) : SS X fix (.Assign [.Attribute o f pos'] value pos) (sFld c i k fe) :=
  ps_imp (SlX.ps_sl ho he hs) fun D σ H q => by
    obtain ⟨F, en, L, en', fl, st, e, q⟩ := q
    unfold sFld at e
    split at e
    · cases e
    rename_i en1 r e1
    split at e
    · cases e
    rename_i en2 w e2
    split at e
    · rename_i c' ws hi
      split at e
      · rename_i hc
        subst hc
        cases e
        refine ⟨F, en, L, en1, r, st, e1, fun v F1 H1 L1 Lr st1 rr nd x => ?_⟩
        obtain ⟨F2, L2, Lr2, st2, o2, nd2, x2⟩ := rr.tk st1 nd e2
        obtain ⟨ov, La, Lm, Lb, g1, eL, g3, _⟩ := st2.own.get hi
        rcases g3 with ⟨u, rfl, g3⟩ | ⟨_, z, _⟩
        · refine ⟨u, g1, ?_⟩
          obtain ⟨w1, Ma, Mm, Mb, P⟩ := part_name st2.own g1
          have hw1 : w1 = .ins c' ws := by
            have g := P.1
            simp only [En.get, hi, W.get, Option.some.injEq] at g
            exact g.symm
          subst hw1
          obtain ⟨_, eL2, o, k2⟩ := P
          obtain ⟨a, C, dx, os, L', rfl, hm, hsl, h4, h5, h6, h7, rfl, h9⟩ := own_ins o
          obtain ⟨sc, p, sl⟩ := cf.ok C hm
          refine ⟨a, C, dx, p, os, k, rfl, hsl, sc, sl, ?_⟩
          subst eL2
          have nd2' : ((Ma ++ (a :: (dx :: L') ++ Mb)) ++ Lr2).Nodup := by simpa using nd2
          obtain ⟨nn, sep⟩ := nd_mid nd2'
          have nn1 : (dx :: L').Nodup := (nd_app nn).1
          have nnL : (L' ++ Lr2).Nodup := by
            have nn2 : (dx :: (L' ++ Lr2)).Nodup := by simpa using nn
            exact (List.nodup_cons.mp nn2).2
          have dxs : ∀ b ∈ L' ++ Lr2, b ≠ dx := fun b hb z => by
            have nn2 : (dx :: (L' ++ Lr2)).Nodup := by simpa using nn
            exact (List.nodup_cons.mp nn2).1 (z ▸ hb)
          obtain ⟨Ln, on, nln, subn⟩ := ownsO_put (k := k) h9 o2 nnL
          have sepn : ∀ b ∈ Ln, b ≠ a ∧ b ≠ dx ∧ b ∉ Ma ++ Mb := fun b hb => by
            have hb' := subn b hb
            have s1 := sep b (by
              simp only [List.mem_append, List.mem_cons] at hb' ⊢
              rcases hb' with z | z <;> simp [z])
            exact ⟨s1.1, dxs b hb', s1.2⟩
          have dxo := (sep dx (by simp)).2
          have hne : ∀ b ∈ Ma ++ Mb, b ≠ a ∧ b ≠ dx := fun b hb => by
            refine ⟨fun z => ?_, fun z => dxo (z ▸ hb)⟩
            have nd3 := (nd_app nd2').1
            have n4 := nodup3 (by simpa using nd3 : (Ma ++ ((a :: (dx :: L')) ++ Mb)).Nodup)
            exact n4.2 b hb (by simp [z])
          have cl2 := st2.cell
          have clo : ∀ b ∈ Ma ++ Mb, F2 b = none := fun b hb => (cl2 b (by simp only [List.mem_append] at hb ⊢; rcases hb with z | z <;> simp [z])).2
          have sub : Same F2 (SlX.slH H1 a C dx (SlX.putS k v os)) := fun b u eb => by
            have hb1 : b ≠ a := fun z => by subst z; rw [h6] at eb; cases eb
            have hb2 : b ≠ dx := fun z => by subst z; rw [h7] at eb; cases eb
            rw [SlX.slH_ne hb1 hb2]
            exact st2.sub b u eb
          have hs0 : Stay F2 H1 F2 (SlX.slH H1 a C dx (SlX.putS k v os)) (Ma ++ Mb) := ⟨Same.refl F2, clo, fun b hb => SlX.slH_ne (hne b hb).1 (hne b hb).2⟩
          have hsn : Stay F2 H1 F2 (SlX.slH H1 a C dx (SlX.putS k v os)) Ln := ⟨Same.refl F2, fun b hb => (on.cell b hb).2, fun b hb => SlX.slH_ne (sepn b hb).1 (sepn b hb).2.1⟩
          have hslt := SlX.slH_slt (H := H1) (C := C) (vs := SlX.putS k v os) h5
          have hdx : NoTup (SlX.slH H1 a C dx (SlX.putS k v os) dx) := by
            unfold SlX.slH
            rw [upd_ne h5, upd_same]
            exact ⟨by simp, fun vs => by simp, fun ps => by simp⟩
          have tkeep : ∀ P ps, H1 P = some (.tbl ps) → SlX.slH H1 a C dx (SlX.putS k v os) P = some (.tbl ps) := fun P ps e => by
            rw [SlX.slH_ne (fun z => slt_tbl hsl ps (by rw [← z]; exact e)) (fun z => h4.2.2 ps (by rw [← z]; exact e))]
            exact e
          have own' : Own X.K X.mg F2 (SlX.slH H1 a C dx (SlX.putS k v os)) (.ins c' (putW k w ws)) (.ref a) (a :: dx :: Ln) := by
            simp only [Own]
            exact ⟨a, C, dx, _, Ln, rfl, hm, hslt, hdx, h5, h6, h7, rfl, on.stay hsn⟩
          have q3 := k2 F2 _ _ _ hs0 own'
          refine q σ F2 _ (Ma ++ ((a :: dx :: Ln) ++ Mb)) ⟨sub, ?_, q3, st2.tb.step tkeep⟩ Fixed.refl (x.trans (x2.trans ?_))
          · have n5 := (nd_app nd2').1
            obtain ⟨n6, n7⟩ := nodup3 (by simpa using n5 : (Ma ++ ((a :: (dx :: L')) ++ Mb)).Nodup)
            obtain ⟨r1, r2, r3⟩ := nd_app n6
            refine nd_of r1 (nd_of (List.nodup_cons.mpr ⟨fun z => ?_, List.nodup_cons.mpr ⟨fun z => (sepn dx z).2.1 rfl, nln⟩⟩) r2 fun b hb hb' => ?_) fun b hb hb' => ?_
            · rcases List.mem_cons.mp z with z | z
              · exact h5 z.symm
              · exact (sepn a z).1 rfl
            · rcases List.mem_cons.mp hb with z | z
              · exact (hne b (by simp [hb'])).1 z
              · rcases List.mem_cons.mp z with z | z
                · exact (hne b (by simp [hb'])).2 z
                · exact (sepn b z).2.2 (by simp [hb'])
            · rcases List.mem_append.mp hb' with z | z
              · rcases List.mem_cons.mp z with z | z
                · exact (hne b (by simp [hb])).1 z
                · rcases List.mem_cons.mp z with z | z
                  · exact (hne b (by simp [hb])).2 z
                  · exact (sepn b z).2.2 (by simp [hb])
              · exact r3 b hb z
          · refine Ext.of (fun b u eb nb => ?_) tkeep (fun b eb => ?_) (Same.refl F2) (fun b eb => .inl eb) (fun b hb => .inl ?_)
            · rw [SlX.slH_ne (fun z => nb (by simp [z])) (fun z => nb (by simp [z]))]
              exact eb
            · by_cases z1 : b = a
              · subst z1
                rcases hslt with ⟨y, _⟩ | ⟨y, _⟩ <;> rw [y] <;> simp
              · by_cases z2 : b = dx
                · subst z2; exact hdx.1
                · rw [SlX.slH_ne z1 z2]; exact eb
            · simp only [List.mem_append, List.mem_cons] at hb subn ⊢
              rcases hb with z | (z | z | z) | z
              · simp [z]
              · simp [z]
              · simp [z]
              · rcases subn b z with y | y <;> simp [y]
              · simp [z]
        · cases z
      · cases e
    · cases e
end
end Pu
namespace Pu
variable [TabN]
open PySem PySem.Spec PyProof.Rows L2
def R.cls (en : En) : R → Option Str
  | .val (.sh (.ins c _)) => some c
  | .val (.ins c _) => some c
  | .val _ => none
  | .pl i p => match en.get i p with
    | some (.sh (.ins c _)) => some c
    | some (.ins c _) => some c
    | _ => none
def fCk (c : Str) (fo : FE) : FE := fun en => match fo en with
  | none => none
  | some (en1, r) => if r.cls en1 = some c then some (en1, r) else none
section
variable {K : PySem.W.Frag} {mg : Str → Option Value} {σ : L2.St}
theorem cls_slt {F H : Hp} {en : En} {L Lr : List Addr} {r : R} {v : V} {c : Str} {C : Addr} (st : StOk K mg F H σ en L) (h : RR K mg F H σ en L r v Lr) (e : r.cls en = some c) (hC : mg c = some (.ref C)) : ∃ a dx os, v = .ref a ∧ SlX.Slt H a C dx os := by
  have one : ∀ {w : W} {M : List Addr}, Own K mg F H w v M → (w = .sh (.ins c (match w with | .sh (.ins _ ds) => ds | _ => [])) ∨ w = .ins c (match w with | .ins _ ws => ws | _ => [])) → ∃ a dx os, v = .ref a ∧ SlX.Slt H a C dx os := by
    intro w M o hw
    rcases hw with hw | hw
    · rw [hw] at o
      simp only [Own, Rep] at o
      obtain ⟨⟨a, C', dx, os, e1, hm, hs, _⟩, _⟩ := o
      rw [hC] at hm
      cases hm
      exact ⟨a, dx, os, e1, sltS st.sub hs⟩
    · rw [hw] at o
      obtain ⟨a, C', dx, os, L', e1, hm, hs, _⟩ := own_ins o
      rw [hC] at hm
      cases hm
      exact ⟨a, dx, os, e1, hs⟩
  cases r with
  | val w =>
    simp only [RR] at h
    unfold R.cls at e
    split at e
    · rename_i h0; cases h0; cases e; exact one h (.inl rfl)
    · rename_i h0; cases h0; cases e; exact one h (.inr rfl)
    · cases e
    · rename_i h0; cases h0
  | pl i p =>
    obtain ⟨_, w, La, Lm, Lb, P⟩ := RR.part st h
    have g := P.1
    simp only [R.cls, g] at e
    split at e
    · rename_i h0; cases h0; cases e; exact one P.2.2.1 (.inl rfl)
    · rename_i h0; cases h0; cases e; exact one P.2.2.1 (.inr rfl)
    · cases e
theorem tS_ck {c : Str} {C : Addr} {fo : FE} {H : Hp} {Q : VK} (hC : mg c = some (.ref C)) (q : tS K mg (fCk c fo) σ H Q) : tS K mg fo σ H fun x H1 => ∃ a dx os, x = .ref a ∧ SlX.Slt H1 a C dx os ∧ Q x H1 := by
  obtain ⟨F, en, L, en', r', st, e, k⟩ := q
  unfold fCk at e
  split at e
  · cases e
  rename_i en1 r e1
  split at e
  · rename_i hc
    cases e
    refine ⟨F, en, L, _, _, st, e1, fun v F1 H1 L1 Lr st1 rr nd x => ?_⟩
    obtain ⟨a, dx, os, e2, hs⟩ := cls_slt st1 rr hc hC
    exact ⟨a, dx, os, e2, hs, k v F1 H1 L1 Lr st1 rr nd x⟩
  · cases e
end
def fMeth (c : Str) (g : PF) (fo : FE) (fs : List FE) : FE := fCall g (fCk c fo :: fs)
section
variable {X : Cx} {o e : Expr} {es : List Expr} {fo : FE} {fs : List FE} {c m : Str} {C f : Addr} {k : Nat} {g : PF} {pos apos : Pos} {pl : Sem Bool}
theorem fnR_of {P : Program} {w : World} {K : PySem.W.Frag} {mg : Str → Option Value} {base : Heap} {fd : FuncData} {ps : List Str} (G : FnOk P w K mg base CX0 k f fd ps (spP K mg g)) (hb : Binds K fd ps []) : FnR P w K mg base CX0 k f (spP K mg g) :=
  (G.raw hb .nil).imp fun vs H Q E h => by
    show spP K mg g (vs ++ []) H Q E
    rw [List.append_nil]
    exact h
theorem se_meth (hC : X.mg c = some (.ref C)) (sc : SlX.SCls X.K C) (hm : Meth X.K C m f) (G : FnR X.prog X.w X.K X.mg X.base CX0 k f (spP X.K X.mg g)) (hr : Room k X.A) (ho : SE X o fo) (ha : SA X (e :: es) fs)
    (hst : starEach (e :: es) X.env = (false, eval e X.env) :: starEach es X.env := by rfl) (hpl : (backTo pos (starEach es X.env)).any (·.1) = false := by rfl)
    (ht : eval (.Call (.Attribute o m apos) (e :: es) [] pos) X.env = (do
      let ov ← eval o X.env
      standAt apos.atName
      let (f, first) ← holding [ov] (getMethod ov m pl)
      callWith pos f first (backTo pos (starEach (e :: es) X.env)) (backToKw pos (keywordEach [] X.env))) := by rfl) : SE X (.Call (.Attribute o m apos) (e :: es) [] pos) (fMeth c g fo fs) :=
  pe_imp (SlX.pe_methSl (pl := pl) ho sc hm G hr pass0 ha hst hpl ht) fun σ H Q q => by
    have z := tS_ck hC (tEv_cons (call_behind (E := E0) q))
    obtain ⟨F, en, L, en1, r, st, e1, kk⟩ := z
    refine ⟨F, en, L, en1, r, st, e1, fun v F1 H1 L1 Lr st1 rr nd x => ?_⟩
    obtain ⟨a, dx, os, rfl, hs, z2⟩ := kk v F1 H1 L1 Lr st1 rr nd x
    exact ⟨a, dx, os, rfl, hs, z2⟩
end
def fMake (c : Str) (g : PF) (fs : List FE) : FE := fun en => match evs fs en with
  | none => none
  | some (en1, rs) => match argsOf en1 rs with
    | none => none
    | some (en2, ws, bs) => match g (.ins c [] :: ws) with
      | some (.sh .non, wi :: ws') => if ws'.length = ws.length then some (putB en2 bs ws', .val wi) else none
      | _ => none
section
variable {X : Cx} {e : Expr} {es : List Expr} {fs : List FE} {c : Str} {C f : Addr} {fd : FuncData} {ps : List Str} {k : Nat} {g : PF} {p pos : Pos}
theorem make_behind (hC : X.mg c = some (.ref C)) {σ : L2.St} {H : Hp} {Q : VK} (h : tS X.K X.mg (fMake c g fs) σ H Q) : tMake C (spP X.K X.mg g) [] E0 (tEv X.K X.mg fs) σ H Q := by
  obtain ⟨F, en, L, en', rr, st, ef, kk⟩ := h
  unfold fMake at ef
  split at ef
  · cases ef
  rename_i en1 rs e1
  split at ef
  · cases ef
  rename_i en2 ws bs e2
  split at ef
  · rename_i wi ws' e3
    split at ef
    · cases ef
      refine ⟨F, en, L, en1, rs, st, e1, fun vs F1 H1 L1 Lr1 st1 rr1 nd1 x1 => ?_⟩
      intro x dx hx hdx hne
      obtain ⟨L2, La, st2, ow, nd2, sub, ln⟩ := args_ok st1 rr1 (evs_stable e1) nd1 e2
      obtain ⟨n1, n2, n3⟩ := nd_app nd2
      have hx' : upd H1 dx (.own x) x = none := by rw [upd_ne (Ne.symm hne)]; exact hx
      obtain ⟨sa, xa⟩ := lay_owned (o := .own x) st2 hdx
      obtain ⟨sb, xb⟩ := lay_owned (o := .ins C dx []) sa hx'
      have hL : ∀ b ∈ La, b ≠ x ∧ b ≠ dx := fun b hb => ⟨fun z => by subst z; exact (ow.cell b hb).1.1 hx, fun z => by subst z; exact (ow.cell b hb).1.1 hdx⟩
      have hL2 : ∀ b ∈ L2, b ≠ x ∧ b ≠ dx := fun b hb => ⟨fun z => by subst z; exact (st2.cell b hb).1.1 hx, fun z => by subst z; exact (st2.cell b hb).1.1 hdx⟩
      have ow2 : Owns X.K X.mg F1 (upd (upd H1 dx (.own x)) x (.ins C dx [])) ws vs La := ow.stay ⟨Same.refl F1, fun b hb => (ow.cell b hb).2, fun b hb => by rw [upd_ne (hL b hb).1, upd_ne (hL b hb).2]⟩
      have oi : Own X.K X.mg F1 (upd (upd H1 dx (.own x)) x (.ins C dx [])) (.ins c []) (.ref x) [x, dx] := by
        simp only [Own]
        refine ⟨x, C, dx, [], [], rfl, hC, .inl ⟨upd_same, rfl⟩, by rw [upd_ne hne, upd_same]; exact ⟨by simp, fun vs => by simp, fun ps => by simp⟩, hne, sub_none st2.sub hx, sub_none st2.sub hdx, rfl, by simp only [OwnsO]⟩
      show spP X.K X.mg g (.ref x :: (vs ++ [])) _ _ _
      rw [List.append_nil]
      refine ⟨F1, .ins c [] :: ws, [x, dx] ++ La, sb.sub, ?_, by simp only [Owns]; exact ⟨[x, dx], La, rfl, oi, ow2⟩, .sh .non, wi :: ws', e3, sb.tb, fun v F' H' L' s' nd' tb' ow' xx => ?_⟩
      · refine nd_of (by simp [Ne.symm hne]) n2 fun b hb hb' => ?_
        simp only [List.mem_cons, List.not_mem_nil, or_false] at hb
        rcases hb with z | z
        · exact (hL b hb').1 z
        · exact (hL b hb').2 z
      · simp only [Owns] at ow'
        obtain ⟨A0, B0, rfl, o0, Lw, La', rfl, o1, o2⟩ := ow'
        simp only [Own] at o0
        obtain ⟨r0, rfl⟩ := o0
        refine ⟨rep_non r0, ?_⟩
        obtain ⟨m1, m2, m3⟩ := nd_app (by simpa using nd' : (Lw ++ La').Nodup)
        have dj : ∀ b ∈ L2, b ∉ [x, dx] ++ La := fun b hb hb' => by
          rcases List.mem_append.mp hb' with z | z
          · simp only [List.mem_cons, List.not_mem_nil, or_false] at z
            rcases z with z | z
            · exact (hL2 b hb).1 z
            · exact (hL2 b hb).2 z
          · exact n3 b hb z
        have cl2 := sb.cell
        have st2' : StOk X.K X.mg F' H' σ en2 L2 := ⟨s', n1, sb.own.stay (xx.stay fun b hb => ⟨dj b hb, cl2 b hb⟩), tb'⟩
        have ap := xx.apart (M := L2) fun b hb => ⟨dj b hb, (cl2 b hb).1.1⟩
        obtain ⟨L3, st3, sub3⟩ := put_ok st2' ln o2 (nd_of n1 m2 fun b hb hb' => ap b (by simp [hb']) b hb rfl)
        refine kk (.ref x) F' H' L3 Lw st3 (by simp only [RR]; exact o1) (nd_of st3.nd m1 fun b hb hb' => ?_) (x1.trans ?_)
        · rcases List.mem_append.mp (sub3 b hb) with z | z
          · exact ap b (by simp [hb']) b z rfl
          · exact m3 b hb' z
        · have y1 : Ext F1 H1 (L1 ++ Lr1) F1 (upd (upd H1 dx (.own x)) x (.ins C dx [])) (([x, dx] ++ La) ++ L2) := by
            have y0 := (xa.trans (xb.mem (M := L2 ++ [dx]) (fun a h => by simp [h]) fun a h => h)).frame La
            have y2 : Ext F1 H1 (L2 ++ La) F1 (upd (upd H1 dx (.own x)) x (.ins C dx [])) (([x, dx] ++ La) ++ L2) := by
              refine ⟨y0.kept, y0.tbk, y0.tab, y0.there, y0.sub, y0.newF, fun b hb => ?_⟩
              simp only [List.mem_append, List.mem_cons, List.not_mem_nil, or_false] at hb ⊢
              rcases hb with ((z | z) | z) | z
              · subst z; exact .inr hx
              · subst z; exact .inr hdx
              · exact .inl (.inr z)
              · exact .inl (.inl z)
            exact y2.mem sub fun a h => h
          refine y1.trans ((xx.frame L2).mem (fun a h => h) fun a ha => ?_)
          rcases List.mem_append.mp ha with z | z
          · rcases List.mem_append.mp (sub3 a z) with y | y <;> simp [y]
          · simp [z]
    · cases ef
  · cases ef
theorem se_make (M : Mk X.K C f) (hC : X.mg c = some (.ref C)) (G : FnOk X.prog X.w X.K X.mg X.base CX0 k f fd ps (spP X.K X.mg g)) (hr : Room (k + 1) X.A) (hg : Gl X c) (hb : Binds X.K fd ps []) (ha : SA X (e :: es) fs)
    (hdb : (c == ("__debug__" : Str)) = false := by decide) (he : starEach (e :: es) X.env = (false, eval e X.env) :: starEach es X.env := by rfl) (hpl : (backTo pos (starEach es X.env)).any (·.1) = false := by rfl) : SE X (.Call (.Name c p) (e :: es) [] pos) (fMake c g fs) :=
  pe_imp (pe_make M G hr hg hC hb .nil pass0 ha hdb he hpl) fun σ H Q q => make_behind hC q
end
def lookD {κ : Type} [DecidableEq κ] : List κ → List D → κ → Option D
  | k0 :: ks, d :: ds, k => if k0 = k then some d else lookD ks ds k
  | _, _, _ => none
def D.key : D → Option Key
  | .int i => some (.inl i)
  | .str x => some (.inr x)
  | _ => none
def D.keys : List D → Option (List Key)
  | [] => some []
  | d :: ds => match d.key, D.keys ds with
    | some k, some ks => some (k :: ks)
    | _, _ => none
/-- a tuple as a key -/
def D.tkey : D → Option (List Key)
  | .tup (d :: ds) => D.keys (d :: ds)
  | _ => none
def R.dT (en : En) : R → Option (List (List Key) × List D)
  | .val (.sh (.dT ks ds)) => some (ks, ds)
  | .val (.dT ks ds) => some (ks, ds)
  | .val (.sh (.lT ks ds)) => some (ks, ds)
  | .pl i p => match en.get i p with
    | some (.sh (.dT ks ds)) => some (ks, ds)
    | some (.dT ks ds) => some (ks, ds)
    | some (.sh (.lT ks ds)) => some (ks, ds)
    | _ => none
  | _ => none
section
variable {K : PySem.W.Frag} {mg : Str → Option Value} {σ : L2.St}
theorem rep_key {H : Hp} {d : D} {k : Key} {v : V} (h : Rep K mg H d v) (e : d.key = some k) : v = kV k := by
  cases d <;> simp only [D.key, Option.some.injEq] at e <;> first
    | (cases e; done)
    | (subst e; first | exact rep_int h | exact rep_str h)
theorem reps_keys {H : Hp} : ∀ {ds : List D} {vs : List V} {ks : List Key}, Reps K mg H ds vs → D.keys ds = some ks → vs = ks.map kV
  | [], [], ks, _, e => by simp only [D.keys, Option.some.injEq] at e; subst e; rfl
  | d :: ds, v :: vs, ks, h, e => by
    simp only [D.keys] at e
    split at e
    · rename_i k ks' e1 e2
      cases e
      simp only [Reps] at h
      rw [List.map_cons, rep_key h.1 e1, reps_keys h.2 e2]
    · cases e
  | [], _ :: _, _, h, _ => by simp only [Reps] at h
  | _ :: _, [], _, h, _ => by simp only [Reps] at h
theorem rep_tkey {H : Hp} {d : D} {v : V} {ks : List Key} (h : Rep K mg H d v) (e : d.tkey = some ks) : ∃ b, v = .ref b ∧ H b = some (.tup (ks.map kV)) := by
  unfold D.tkey at e
  split at e
  · rename_i d ds
    simp only [Rep] at h
    obtain ⟨a, vs, rfl, h1, h2⟩ := h
    have hv := reps_keys h2 e
    subst hv
    refine ⟨a, rfl, h1.ne fun z => ?_⟩
    have := h2.len
    rw [z] at this
    simp at this
  · cases e
theorem RR.dT {F H : Hp} {en : En} {L Lr : List Addr} {r : R} {v : V} {ks : List (List Key)} {ds : List D} (st : StOk K mg F H σ en L) (h : RR K mg F H σ en L r v Lr) (e : r.dT en = some (ks, ds)) : ∃ a kws, v = .ref a ∧ Rd H a (.dT kws) ∧ kws.map (·.1) = ks ∧ Reps K mg F ds (kws.map (·.2)) := by
  have one : ∀ {w : W} {M : List Addr}, Own K mg F H w v M → (w = .sh (.dT ks ds) ∨ w = .dT ks ds ∨ w = .sh (.lT ks ds)) → ∃ a kws, v = .ref a ∧ Rd H a (.dT kws) ∧ kws.map (·.1) = ks ∧ Reps K mg F ds (kws.map (·.2)) := by
    intro w M o hw
    rcases hw with rfl | rfl | rfl
    · simp only [Own, Rep] at o
      obtain ⟨⟨a, kws, e1, h1, h2, h3⟩, _⟩ := o
      exact ⟨a, kws, e1, .inl (st.sub _ _ h1), h2, h3⟩
    · simp only [Own] at o
      obtain ⟨a, kws, e1, h1, _, _, h2, h3⟩ := o
      exact ⟨a, kws, e1, .inl h1, h2, h3⟩
    · simp only [Own, Rep] at o
      obtain ⟨⟨a, od, kws, e1, h1, h2, h3⟩, _⟩ := o
      exact ⟨a, kws, e1, .inr ⟨od, st.sub _ _ h1⟩, h2, h3⟩
  cases r with
  | val w =>
    simp only [RR] at h
    unfold R.dT at e
    split at e
    · rename_i h0; cases h0; cases e; exact one h (.inl rfl)
    · rename_i h0; cases h0; cases e; exact one h (.inr (.inl rfl))
    · rename_i h0; cases h0; cases e; exact one h (.inr (.inr rfl))
    · rename_i h0; cases h0
    · cases e
  | pl i p =>
    obtain ⟨_, w, La, Lm, Lb, P⟩ := RR.part st h
    have g := P.1
    simp only [R.dT, g] at e
    split at e
    · rename_i h0; cases h0; cases e; exact one P.2.2.1 (.inl rfl)
    · rename_i h0; cases h0; cases e; exact one P.2.2.1 (.inr (.inl rfl))
    · rename_i h0; cases h0; cases e; exact one P.2.2.1 (.inr (.inr rfl))
    · cases e
theorem look_val {κ : Type} [DecidableEq κ] {F : Hp} {d : D} {k : κ} : ∀ {ks : List κ} {ds : List D} {kws : List (κ × V)}, kws.map (·.1) = ks → Reps K mg F ds (kws.map (·.2)) → lookD ks ds k = some d → ∃ v, valV kws k = some v ∧ Rep K mg F d v
  | k0 :: ks, d0 :: ds, (k1, v1) :: kws, e, h, hl => by
    simp only [List.map_cons, List.cons.injEq] at e
    obtain ⟨rfl, e⟩ := e
    simp only [List.map_cons, Reps] at h
    simp only [lookD] at hl
    split at hl
    · rename_i hk
      cases hl
      exact ⟨v1, by unfold valV; simp [hk], h.1⟩
    · rename_i hk
      obtain ⟨v, h1, h2⟩ := look_val e h.2 hl
      refine ⟨v, ?_, h2⟩
      unfold valV at h1 ⊢
      rw [List.find?_cons, decide_eq_false (by exact hk)]
      exact h1
  | [], _, _, _, _, hl => by simp [lookD] at hl
  | _ :: _, [], _, _, _, hl => by simp [lookD] at hl
  | _ :: _, _ :: _, [], e, _, _ => by simp at e
end
def gDGet : En → List R → Option (En × R)
  | en, [r1, r2] => match r1.dT en, r2.d en with
    | some (ks, ds), some d => match d.tkey with
      | some k => match lookD ks ds k with
        | some x => some (en, .val (.sh x))
        | none => none
      | none => none
    | _, _ => none
  | _, _ => none
section
variable {X : Cx} {o i : Expr} {fo fi : FE} {pos : Pos}
theorem se_dget (hu : X.A.units + 1 < cLine) (ho : SE X o fo) (hi : SE X i fi) (hs : NoSl i := by exact fun _ _ => rfl) : SE X (.Subscript o i pos) (fN gDGet [fo, fi]) :=
  pe_imp (pe_dget hu ho hi hs) fun σ H Q q => by
    have op : OpN X.K X.mg (r2N fun x y H Q => ∃ a v, x = .ref a ∧ DGet H a y (some v) ∧ Q v H) gDGet := by
      intro F H σ en L rs vs Lr en' r' st rr hs nd e Q q
      unfold gDGet at e
      split at e
      · rename_i r1 r2
        split at e
        · rename_i ks ds d e1 e2
          split at e
          · rename_i k ek
            split at e
            · rename_i x ex
              cases e
              obtain ⟨v1, v2, A, B, rfl, rfl, h1, h2⟩ := rrs2 rr
              obtain ⟨a, kws, rfl, ha, hk, hr⟩ := h1.dT st e1
              obtain ⟨b, rfl, hb⟩ := rep_tkey (h2.peek st e2) ek
              obtain ⟨y, hy, ry⟩ := look_val hk hr ex
              refine ⟨_, _, rfl, a, y, rfl, ?_, q y F H L [] st (by simp only [RR]; exact own_sh ry) (by simpa using st.nd) (Ext.refl.mem (fun a h => h) fun a h => by
                have h' : a ∈ L := by simpa using h
                simp [h'])⟩
              rw [← hy]
              exact .inr ⟨kws, k, b, ha, rfl, hb, rfl⟩
            · cases e
          · cases e
        · cases e
      · cases e
    exact tEv_two (op_behind op q)
/-- a new dict -/
def fNewT : FE := fun en => some (en, .val (.dT [] []))
theorem se_newT : SE X (.Dict [] [] pos) fNewT := pe_imp pe_dnewT fun σ H Q q => by
  obtain ⟨F, en, L, en', r', st, e, k⟩ := q
  simp only [fNewT, Option.some.injEq, Prod.mk.injEq] at e
  obtain ⟨rfl, rfl⟩ := e
  intro p hp
  obtain ⟨sa, xa⟩ := lay_owned (o := .dT []) st hp
  refine k (.ref p) F _ L [p] sa ?_ (nd_of st.nd (by simp) fun b hb hb' => ?_) xa
  · simp only [RR, Own]
    exact ⟨p, [], rfl, upd_same, sub_none st.sub hp, rfl, rfl, by simp only [List.map_nil, Reps]⟩
  · have : b = p := by simpa using hb'
    subst this
    exact (st.cell b hb).1.1 hp
end
def putKs {κ : Type} [DecidableEq κ] (ks : List κ) (k : κ) : List κ := if k ∈ ks then ks else ks ++ [k]
def putVs {κ : Type} [DecidableEq κ] : List κ → List D → κ → D → List D
  | k0 :: ks, d0 :: ds, k, d => (if k0 = k then d else d0) :: putVs ks ds k d
  | _, _, _, _ => []
def putDs {κ : Type} [DecidableEq κ] (ks : List κ) (ds : List D) (k : κ) (d : D) : List D := if k ∈ ks then putVs ks ds k d else ds ++ [d]
section
variable {K : PySem.W.Frag} {mg : Str → Option Value}
theorem put_pairs {κ : Type} [DecidableEq κ] {F : Hp} {ks : List κ} {ds : List D} {kws : List (κ × V)} {k : κ} {d : D} {v : V} (e : kws.map (·.1) = ks) (h : Reps K mg F ds (kws.map (·.2))) (hd : Rep K mg F d v) :
    (putK kws k v).map (·.1) = putKs ks k ∧ Reps K mg F (putDs ks ds k d) ((putK kws k v).map (·.2)) := by
  have hany : (kws.any fun kv => decide (kv.1 = k)) = decide (k ∈ ks) := by
    rw [Bool.eq_iff_iff, ← e]
    simp only [List.any_eq_true, decide_eq_true_eq, List.mem_map]
  unfold putK putKs putDs
  rw [hany]
  by_cases hk : k ∈ ks
  · simp only [hk, decide_true, if_true]
    have gen : ∀ {ks : List κ} {ds : List D} {kws : List (κ × V)}, kws.map (·.1) = ks → Reps K mg F ds (kws.map (·.2)) → (kws.map fun kv => if kv.1 = k then (kv.1, v) else kv).map (·.1) = ks ∧ Reps K mg F (putVs ks ds k d) ((kws.map fun kv => if kv.1 = k then (kv.1, v) else kv).map (·.2)) := by
      intro ks
      induction ks with
      | nil =>
        intro ds kws e h
        cases kws with
        | nil => exact ⟨rfl, by simp only [putVs, List.map_nil, Reps]⟩
        | cons p kws => simp at e
      | cons k0 ks ih =>
        intro ds kws e h
        cases kws with
        | nil => simp at e
        | cons p kws =>
          obtain ⟨k1, v1⟩ := p
          simp only [List.map_cons, List.cons.injEq] at e
          obtain ⟨rfl, e⟩ := e
          cases ds with
          | nil => simp only [List.map_cons, Reps] at h
          | cons d0 ds =>
            simp only [List.map_cons, Reps] at h
            obtain ⟨i1, i2⟩ := ih e h.2
            by_cases hk1 : k1 = k
            · simp only [List.map_cons, hk1, if_true, putVs, Reps]
              exact ⟨by rw [i1], hd, i2⟩
            · simp only [List.map_cons, hk1, if_false, putVs, Reps]
              exact ⟨by rw [i1], h.1, i2⟩
    exact gen e h
  · simp only [hk, decide_false, if_false, Bool.false_eq_true]
    refine ⟨by rw [List.map_append, e]; rfl, ?_⟩
    rw [List.map_append]
    exact h.append (by simp only [List.map_cons, List.map_nil, Reps]; exact ⟨hd, trivial⟩)
/-- a dict at a place is written -/
theorem write_dT {F H : Hp} {σ : L2.St} {en : En} {L : List Addr} {i : Nat} {p : List Nat} {ks : List (List Key)} {ds : List D} {v : V} {La Lm Lb : List Addr} (st : StOk K mg F H σ en L) (P : PartO K mg F H σ en L i p (.dT ks ds) v La Lm Lb) :
    ∃ a kws, v = .ref a ∧ H a = some (.dT kws) ∧ kws.map (·.1) = ks ∧ Reps K mg F ds (kws.map (·.2)) ∧
      ∀ (kws' : List (List Key × V)) (ks' : List (List Key)) (ds' : List D), kws'.map (·.1) = ks' → Reps K mg F ds' (kws'.map (·.2)) →
        StOk K mg F (upd H a (.dT kws')) σ (en.put i p (.dT ks' ds')) L ∧ Ext F H L F (upd H a (.dT kws')) L := by
  obtain ⟨g, eL, o, kk⟩ := P
  simp only [Own] at o
  obtain ⟨a, kws, rfl, h2, h3, rfl, h5, h6⟩ := o
  subst eL
  have nd0 := st.nd
  have cl := st.cell
  obtain ⟨n1, n2⟩ := nodup3 nd0
  refine ⟨a, kws, rfl, h2, h5, h6, fun kws' ks' ds' e1 r1 => ?_⟩
  have hne : ∀ b ∈ La ++ Lb, b ≠ a := fun b hb z => n2 b hb (by simp [z])
  have cl2 : ∀ b ∈ La ++ Lb, F b = none := fun b hb => (cl b (by simp only [List.mem_append] at hb ⊢; rcases hb with z | z <;> simp [z])).2
  have hs : Stay F H F (upd H a (.dT kws')) (La ++ Lb) := ⟨Same.refl F, cl2, fun b hb => upd_ne (hne b hb)⟩
  have own' : Own K mg F (upd H a (.dT kws')) (.dT ks' ds') (.ref a) [a] := by
    simp only [Own]
    exact ⟨a, kws', rfl, upd_same, h3, rfl, e1, r1⟩
  have ht : ∀ ps, H a ≠ some (.tbl ps) := fun ps z => by rw [h2] at z; cases z
  refine ⟨⟨fun b u e => ?_, nd0, kk F _ _ [a] hs own', st.tb.upd ht⟩, Ext.of (fun b u e nb => ?_) (tbl_upd ht) (fun b e => ?_) (Same.refl F) (fun b e => .inl e) (fun b hb => .inl hb)⟩
  · have hb : b ≠ a := fun z => by subst z; rw [h3] at e; cases e
    rw [upd_ne hb]
    exact st.sub b u e
  · rw [upd_ne (fun z => nb (by simp [z]))]
    exact e
  · by_cases z : b = a
    · subst z; rw [upd_same]; simp
    · rw [upd_ne z]; exact e
end
/-- base any place, index quiet -/
def sDPutP (fe fo : FE) (fk : En → Option D) : FS := fun en => match fe en with
  | none => none
  | some (en1, r) => match r.fz en1 with
    | none => none
    | some (en2, d) => match fo en2 with
      | some (en3, .pl i p) => match fk en3 with
        | some kd => match kd.tkey, en3.get i p with
          | some k, some (.dT ks ds) => if ks.length < sizeLine then some (en3.put i p (.dT (putKs ks k) (putDs ks ds k d)), .nx) else none
          | _, _ => none
        | none => none
      | _ => none
section
variable {X : Cx} {fix : List Nat} {o ix value : Expr} {fo fe fi : FE} {fk : En → Option D} {i : Nat} {pos pos' : Pos}
theorem ss_dputP (hu : X.A.units + 1 < cLine) (ho : SE X o fo) (hi : SQ X ix fk) (hv : SE X value fe) (hs : swapsWith value (some (.Subscript o ix pos')) pos.line X.env = pure false := by rfl) : SS X fix (.Assign [.Subscript o ix pos'] value pos) (sDPutP fe fo fk) :=
  ps_imp (ps_dput hu ho hi hv hs) fun D σ H q => by
    obtain ⟨F, en, L, en', fl, st, e, q⟩ := q
    unfold sDPutP at e
    split at e
    · cases e
    rename_i en1 r e1
    split at e
    · cases e
    rename_i en2 d e2
    split at e
    · rename_i en3 j p e3
      split at e
      · rename_i kd ek
        split at e
        · rename_i k ks ds ek2 ew
          split at e
          · rename_i hl
            cases e
            refine ⟨F, en, L, en1, r, st, e1, fun v F1 H1 L1 Lr st1 rr nd x => ?_⟩
            obtain ⟨F2, L2, st2, rp, x2⟩ := rr.fz st1 nd e2
            refine ⟨F2, en2, L2, en3, .pl j p, st2, e3, fun u F3 H3 L3 Lr3 st3 rr3 nd3 x3 => ?_⟩
            refine ⟨F3, en3, L3, kd, st3, ek, fun y hy => ?_⟩
            obtain ⟨rfl, w1, La, Lm, Lb, P⟩ := RR.part st3 rr3
            have hw1 : w1 = .dT ks ds := by
              have g := P.1
              rw [ew] at g
              cases g
              rfl
            subst hw1
            obtain ⟨a, kws, rfl, ha, hk, hr, wr⟩ := write_dT st3 P
            obtain ⟨b, rfl, hb⟩ := rep_tkey (hy.mono st3.sub) ek2
            obtain ⟨z1, z2⟩ := put_pairs (k := k) hk hr (rp.mono x3.sub)
            obtain ⟨s4, x4⟩ := wr _ _ _ z1 z2
            refine ⟨a, _, rfl, DPut.t ha hb (by rw [← hk, List.length_map] at hl; exact hl), q σ F3 _ L3 s4 Fixed.refl ?_⟩
            exact x.trans (x2.trans ((drop_temp x3).trans x4))
          · cases e
        · cases e
      · cases e
    · cases e
end
end Pu
namespace Pu
variable [TabN]
open PySem PySem.Spec PyProof.Rows L2
section
variable (K : PySem.W.Frag) (mg : Str → Option Value)
/-- the iterator goes over these things -/
def IterOk (F : Hp) (J : It) (ds : List D) : Prop := ∀ (i : Nat) (H : Hp), Same F H → (ds.length ≤ i → J.stop i H) ∧
  ∀ d, ds[i]? = some d → J.go i H ∧ ∀ x H', J.yld i H x H' → (H' = H ∧ Rep K mg F d x) ∨ (∃ T o, H T = none ∧ H' = upd H T (.tup o) ∧ Rep K mg (upd F T (.tup o)) d x) ∨ ∃ T o, H T = some (.tup o) ∧ H' = H ∧ Rep K mg (upd F T (.tup o)) d x
abbrev FI := En → Option (En × List D)
def tI (fi : FI) : TI := fun σ H R => ∃ F en L en' ds, StOk K mg F H σ en L ∧ fi en = some (en', ds) ∧ ∀ J F' H' L', StOk K mg F' H' σ en' L' → Ext F H L F' H' L' → IterOk K mg F' J ds → R J H'
end
abbrev SI (X : Cx) (tg iter : Expr) (fi : FI) : Prop := PI X tg iter (tI X.K X.mg fi)
theorem pi_imp {X : Cx} {tg e : Expr} {t t' : TI} (h : PI X tg e t) (i : ∀ σ H R, t' σ H R → t σ H R) : PI X tg e t' := ⟨fun pins s σ H R I q => h.run pins s σ H R I (i σ H R q)⟩
theorem pi_or2 {X : Cx} {tg e : Expr} {t t' : TI} (h : PI X tg e t) (h' : PI X tg e t') : PI X tg e (fun σ H R => t σ H R ∨ t' σ H R) := ⟨fun pins s σ H R I q => q.elim (h.run pins s σ H R I) (h'.run pins s σ H R I)⟩

def D.walk : D → Option (List D)
  | .tup ds => some ds
  | .lst ds => some ds
  | .frl ds => some ds
  | .str x => some (x.cps.toList.map fun c => .str ⟨#[c]⟩)
  | _ => none
def iSeq (f : FE) : FI := fun en => match f en with
  | none => none
  | some (en1, r) => match r.fz en1 with
    | none => none
    | some (en2, d) => match d.walk with
      | none => none
      | some ds => some (en2, ds)
section
variable {X : Cx} {tg e : Expr} {f : FE}
theorem si_seq (he : SE X e f) : SI X tg e (iSeq f) := pi_imp (pi_or2 (pi_list he) (pi_or2 (pi_tup he) (pi_str he))) fun σ H R q => by
  obtain ⟨F, en, L, en', ds, st, e, k⟩ := q
  unfold iSeq at e
  split at e
  · cases e
  rename_i en1 r e1
  split at e
  · cases e
  rename_i en2 d e2
  split at e
  · cases e
  rename_i ds' e3
  cases e
  have at_ : ∀ {F2 : Hp} {vs : List V} {i : Nat} {d : D} {H2 : Hp} {x : V}, Reps X.K X.mg F2 ds vs → ds[i]? = some d → vs[i]? = some x → Rep X.K X.mg F2 d x := fun r e1 e2 => by
    obtain ⟨y, h1, h2⟩ := reps_at r e1
    rw [h1] at e2
    cases e2
    exact h2
  have get_ : ∀ {vs : List V} {i : Nat} {d : D} {F2 : Hp}, Reps X.K X.mg F2 ds vs → ds[i]? = some d → ∃ y, vs[i]? = some y ∧ Rep X.K X.mg F2 d y := fun r e1 => reps_at r e1
  cases d with
  | lst ds0 =>
    simp only [D.walk, Option.some.injEq] at e3
    subst e3
    refine .inl ⟨F, en, L, en1, r, st, e1, fun v F1 H1 L1 Lr st1 rr nd x => ?_⟩
    obtain ⟨F2, L2, st2, rp, x2⟩ := rr.fz st1 nd e2
    simp only [Rep] at rp
    obtain ⟨a, vs, rfl, ha, hr⟩ := rp
    refine ⟨a, rfl, ⟨vs, SqL.of (st2.sub _ _ ha)⟩, k _ F2 H1 L2 st2 (x.trans x2) fun i H2 s2 => ⟨fun hi => ⟨vs, SqL.of (s2 _ _ ha), by rw [← hr.len]; exact hi⟩, fun d hd => ?_⟩⟩
    obtain ⟨y, h1, h2⟩ := get_ hr hd
    refine ⟨⟨vs, y, SqL.of (s2 _ _ ha), h1⟩, fun x H' hy => .inl ⟨hy.1, ?_⟩⟩
    have := hy.2 vs (SqL.of (s2 _ _ ha))
    rw [h1] at this
    cases this
    exact h2
  | frl ds0 =>
    simp only [D.walk, Option.some.injEq] at e3
    subst e3
    refine .inl ⟨F, en, L, en1, r, st, e1, fun v F1 H1 L1 Lr st1 rr nd x => ?_⟩
    obtain ⟨F2, L2, st2, rp, x2⟩ := rr.fz st1 nd e2
    simp only [Rep] at rp
    obtain ⟨a, vs, rfl, ha, hr⟩ := rp
    refine ⟨a, rfl, ⟨vs, st2.sub.seq ha⟩, k _ F2 H1 L2 st2 (x.trans x2) fun i H2 s2 => ⟨fun hi => ⟨vs, s2.seq ha, by rw [← hr.len]; exact hi⟩, fun d hd => ?_⟩⟩
    obtain ⟨y, h1, h2⟩ := get_ hr hd
    refine ⟨⟨vs, y, s2.seq ha, h1⟩, fun x H' hy => .inl ⟨hy.1, ?_⟩⟩
    have := hy.2 vs (s2.seq ha)
    rw [h1] at this
    cases this
    exact h2
  | tup ds0 =>
    simp only [D.walk, Option.some.injEq] at e3
    subst e3
    refine .inr (.inl ⟨F, en, L, en1, r, st, e1, fun v F1 H1 L1 Lr st1 rr nd x => ?_⟩)
    obtain ⟨F2, L2, st2, rp, x2⟩ := rr.fz st1 nd e2
    simp only [Rep] at rp
    obtain ⟨a, vs, rfl, ha, hr⟩ := rp
    refine ⟨a, rfl, ⟨vs, seqT st2.sub ha.1⟩, k _ F2 H1 L2 st2 (x.trans x2) fun i H2 s2 => ⟨fun hi => ⟨vs, seqT s2 ha.1, by rw [← hr.len]; exact hi⟩, fun d hd => ?_⟩⟩
    obtain ⟨y, h1, h2⟩ := get_ hr hd
    refine ⟨⟨vs, y, seqT s2 ha.1, h1⟩, fun x H' hy => .inl ⟨hy.1, ?_⟩⟩
    have := hy.2 vs (seqT s2 ha.1)
    rw [h1] at this
    cases this
    exact h2
  | str z =>
    simp only [D.walk, Option.some.injEq] at e3
    subst e3
    refine .inr (.inr ⟨F, en, L, en1, r, st, e1, fun v F1 H1 L1 Lr st1 rr nd x => ?_⟩)
    obtain ⟨F2, L2, st2, rp, x2⟩ := rr.fz st1 nd e2
    refine ⟨z, rep_str rp, k _ F2 H1 L2 st2 (x.trans x2) fun i H2 s2 => ⟨fun hi => ?_, fun d hd => ?_⟩⟩
    · simp only [List.length_map, Array.length_toList] at hi
      exact hi
    · simp only [List.getElem?_map, Array.getElem?_toList] at hd
      cases hc : z.cps[i]? with
      | none => rw [hc] at hd; cases hd
      | some c =>
        rw [hc] at hd
        cases hd
        refine ⟨(Array.getElem?_eq_some_iff.mp hc).1, fun x H' hy => .inl ⟨hy.1, ?_⟩⟩
        obtain ⟨_, c', h1, rfl⟩ := hy
        rw [hc] at h1
        cases h1
        exact rep_v rfl
  | _ => cases e3
end
def iRange1 (f : FE) : FI := fun en => match evs [f] en with
  | some (en1, [r]) => match r.d en1 with
    | some (.int n) => if -(2 ^ 62) ≤ n ∧ n < 2 ^ 62 then some (en1, (List.range n.toNat).map fun (k : Nat) => D.int (k : Int)) else none
    | _ => none
  | _ => none
def iRange2 (f g : FE) : FI := fun en => match evs [f, g] en with
  | some (en1, [r1, r2]) => match r1.d en1, r2.d en1 with
    | some (.int a), some (.int b) => if -(2 ^ 62) ≤ a ∧ a < 2 ^ 62 ∧ -(2 ^ 62) ≤ b ∧ b < 2 ^ 62 then some (en1, (List.range (b - a).toNat).map fun (k : Nat) => D.int (a + (k : Int))) else none
    | _, _ => none
  | _ => none
theorem iter_range {K : PySem.W.Frag} {mg : Str → Option Value} {F : Hp} {lo : Int} {n : Nat} : IterOk K mg F (Itr lo n) ((List.range n).map fun (k : Nat) => D.int (lo + k)) := fun i H _ => by
  refine ⟨fun hi => by
    show n ≤ i
    simpa using hi, fun d hd => ?_⟩
  simp only [List.getElem?_map] at hd
  cases hr : (List.range n)[i]? with
  | none => rw [hr] at hd; cases hd
  | some k =>
    rw [hr] at hd
    cases hd
    obtain ⟨h1, h2⟩ := List.getElem?_eq_some_iff.mp hr
    simp only [List.getElem_range] at h2
    simp only [List.length_range] at h1
    subst h2
    refine ⟨h1, fun x H' hy => .inl ⟨hy.1, ?_⟩⟩
    have := hy.2
    subst this
    exact rep_v rfl
section
variable {X : Cx} {tg a b : Expr} {fa fb : FE} {p pos : Pos}
theorem rrs1 {K : PySem.W.Frag} {mg : Str → Option Value} {F H : Hp} {σ : L2.St} {en : En} {L Lr : List Addr} {r1 : R} {vs : List V} (h : RRs K mg F H σ en L [r1] vs Lr) : ∃ v1, vs = [v1] ∧ RR K mg F H σ en L r1 v1 Lr := by
  match vs, h with
  | [v1], h =>
    simp only [RRs] at h
    obtain ⟨A, B, rfl, h1, rfl⟩ := h
    exact ⟨v1, rfl, by simpa using h1⟩
  | [], h => simp only [RRs] at h
  | _ :: _ :: _, h =>
    simp only [RRs] at h
    obtain ⟨_, _, _, _, h⟩ := h
    exact h.elim
theorem si_range1 (hg : Gl X "range") (hm : X.mg "range" = none) (ha : SE X a fa) (hs : starEach [a] X.env = [(false, eval a X.env)] := by rfl) : SI X tg (.Call (.Name "range" p) [a] [] pos) (iRange1 fa) :=
  pi_imp (pi_range1 hg hm (sa_cons ha sa_nil hs) hs) fun σ H R q => by
    obtain ⟨F, en, L, en', ds, st, e, k⟩ := q
    unfold iRange1 at e
    split at e
    · rename_i en1 r e1
      split at e
      · rename_i n e2
        split at e
        · rename_i hb
          cases e
          refine ⟨F, en, L, _, [r], st, e1, fun vs F1 H1 L1 Lr st1 rr nd x => ?_⟩
          obtain ⟨v1, rfl, h1⟩ := rrs1 rr
          have := rep_int (h1.peek st1 e2)
          subst this
          refine ⟨n, rfl, hb.1, hb.2, k _ F1 H1 L1 st1 (drop_temp x) ?_⟩
          have := iter_range (K := X.K) (mg := X.mg) (F := F1) (lo := 0) (n := n.toNat)
          simpa using this
        · cases e
      · cases e
    · cases e
end
def enumD : Nat → List D → List D
  | _, [] => []
  | n, d :: ds => .tup [.int n, d] :: enumD (n + 1) ds
theorem enumD_len : ∀ (ds : List D) (n : Nat), (enumD n ds).length = ds.length
  | [], _ => rfl
  | _ :: ds, n => by simp [enumD, enumD_len ds]
theorem enumD_get : ∀ (ds : List D) (n i : Nat) (d : D), (enumD n ds)[i]? = some d → ∃ x, ds[i]? = some x ∧ d = .tup [.int ((n + i : Nat) : Int), x]
  | [], _, _, _, h => by simp [enumD] at h
  | x :: ds, n, 0, d, h => by
    simp only [enumD, List.getElem?_cons_zero, Option.some.injEq] at h
    exact ⟨x, rfl, h.symm⟩
  | x :: ds, n, i + 1, d, h => by
    simp only [enumD, List.getElem?_cons_succ] at h
    obtain ⟨y, h1, h2⟩ := enumD_get ds (n + 1) i d h
    exact ⟨y, by simpa using h1, by rw [h2]; congr 4; omega⟩
/-- zip of lists -/
def zipD : List D → List D → List D
  | d :: ds, e :: es => .tup [d, e] :: zipD ds es
  | _, _ => []
section
variable {X : Cx} {e : Expr} {f : FE} {p pos tpos : Pos} {elts : List Expr} {kk : Nat}
end
def iZipL (f g : FE) : FI := fun en => match evs [f, g] en with
  | some (en1, rs) => match rfz en1 rs with
    | some (en2, [a, b]) => match a.its, b.its with
      | some (.t, ds), some (.t, es) => some (en2, zipD ds es)
      | some (.l, ds), some (.l, es) => some (en2, zipD ds es)
      | some (.l, ds), some (.f, es) => some (en2, zipD ds es)
      | some (.f, ds), some (.l, es) => some (en2, zipD ds es)
      | some (.f, ds), some (.f, es) => some (en2, zipD ds es)
      | _, _ => none
    | _ => none
  | none => none
section
variable {X : Cx} {a b : Expr} {fa fb : FE} {p pos tpos : Pos} {elts : List Expr} {kk : Nat}
end
def forD (g : FG) (body : FS) : List D → En → Option (En × Fl)
  | [], en => some (en, .nx)
  | d :: ds, en => match g en (.sh d) with
    | none => none
    | some en1 => match body en1 with
      | none => none
      | some (en2, .nx) => forD g body ds en2
      | some (en2, .ct) => forD g body ds en2
      | some (en2, .bk) => some (en2, .nx)
      | some (en2, .ret w) => some (en2, .ret w)
def sFor (fi : FI) (g : FG) (body : FS) : FS := fun en => match fi en with
  | none => none
  | some (en1, ds) => forD g body ds en1
section
variable {K : PySem.W.Frag} {mg : Str → Option Value}
/-- a tuple that stands there may be frozen -/
theorem tup_frozen {F H : Hp} {σ : L2.St} {en : En} {L : List Addr} {T : Addr} {o : List V} (st : StOk K mg F H σ en L) (h : H T = some (.tup o)) : StOk K mg (upd F T (.tup o)) H σ en L ∧ Ext F H L (upd F T (.tup o)) H L ∧ Same F (upd F T (.tup o)) := by
  have nL : T ∉ L := fun z => st.own.notup T z o h
  have s1 : Same F (upd F T (.tup o)) := fun b u e => by
    by_cases hb : b = T
    · subst hb
      rw [upd_same]
      have := st.sub _ _ e
      rw [h] at this
      exact this
    · rw [upd_ne hb]; exact e
  have s2 : Same (upd F T (.tup o)) H := fun b u e => by
    by_cases hb : b = T
    · subst hb
      rw [upd_same] at e
      rw [← e]; exact h
    · rw [upd_ne hb] at e; exact st.sub _ _ e
  refine ⟨⟨s2, st.nd, st.own.stay ⟨s1, fun b hb => ?_, fun _ _ => rfl⟩, ⟨st.tb.ok.step s1 fun _ _ e => e, fun b ps e => ?_⟩⟩, Ext.of (fun _ _ e _ => e) (fun _ _ e => e) (fun _ e => e) s1 (fun b e => ?_) (fun _ e => .inl e), s1⟩
  rotate_left
  · by_cases hb : b = T
    · subst hb
      rw [upd_same] at e
      cases e
    · rw [upd_ne hb] at e; exact st.tb.no _ _ e
  rotate_left
  · rw [upd_ne (fun z : b = T => nL (by rw [← z]; exact hb))]
    exact (st.cell b hb).2
  · by_cases hb : b = T
    · subst hb
      exact .inr (.inr (.inr ⟨o, h⟩))
    · rw [upd_ne hb] at e; exact .inl e
/-- an item has come -/
theorem item_come {F F0 H H' : Hp} {σ : L2.St} {en : En} {L : List Addr} {d : D} {x : V} (st : StOk K mg F H σ en L) (s0 : Same F0 F) (h : (H' = H ∧ Rep K mg F0 d x) ∨ (∃ T o, H T = none ∧ H' = upd H T (.tup o) ∧ Rep K mg (upd F0 T (.tup o)) d x) ∨ ∃ T o, H T = some (.tup o) ∧ H' = H ∧ Rep K mg (upd F0 T (.tup o)) d x) :
    ∃ F', StOk K mg F' H' σ en L ∧ Rep K mg F' d x ∧ Ext F H L F' H' L := by
  rcases h with ⟨rfl, r⟩ | ⟨T, o, hT, rfl, r⟩ | ⟨T, o, hT, rfl, r⟩
  · exact ⟨F, st, r.mono s0, Ext.refl⟩
  · obtain ⟨a, b⟩ := lay_frozen (o := .tup o) st hT
    exact ⟨_, a, r.mono (upd_both s0 (sub_none st.sub hT)), b⟩
  · obtain ⟨a, b, c⟩ := tup_frozen st hT
    refine ⟨_, a, r.mono fun b u e => ?_, b⟩
    by_cases hb : b = T
    · subst hb
      rw [upd_same] at e ⊢; exact e
    · rw [upd_ne hb] at e ⊢; exact s0 _ _ e
end
section
variable {X : Cx} {fix : List Nat} {tg iter : Expr} {body : List Stmt} {fi : FI} {g : FG} {fb : FS} {pos : Pos}
theorem ss_for (hp : PassesOwn (model X.prog X.w) X.A X.env X.xe) (hc : X.calm = true) (hi : SI X tg iter fi) (hg : SG X fix tg g) (hb : SSs X fix body fb) (hs : ∀ x, foldedSetIterable iter X.env x = pure x := by intro _; rfl) : SS X fix (.For tg iter body [] pos) (sFor fi g fb) :=
  ps_imp (ps_for hp hc hi hg hb hs) fun D σ H q => by
    obtain ⟨F, en, L, en', fl, st, e, q⟩ := q
    unfold sFor at e
    split at e
    · cases e
    rename_i en1 ds e1
    refine ⟨F, en, L, en1, ds, st, e1, fun J F1 H1 L1 st1 x1 it => ?_⟩
    refine ⟨fun i m σ2 H2 => m = ds.length - i ∧ i ≤ ds.length ∧ ∃ F2 en2 L2, StOk X.K X.mg F2 H2 σ2 en2 L2 ∧ Fixed fix σ σ2 ∧ Ext F1 H1 L1 F2 H2 L2 ∧ forD g fb (ds.drop i) en2 = some (en', fl),
      ⟨ds.length, by simp, Nat.zero_le _, F1, en1, L1, st1, Fixed.refl, Ext.refl, by simpa using e⟩, ?_⟩
    rintro i m σ2 H2 ⟨rfl, hi, F2, en2, L2, st2, f2, x2, e2⟩
    have it2 := it i H2 (x2.sub.trans st2.sub)
    by_cases hlt : i < ds.length
    · obtain ⟨go, yld⟩ := it2.2 ds[i] (List.getElem?_eq_getElem hlt)
      rw [List.drop_eq_getElem_cons hlt] at e2
      simp only [forD] at e2
      split at e2
      · cases e2
      rename_i en3 e3
      refine .inr ⟨go, fun σ' H' => ∃ F' en' L', StOk X.K X.mg F' H' σ' en' L' ∧ Fixed fix σ σ' ∧ Ext F1 H1 L1 F' H' L' ∧ forD g fb (ds.drop (i + 1)) en' = some (_, fl), fun σ' H' ⟨F', en', L', a, b, c, d⟩ => ⟨ds.length - (i + 1), by omega, rfl, hlt, F', en', L', a, b, c, d⟩, fun x H' hy => ?_⟩
      obtain ⟨F3, st3, r3, x3⟩ := item_come st2 x2.sub (yld x H' hy)
      refine ⟨F3, en2, L2, .sh ds[i], [], en3, st3, own_sh r3, by simpa using st3.nd, e3, fun σ4 F4 H4 L4 st4 f4 x4 => ?_⟩
      have xx : Ext F1 H1 L1 F4 H4 L4 := x2.trans (x3.trans (x4.mem (fun a h => by simpa using h) fun a h => h))
      split at e2
      · cases e2
      · rename_i en5 e5
        exact ⟨F4, en3, L4, en5, .nx, st4, e5, fun σ' F' H' L' a b c => ⟨F', en5, L', a, (f2.trans f4).trans b, xx.trans c, e2⟩⟩
      · rename_i en5 e5
        exact ⟨F4, en3, L4, en5, .ct, st4, e5, fun σ' F' H' L' a b c => ⟨F', en5, L', a, (f2.trans f4).trans b, xx.trans c, e2⟩⟩
      · rename_i en5 e5
        cases e2
        exact ⟨F4, en3, L4, _, .bk, st4, e5, fun σ' F' H' L' a b c => q σ' F' H' L' a ((f2.trans f4).trans b) (x1.trans (xx.trans c))⟩
      · rename_i en5 w e5
        cases e2
        exact ⟨F4, en3, L4, _, .ret w, st4, e5, fun v σ' F' H' L' Lr a b c d e => q v σ' F' H' L' Lr a ((f2.trans f4).trans b) c d (x1.trans (xx.trans e))⟩
    · have e0 : i = ds.length := by omega
      subst e0
      rw [List.drop_length] at e2
      simp only [forD, Option.some.injEq, Prod.mk.injEq] at e2
      obtain ⟨rfl, rfl⟩ := e2
      exact .inl ⟨it2.1 (Nat.le_refl _), q σ2 F2 H2 L2 st2 f2 (x1.trans x2)⟩
def whD (t : FT) (body : FS) : Nat → En → Option (En × Fl)
  | 0, _ => none
  | n + 1, en => match t en with
    | none => none
    | some (en1, false) => some (en1, .nx)
    | some (en1, true) => match body en1 with
      | none => none
      | some (en2, .nx) => whD t body n en2
      | some (en2, .ct) => whD t body n en2
      | some (en2, .bk) => some (en2, .nx)
      | some (en2, .ret w) => some (en2, .ret w)
theorem ss_while {c : Expr} {t : FT} {n : Nat} (hp : PassesOwn (model X.prog X.w) X.A X.env X.xe) (hc : ST X c t) (hb : SSs X fix body fb) : SS X fix (.While c body [] pos) (whD t fb n) :=
  ps_imp (ps_while hp hc hb) fun D σ H q => by
    obtain ⟨F, en, L, en', fl, st, e, q⟩ := q
    refine ⟨fun m σ2 H2 => ∃ F2 en2 L2, StOk X.K X.mg F2 H2 σ2 en2 L2 ∧ Fixed fix σ σ2 ∧ Ext F H L F2 H2 L2 ∧ whD t fb m en2 = some (en', fl), ⟨n, F, en, L, st, Fixed.refl, Ext.refl, e⟩, ?_⟩
    rintro m σ2 H2 ⟨F2, en2, L2, st2, f2, x2, e2⟩
    cases m with
    | zero => simp only [whD] at e2; cases e2
    | succ m =>
      simp only [whD] at e2
      split at e2
      · cases e2
      · rename_i en3 e3
        cases e2
        refine ⟨F2, en2, L2, _, false, st2, e3, fun F3 H3 L3 st3 x3 => ?_⟩
        refine iteF ?_
        exact q σ2 F3 H3 L3 st3 f2 (x2.trans x3)
      · rename_i en3 e3
        refine ⟨F2, en2, L2, _, true, st2, e3, fun F3 H3 L3 st3 x3 => ?_⟩
        refine iteT ?_
        have xx := x2.trans x3
        refine ⟨fun σ' H' => ∃ F' en'' L', StOk X.K X.mg F' H' σ' en'' L' ∧ Fixed fix σ σ' ∧ Ext F H L F' H' L' ∧ whD t fb m en'' = some (_, fl), fun σ' H' ⟨F', en'', L', a, b, c, d⟩ => ⟨m, Nat.lt_succ_self m, F', en'', L', a, b, c, d⟩, ?_⟩
        split at e2
        · cases e2
        · rename_i en5 e5
          exact ⟨F3, en3, L3, en5, .nx, st3, e5, fun σ' F' H' L' a b c => ⟨F', en5, L', a, f2.trans b, xx.trans c, e2⟩⟩
        · rename_i en5 e5
          exact ⟨F3, en3, L3, en5, .ct, st3, e5, fun σ' F' H' L' a b c => ⟨F', en5, L', a, f2.trans b, xx.trans c, e2⟩⟩
        · rename_i en5 e5
          cases e2
          exact ⟨F3, en3, L3, _, .bk, st3, e5, fun σ' F' H' L' a b c => q σ' F' H' L' a (f2.trans b) (xx.trans c)⟩
        · rename_i en5 w e5
          cases e2
          exact ⟨F3, en3, L3, _, .ret w, st3, e5, fun v σ' F' H' L' Lr a b c d e => q v σ' F' H' L' Lr a (f2.trans b) c d (xx.trans e)⟩
end
end Pu
namespace Pu
variable [TabN]
open PySem PySem.Spec PyProof.Rows L2
def W.isSh : W → Bool
  | .sh _ => true
  | _ => false
def wipeE (en : En) : List Nat → En
  | [] => en
  | k :: ks => (wipeE en ks).set k (.sh .any)
def restE (eb en : En) : List Nat → En
  | [] => eb
  | k :: ks => match en[k]? with
    | some w => (restE eb en ks).set k w
    | none => restE eb en ks
def okV (en : En) (vs : List Nat) : Bool := vs.all fun k => match en[k]? with
  | some w => w.isSh
  | none => false
section
variable {K : PySem.W.Frag} {mg : Str → Option Value} {F H : Hp}
/-- a place that owns nothing may hold another such thing, or nothing -/
theorem OwnsO.put : ∀ {ws : List W} {os : List (Option V)} {L : List Addr} {k : Nat} {w : W} {o : Option V}, OwnsO K mg F H ws os L → k < ws.length → ((∃ d v, w = .sh d ∧ o = some v ∧ Rep K mg F d v) ∨ (w = .sh .any ∧ o = none)) →
    ∃ L', OwnsO K mg F H (ws.set k w) (os.set k o) L' ∧ L'.Sublist L
  | [], _, _, _, _, _, _, hk, _ => by simp at hk
  | _ :: _, [], _, _, _, _, h, _, _ => by simp only [OwnsO] at h
  | w0 :: ws, some v0 :: os, L, 0, w, o, h, hk, hn => by
    simp only [OwnsO] at h
    obtain ⟨A, B, rfl, h1, h2⟩ := h
    rcases hn with ⟨d, v, rfl, rfl, r⟩ | ⟨rfl, rfl⟩
    · refine ⟨B, ?_, List.sublist_append_right A B⟩
      simp only [List.set_cons_zero, OwnsO]
      exact ⟨[], B, rfl, own_sh r, h2⟩
    · refine ⟨B, ?_, List.sublist_append_right A B⟩
      simp only [List.set_cons_zero, OwnsO]
      exact ⟨trivial, h2⟩
  | w0 :: ws, none :: os, L, 0, w, o, h, hk, hn => by
    simp only [OwnsO] at h
    rcases hn with ⟨d, v, rfl, rfl, r⟩ | ⟨rfl, rfl⟩
    · refine ⟨L, ?_, List.Sublist.refl L⟩
      simp only [List.set_cons_zero, OwnsO]
      exact ⟨[], L, rfl, own_sh r, h.2⟩
    · refine ⟨L, ?_, List.Sublist.refl L⟩
      simp only [List.set_cons_zero, OwnsO]
      exact ⟨trivial, h.2⟩
  | w0 :: ws, some v0 :: os, L, k + 1, w, o, h, hk, hn => by
    simp only [OwnsO] at h
    obtain ⟨A, B, rfl, h1, h2⟩ := h
    obtain ⟨L', h3, h4⟩ := h2.put (k := k) (by simpa using hk) hn
    refine ⟨A ++ L', ?_, (List.Sublist.refl A).append h4⟩
    simp only [List.set_cons_succ, OwnsO]
    exact ⟨A, L', rfl, h1, h3⟩
  | w0 :: ws, none :: os, L, k + 1, w, o, h, hk, hn => by
    simp only [OwnsO] at h
    obtain ⟨L', h3, h4⟩ := h.2.put (k := k) (by simpa using hk) hn
    refine ⟨L', ?_, h4⟩
    simp only [List.set_cons_succ, OwnsO]
    exact ⟨h.1, h3⟩
theorem wipeE_len (en : En) : ∀ vs : List Nat, (wipeE en vs).length = en.length
  | [] => rfl
  | k :: ks => by simp [wipeE, wipeE_len en ks]
theorem restE_len (eb en : En) : ∀ vs : List Nat, (restE eb en vs).length = eb.length
  | [] => rfl
  | k :: ks => by
    simp only [restE]
    split
    · simp [restE_len eb en ks]
    · exact restE_len eb en ks
theorem wipe_ok {σ : L2.St} {en : En} : ∀ {vs : List Nat} {L : List Addr}, OwnsO K mg F H en σ L → (∀ k ∈ vs, k < en.length) → ∃ L', OwnsO K mg F H (wipeE en vs) (wipe σ vs) L' ∧ L'.Sublist L
  | [], L, h, _ => ⟨L, h, List.Sublist.refl L⟩
  | k :: ks, L, h, hk => by
    obtain ⟨L1, h1, s1⟩ := wipe_ok (vs := ks) h fun j hj => hk j (by simp [hj])
    obtain ⟨L2, h2, s2⟩ := h1.put (k := k) (w := .sh .any) (o := none) (by rw [wipeE_len]; exact hk k (by simp)) (.inr ⟨rfl, rfl⟩)
    exact ⟨L2, by simp only [wipeE, wipe]; exact h2, s2.trans s1⟩
def restS (σb σ : L2.St) : List Nat → L2.St
  | [] => σb
  | k :: ks => match σ[k]? with
    | some o => (restS σb σ ks).set k o
    | none => restS σb σ ks
theorem restS_len (σb σ : L2.St) : ∀ vs : List Nat, (restS σb σ vs).length = σb.length
  | [] => rfl
  | k :: ks => by
    simp only [restS]
    split
    · simp [restS_len σb σ ks]
    · exact restS_len σb σ ks
theorem rest_ok {F0 H0 : Hp} {σ σb : L2.St} {en eb : En} {L0 : List Addr} (h0 : OwnsO K mg F0 H0 en σ L0) (s0 : Same F0 F) (hl : eb.length = en.length) : ∀ {vs : List Nat} {L : List Addr}, OwnsO K mg F H eb σb L → okV en vs = true →
    ∃ L', OwnsO K mg F H (restE eb en vs) (restS σb σ vs) L' ∧ L'.Sublist L
  | [], L, h, _ => ⟨L, h, List.Sublist.refl L⟩
  | k :: ks, L, h, hv => by
    simp only [okV, List.all_cons, Bool.and_eq_true] at hv
    obtain ⟨hk, hv⟩ := hv
    obtain ⟨L1, h1, s1⟩ := rest_ok h0 s0 hl h (vs := ks) hv
    split at hk
    · rename_i w hw
      obtain ⟨o, La, Lm, Lb, g1, g2, g3, _⟩ := h0.get hw
      have hlt : k < (restE eb en ks).length := by
        rw [restE_len, hl]
        exact (List.getElem?_eq_some_iff.mp hw).1
      have hn : (∃ d v, w = .sh d ∧ o = some v ∧ Rep K mg F d v) ∨ (w = .sh .any ∧ o = none) := by
        rcases g3 with ⟨v, rfl, ho⟩ | ⟨rfl, rfl, _⟩
        · cases w with
          | sh d =>
            simp only [Own] at ho
            exact .inl ⟨d, v, rfl, rfl, ho.1.mono s0⟩
          | _ => cases hk
        · exact .inr ⟨rfl, rfl⟩
      obtain ⟨L2, h2, s2⟩ := h1.put hlt hn
      exact ⟨L2, by simp only [restE, restS, hw, g1]; exact h2, s2.trans s1⟩
    · cases hk
theorem restS_eq {σ σb : L2.St} {vs : List Nat} (hl : σb.length = σ.length) (ho : ∀ i, i ∉ vs → σb[i]? = σ[i]?) : restS σb σ vs = σ := by
  apply List.ext_getElem?
  have gen : ∀ ks : List Nat, ∀ i, (restS σb σ ks)[i]? = if i ∈ ks then σ[i]? else σb[i]? := by
    intro ks
    induction ks with
    | nil => intro i; simp [restS]
    | cons k ks ih =>
      intro i
      simp only [restS]
      split
      · rename_i o hk
        by_cases e : k = i
        · subst e
          have hlt : k < (restS σb σ ks).length := by rw [restS_len, hl]; exact (List.getElem?_eq_some_iff.mp hk).1
          rw [List.getElem?_set_self hlt]
          simp [hk]
        · rw [List.getElem?_set_ne e, ih i]
          simp [Ne.symm e]
      · rename_i hk
        rw [ih i]
        by_cases e : i = k
        · subst e
          by_cases hm : i ∈ ks
          · simp [hm]
          · simp only [hm, if_false, List.mem_cons, true_or, if_true]
            rw [hk]
            have : σb.length ≤ i := by rw [hl]; exact List.getElem?_eq_none_iff.mp hk
            exact List.getElem?_eq_none_iff.mpr this
        · simp [e]
  intro i
  rw [gen vs i]
  split
  · rfl
  · rename_i h; exact ho i h
end
theorem wipe_in (τ : L2.St) : ∀ {ks : List Nat} {j : Nat}, j ∈ ks → (wipe τ ks)[j]? = if j < τ.length then some none else none
  | k :: ks, j, hj => by
    simp only [wipe]
    by_cases e : k = j
    · subst e
      by_cases hl : k < τ.length
      · rw [List.getElem?_set_self (by rw [wipe_length]; exact hl)]
        simp [hl]
      · rw [List.getElem?_eq_none (by rw [List.length_set, wipe_length]; omega)]
        simp [hl]
    · rw [List.getElem?_set_ne e]
      exact wipe_in τ ((List.mem_cons.mp hj).resolve_left (Ne.symm e))
  | [], _, hj => by cases hj
/-- the places of all names but the block's -/
def others (n : Nat) (vs : List Nat) : List Nat := (List.range n).filter fun i => !vs.contains i
theorem others_mem {n : Nat} {vs : List Nat} {i : Nat} (h1 : i < n) (h2 : i ∉ vs) : i ∈ others n vs := by
  simp only [others, List.mem_filter, List.mem_range, Bool.not_eq_true']
  exact ⟨h1, by simpa using h2⟩

def compD (vs : List Nat) (g : FG) (t : FT) (f : FE) : List D → En → List W → Option (En × List W)
  | [], en, ws => some (en, ws)
  | d :: ds, en, ws => if okV en vs = true then match g (wipeE en vs) (.sh d) with
    | none => none
    | some en1 => if en1.length = en.length then match t en1 with
      | none => none
      | some (en2, false) => if en2.length = en.length then compD vs g t f ds (restE en2 en vs) ws else none
      | some (en2, true) => match f en2 with
        | none => none
        | some (en3, r) => match r.tk en3 with
          | none => none
          | some (en4, w) => if en4.length = en.length ∧ ws.length < sizeLine then compD vs g t f ds (restE en4 en vs) (ws ++ [w]) else none
      else none
    else none
def fComp (vs : List Nat) (fi : FI) (g : FG) (t : FT) (f : FE) : FE := fun en => match fi en with
  | none => none
  | some (en1, ds) => match compD vs g t f ds en1 [] with
    | none => none
    | some (en', ws) => some (en', .val (.lst ws))
def tYesE : FT := fun en => some (en, true)
section
variable {X : Cx}
theorem comp_ok {vs : List Nat} {fi : FI} {g : FG} {t : FT} {f : FE} {n : Nat} {σ : L2.St} {H : Hp} {Q : VK} (hn : σ.length = n) (q : tS X.K X.mg (fComp vs fi g t f) σ H Q) :
    tLc (tI X.K X.mg fi) (tG X.K X.mg (others n vs) g) (tT X.K X.mg t) (tS X.K X.mg f) vs σ H Q := by
  obtain ⟨F, en, L, en', r', st, e, k⟩ := q
  unfold fComp at e
  split at e
  · cases e
  rename_i en1 ds e1
  split at e
  · cases e
  rename_i en2 ws e2
  cases e
  refine ⟨F, en, L, en1, ds, st, e1, fun J F1 H1 L1 st1 x1 it => ?_⟩
  intro Dd hD
  have st1' := lay_owned (o := .lst []) st1 hD
  refine ⟨fun i m H2 => m = ds.length - i ∧ i ≤ ds.length ∧ ∃ F2 en2 L2 acc wacc La, StOk X.K X.mg F2 H2 σ en2 L2 ∧ H2 Dd = some (.lst acc) ∧ F2 Dd = none ∧ Owns X.K X.mg F2 H2 wacc acc La ∧ (L2 ++ (Dd :: La)).Nodup ∧ Ext F1 H1 L1 F2 H2 (L2 ++ (Dd :: La)) ∧ compD vs g t f (ds.drop i) en2 wacc = some (en', ws),
    ⟨ds.length, by simp, Nat.zero_le _, F1, en1, L1, [], [], [], st1'.1, upd_same, sub_none st1.sub hD, by simp only [Owns], nd_of st1.nd (by simp) (fun b hb hb' => by
      have : b = Dd := by simpa using hb'
      subst this
      exact (st1.cell b hb).1.1 hD), st1'.2, by simpa using e2⟩, ?_⟩
  rintro i m H2 ⟨rfl, hi, F2, en2, L2, acc, wacc, La, st2, hd2, hf2, ow2, nd2, x2, e3⟩
  have it2 := it i H2 (x2.sub.trans st2.sub)
  by_cases hlt : i < ds.length
  · obtain ⟨go, yld⟩ := it2.2 ds[i] (List.getElem?_eq_getElem hlt)
    rw [List.drop_eq_getElem_cons hlt] at e3
    simp only [compD] at e3
    split at e3
    case isFalse => cases e3
    rename_i hok
    split at e3
    · cases e3
    rename_i en3 eg
    split at e3
    case isFalse => cases e3
    rename_i hlen3
    obtain ⟨n1, n2, n3⟩ := nd_app nd2
    have ndD : Dd ∉ La := (List.nodup_cons.mp n2).1
    have nLa : La.Nodup := (List.nodup_cons.mp n2).2
    have own2 : ∀ b ∈ Dd :: La, b ∉ L2 ∧ NoTup (H2 b) ∧ F2 b = none := fun b hb => by
      refine ⟨fun z => n3 b z hb, ?_⟩
      rcases List.mem_cons.mp hb with rfl | hb
      · exact ⟨by rw [hd2]; exact ⟨by simp, fun vs => by simp, fun ps => by simp⟩, hf2⟩
      · exact ow2.cell b hb
    refine .inr ⟨go, fun H' => ∃ F' en' L' acc wacc La, StOk X.K X.mg F' H' σ en' L' ∧ H' Dd = some (.lst acc) ∧ F' Dd = none ∧ Owns X.K X.mg F' H' wacc acc La ∧ (L' ++ (Dd :: La)).Nodup ∧ Ext F1 H1 L1 F' H' (L' ++ (Dd :: La)) ∧ compD vs g t f (ds.drop (i + 1)) en' wacc = some (_, ws), fun H' h' => ⟨ds.length - (i + 1), by omega, rfl, hlt, h'⟩, fun x H' hy => ?_⟩
    obtain ⟨F3, st3, r3, x3⟩ := item_come st2 x2.sub (yld x H' hy)
    have hok' : ∀ k ∈ vs, k < en2.length := fun k hk => by
      unfold okV at hok
      have := List.all_eq_true.mp hok k hk
      split at this
      · rename_i w hw
        exact (List.getElem?_eq_some_iff.mp hw).1
      · cases this
    obtain ⟨L3, st3o, sub3⟩ := wipe_ok st3.own hok'
    have st3b : StOk X.K X.mg F3 H' (wipe σ vs) (wipeE en2 vs) L3 := ⟨st3.sub, sub3.nodup st3.nd, st3o, st3.tb⟩
    refine ⟨F3, wipeE en2 vs, L3, .sh ds[i], [], en3, st3b, own_sh r3, by simpa using st3b.nd, eg, fun σ4 F4 H4 L4 st4 f4 x4 => ?_⟩
    have hlen : σ4.length = σ.length := by
      rw [← st4.own.len, hlen3, st2.own.len]
    have hwl : (wipe σ vs).length = σ.length := wipe_length σ vs
    have hout : ∀ j, j ∉ vs → σ4[j]? = σ[j]? := fun j hj => by
      by_cases hjn : j < n
      · rw [f4 j (others_mem hjn hj), wipe_out hj]
      · have a1 : σ4.length ≤ j := by omega
        have a2 : σ.length ≤ j := by omega
        rw [List.getElem?_eq_none a1, List.getElem?_eq_none a2]
    have hwipe : wipe σ4 vs = wipe σ vs := by
      apply List.ext_getElem?
      intro j
      by_cases hj : j ∈ vs
      · rw [wipe_in σ4 hj, wipe_in σ hj, hlen]
      · rw [wipe_out hj, wipe_out hj]
        exact hout j hj
    -- what is owned besides through the turn
    have x34 : Ext F2 H2 L2 F4 H4 L4 := x3.trans ((x4.mem (M := L2) (M' := L4) (fun a h => sub3.subset (by simpa using h)) fun a h => h))
    have back : ∀ {F5 H5 : Hp} {L5 : List Addr} {en5 : En}, StOk X.K X.mg F5 H5 σ4 en5 L5 → Ext F4 H4 L4 F5 H5 L5 → en5.length = en2.length → ∃ L6, StOk X.K X.mg F5 H5 σ (restE en5 en2 vs) L6 ∧ L6.Sublist L5 := fun {F5 H5 L5 en5} st5 x5 hl5 => by
      obtain ⟨L6, o6, s6⟩ := rest_ok (σb := σ4) st2.own (x34.sub.trans x5.sub) hl5 st5.own hok
      rw [restS_eq hlen hout] at o6
      exact ⟨L6, ⟨st5.sub, s6.nodup st5.nd, o6, st5.tb⟩, s6⟩
    refine ⟨hwipe, ?_⟩
    split at e3
    · cases e3
    · rename_i en5 et
      split at e3
      case isFalse => cases e3
      rename_i hl5
      refine ⟨F4, en3, L4, en5, false, st4, et, fun F5 H5 L5 st5 x5 => ?_⟩
      refine iteF ?_
      have xx := x34.trans x5
      obtain ⟨L6, st6, s6⟩ := back st5 x5 hl5
      have sy := xx.stay own2
      have ap := xx.apart (M := Dd :: La) fun b hb => ⟨(own2 b hb).1, (own2 b hb).2.1.1⟩
      refine ⟨F5, _, L6, acc, wacc, La, st6, (sy.eq Dd (by simp)).trans hd2, sy.out Dd (by simp), ow2.stay (sy.less fun b hb => by simp [hb]), nd_of st6.nd n2 fun b hb hb' => ap b (s6.subset hb) b hb' rfl, x2.trans ((xx.frame (Dd :: La)).mem (fun a h => h) fun a h => ?_), e3⟩
      rcases List.mem_append.mp h with z | z
      · simp [s6.subset z]
      · exact List.mem_append_right _ z
    · rename_i en5 et
      split at e3
      · cases e3
      rename_i en6 r ef
      split at e3
      · cases e3
      rename_i en7 w ek
      split at e3
      case isFalse => cases e3
      rename_i hl7
      refine ⟨F4, en3, L4, en5, true, st4, et, fun F5 H5 L5 st5 x5 => ?_⟩
      refine iteT ?_
      refine ⟨F5, en5, L5, en6, r, st5, ef, fun y F6 H6 L6 Lr6 st6 rr6 nd6 x6 => ?_⟩
      obtain ⟨F7, L7, Lr7, st7, ow7, nd7, x7⟩ := rr6.tk st6 nd6 ek
      have xx := (x34.trans x5).trans (x6.trans x7)
      have sy := xx.stay own2
      have ap := xx.apart (M := Dd :: La) fun b hb => ⟨(own2 b hb).1, (own2 b hb).2.1.1⟩
      have hdd : H6 Dd = some (.lst acc) := (sy.eq Dd (by simp)).trans hd2
      refine ⟨acc, hdd, by rw [← ow2.len]; exact hl7.2, ?_⟩
      -- the item goes to the new list
      obtain ⟨m1, m2, m3⟩ := nd_app nd7
      have neD : ∀ b ∈ L7 ++ Lr7, b ≠ Dd := fun b hb => ap b hb Dd (by simp)
      have fD : F7 Dd = none := sy.out Dd (by simp)
      have sub7 : Same F7 (upd H6 Dd (.lst (acc ++ [y]))) := fun b u eb => by
        have hb : b ≠ Dd := fun z => by subst z; rw [fD] at eb; cases eb
        rw [upd_ne hb]
        exact st7.sub b u eb
      have ntD : ∀ ps, H6 Dd ≠ some (.tbl ps) := fun ps z => by rw [hdd] at z; cases z
      have st8 : StOk X.K X.mg F7 (upd H6 Dd (.lst (acc ++ [y]))) σ4 en7 L7 := ⟨sub7, m1, st7.own.stay ⟨Same.refl F7, fun b hb => (st7.cell b hb).2, fun b hb => upd_ne (neD b (by simp [hb]))⟩, st7.tb.upd ntD⟩
      obtain ⟨L8, o8, s8⟩ := rest_ok (σb := σ4) st2.own xx.sub hl7.1 st8.own hok
      rw [restS_eq hlen hout] at o8
      have owA : Owns X.K X.mg F7 (upd H6 Dd (.lst (acc ++ [y]))) (wacc ++ [w]) (acc ++ [y]) (La ++ Lr7) := by
        have o1 := (ow2.stay (sy.less fun b hb => by simp [hb])).stay (F' := F7) (H' := upd H6 Dd (.lst (acc ++ [y]))) ⟨Same.refl F7, fun b hb => sy.out b (by simp [hb]), fun b hb => upd_ne fun z => ndD (z ▸ hb)⟩
        have o2 := ow7.stay (F' := F7) (H' := upd H6 Dd (.lst (acc ++ [y]))) ⟨Same.refl F7, fun b hb => (ow7.cell b hb).2, fun b hb => upd_ne (neD b (by simp [hb]))⟩
        exact o1.append (Owns.one o2)
      refine ⟨F7, _, L8, acc ++ [y], wacc ++ [w], La ++ Lr7, ⟨sub7, s8.nodup m1, o8, st8.tb⟩, upd_same, fD, owA, ?_, ?_, e3⟩
      · refine nd_of (s8.nodup m1) (List.nodup_cons.mpr ⟨fun z => ?_, nd_of nLa m2 fun b hb hb' => ap b (by simp [hb']) b (by simp [hb]) rfl⟩) fun b hb hb' => ?_
        · rcases List.mem_append.mp z with z | z
          · exact ndD z
          · exact neD Dd (by simp [z]) rfl
        · rcases List.mem_cons.mp hb' with z | z
          · exact neD b (by simp [s8.subset hb]) z
          · rcases List.mem_append.mp z with z | z
            · exact ap b (by simp [s8.subset hb]) b (by simp [z]) rfl
            · exact m3 b (s8.subset hb) z
      · have y1 := x2.trans (xx.frame (Dd :: La))
        have y2 : Ext F7 H6 ((L7 ++ Lr7) ++ (Dd :: La)) F7 (upd H6 Dd (.lst (acc ++ [y]))) (L8 ++ (Dd :: (La ++ Lr7))) := by
          refine Ext.of (fun b u eb nb => ?_) (tbl_upd ntD) (fun b eb => ?_) (Same.refl F7) (fun b eb => .inl eb) (fun b hb => .inl ?_)
          · rw [upd_ne (fun z => nb (by simp [z]))]
            exact eb
          · by_cases z : b = Dd
            · subst z; rw [upd_same]; simp
            · rw [upd_ne z]; exact eb
          · simp only [List.mem_append, List.mem_cons] at hb ⊢
            rcases hb with z | z | z | z
            · simp [s8.subset z]
            · simp [z]
            · simp [z]
            · simp [z]
        exact y1.trans y2
  · have e0 : i = ds.length := by omega
    subst e0
    rw [List.drop_length] at e3
    simp only [compD, Option.some.injEq, Prod.mk.injEq] at e3
    obtain ⟨rfl, rfl⟩ := e3
    refine .inl ⟨it2.1 (Nat.le_refl _), k (.ref Dd) F2 H2 L2 (Dd :: La) st2 ?_ nd2 (x1.trans x2)⟩
    simp only [RR, Own]
    exact ⟨Dd, acc, La, rfl, hd2, hf2, rfl, ow2⟩
end
end Pu
namespace Pu
variable [TabN]
open PySem PySem.Spec PyProof.Rows L2
theorem pe_impL {X : Cx} {e : Expr} {t t' : TE} (h : PE X e t) (i : ∀ σ H Q, σ.length = X.N.length → t' σ H Q → t σ H Q) : PE X e t' := ⟨fun pins s σ H Q I q => h.run pins s σ H Q I (i σ H Q I.len q)⟩
abbrev STs (X : Cx) (ifs : List Expr) (t : FT) : Prop := PTs X ifs (tT X.K X.mg t)
theorem pts_imp {X : Cx} {ifs : List Expr} {t t' : TT} (h : PTs X ifs t) (i : ∀ σ H Q, t' σ H Q → t σ H Q) : PTs X ifs t' := ⟨fun pins s σ H Q I q => h.run pins s σ H Q I (i σ H Q q)⟩
theorem sts_nil {X : Cx} : STs X [] tYesE := pts_imp pts_nil fun σ H Q q => by
  obtain ⟨F, en, L, en', b, st, e, k⟩ := q
  simp only [tYesE, Option.some.injEq, Prod.mk.injEq] at e
  obtain ⟨rfl, rfl⟩ := e
  exact k F H L st Ext.refl
theorem sts_one {X : Cx} {c : Expr} {t : FT} (h : ST X c t) : STs X [c] t := pts_one h
section
variable {X : Cx} {elt tg iter : Expr} {ifs : List Expr} {scope : Scope} {own : List (Str × Nat)} {pos : Pos} {fi : FI} {g : FG} {t : FT} {f : FE}
theorem se_comp (hc : X.calm = true) (hN : X.N.Nodup) (hi : SI X tg iter fi) (ok : BlkOk X.N X.env.scope scope own)
    (hg : ∀ (s : Shared) (H : Hp) (C : Addr) (cl : List (Str × Addr)) (fp : List Addr), SG (X.blk s H scope (compEnvC scope cl C X.env) fp) (others X.N.length (own.map (·.2))) tg g)
    (ht : ∀ (s : Shared) (H : Hp) (C : Addr) (cl : List (Str × Addr)) (fp : List Addr), STs (X.blk s H scope (compEnvC scope cl C X.env) fp) ifs t)
    (he : ∀ (s : Shared) (H : Hp) (C : Addr) (cl : List (Str × Addr)) (fp : List Addr), SE (X.blk s H scope (compEnvC scope cl C X.env) fp) elt f) (hs : ∀ x, foldedSetIterable iter X.env x = pure x := by intro _; rfl) :
    SE X (.ListComp elt [⟨tg, iter, ifs, 0⟩] scope pos) (fComp (own.map (·.2)) fi g t f) :=
  pe_impL (pe_lc hc hN hi ok hg ht he hs) fun σ H Q hl q => comp_ok hl q
end
def outs (fix : List Nat) : Nat → Nat → En → List W
  | _, 0, _ => []
  | j, n + 1, [] => .sh .any :: outs fix (j + 1) n []
  | j, n + 1, w :: en => (if j ∈ fix then w else .sh .any) :: outs fix (j + 1) n en
def fnP (n np : Nat) (fix : List Nat) (body : FS) : PF := fun ws => if ws.length = np then (match body (ws ++ List.replicate (n - np) (.sh .any)) with
  | some (en', .ret w) => some (w, outs fix 0 np en')
  | some (en', .nx) => some (.sh .non, outs fix 0 np en')
  | _ => none) else none
section
variable {K : PySem.W.Frag} {mg : Str → Option Value} {F H : Hp}
theorem owns_start : ∀ {ws : List W} {vs : List V} {L : List Addr}, Owns K mg F H ws vs L → OwnsO K mg F H ws (vs.map some) L
  | [], [], _, h => by simpa only [Owns, List.map_nil, OwnsO] using h
  | w :: ws, v :: vs, L, h => by
    simp only [Owns] at h
    obtain ⟨A, B, rfl, h1, h2⟩ := h
    simp only [List.map_cons, OwnsO]
    exact ⟨A, B, rfl, h1, owns_start h2⟩
  | [], _ :: _, _, h => by simp only [Owns] at h
  | _ :: _, [], _, h => by simp only [Owns] at h
theorem outs_ok {fix : List Nat} : ∀ {vs : List V} {j : Nat} {en : En} {σ : L2.St} {L : List Addr}, OwnsO K mg F H en σ L → (∀ i (v : V), j + i ∈ fix → vs[i]? = some v → σ[i]? = some (some v)) → ∃ L', Owns K mg F H (outs fix j vs.length en) vs L' ∧ L'.Sublist L
  | [], j, en, σ, L, h, hf => ⟨[], by simp only [List.length_nil, outs, Owns], List.nil_sublist L⟩
  | v :: vs, j, [], σ, L, h, hf => by
    obtain ⟨L', h1, s1⟩ := outs_ok (vs := vs) (j := j + 1) h fun i u hi hu => by
      have := hf (i + 1) u (by rw [show j + (i + 1) = j + 1 + i by omega]; exact hi) (by simpa using hu)
      cases σ with
      | nil => simp at this
      | cons _ _ => simp only [OwnsO] at h
    refine ⟨L', ?_, s1⟩
    simp only [List.length_cons, outs, Owns]
    exact ⟨[], L', rfl, own_sh (by simp only [Rep]), h1⟩
  | v :: vs, j, w :: en, some u :: σ, L, h, hf => by
    simp only [OwnsO] at h
    obtain ⟨A, B, rfl, h1, h2⟩ := h
    obtain ⟨L', h3, s3⟩ := outs_ok (vs := vs) (j := j + 1) h2 fun i x hi hx => by
      have := hf (i + 1) x (by rw [show j + (i + 1) = j + 1 + i by omega]; exact hi) (by simpa using hx)
      simpa using this
    simp only [List.length_cons, outs, Owns]
    by_cases hj : j ∈ fix
    · have := hf 0 v (by simpa using hj) rfl
      simp only [List.getElem?_cons_zero, Option.some.injEq] at this
      subst this
      rw [if_pos hj]
      exact ⟨A ++ L', ⟨A, L', rfl, h1, h3⟩, (List.Sublist.refl A).append s3⟩
    · rw [if_neg hj]
      exact ⟨L', ⟨[], L', rfl, own_sh (by simp only [Rep]), h3⟩, s3.trans (List.sublist_append_right A B)⟩
  | v :: vs, j, w :: en, none :: σ, L, h, hf => by
    simp only [OwnsO] at h
    obtain ⟨L', h3, s3⟩ := outs_ok (vs := vs) (j := j + 1) h.2 fun i x hi hx => by
      have := hf (i + 1) x (by rw [show j + (i + 1) = j + 1 + i by omega]; exact hi) (by simpa using hx)
      simpa using this
    simp only [List.length_cons, outs, Owns]
    have hj : j ∉ fix := fun hj => by
      have := hf 0 v (by simpa using hj) rfl
      simp at this
    rw [if_neg hj]
    exact ⟨L', ⟨[], L', rfl, own_sh (by simp only [Rep]), h3⟩, s3⟩
  | _ :: _, _, _ :: _, [], _, h, _ => by simp only [OwnsO] at h
end
/-- without the tables -/
def noT (H : Hp) : Hp := fun a => match H a with
  | some (.tbl _) => none
  | o => o
theorem noT_of {H : Hp} {a : Addr} {o : HO} (h : H a = some o) (n : ∀ ps, o ≠ .tbl ps) : noT H a = some o := by
  unfold noT
  rw [h]
  cases o <;> first | rfl | exact absurd rfl (n _)
theorem noT_none {H : Hp} {a : Addr} (h : H a = none) : noT H a = none := by unfold noT; rw [h]
theorem noT_le {H : Hp} : Same (noT H) H := fun b u e => by
  unfold noT at e
  split at e
  · cases e
  · exact e
theorem noT_no {H : Hp} : ∀ b ps, noT H b ≠ some (.tbl ps) := fun b ps e => by
  unfold noT at e
  split at e
  · cases e
  · rename_i q
    exact q ps e
theorem noT_sub {F H : Hp} (s : Same F H) (n : ∀ b ps, F b ≠ some (.tbl ps)) : Same F (noT H) := fun b u e => noT_of (s _ _ e) fun ps z => n b ps (by rw [e, z])
theorem TbOk.noT [TabN] {F H : Hp} (t : TbOk F H) (s : Same F H) : TbOk (Pu.noT H) H := ⟨t.ok.step (noT_sub s t.no) fun _ _ e => e, noT_no⟩
def NS (F F' : Hp) : Prop := ∀ b o, F b = some o → (∀ ps, o ≠ .tbl ps) → F' b = some o
theorem noT_ns {H : Hp} : NS H (noT H) := fun _ _ e n => noT_of e n
section
variable {K : PySem.W.Frag} {mg : Str → Option Value}
theorem NS.seqT {F F' : Hp} (e : NS F F') {a : Addr} {xs : List V} (h : SqT K F a xs) : SqT K F' a xs := by
  rcases h with (h | ⟨o, h⟩) | h
  · exact .inl (.inl (e _ _ h (by intro ps z; cases z)))
  · exact .inl (.inr ⟨o, e _ _ h (by intro ps z; cases z)⟩)
  · exact .inr h
theorem NS.slt {F F' : Hp} (e : NS F F') {a C dx : Addr} {os : List (Option V)} (h : SlX.Slt F a C dx os) : SlX.Slt F' a C dx os := by
  rcases h with ⟨h1, h2⟩ | ⟨h1, h2⟩
  · exact .inl ⟨e _ _ h1 (by intro ps z; cases z), h2⟩
  · exact .inr ⟨e _ _ h1 (by intro ps z; unfold SlX.SlO at z; cases z), e _ _ h2 (by intro ps z; cases z)⟩
mutual
theorem Rep.ns {F F' : Hp} (e : NS F F') : ∀ {d : D} {v : V}, Rep K mg F d v → Rep K mg F' d v
  | .any, _, h => by simp only [Rep]
  | .non, _, h => by simpa only [Rep] using h
  | .bl _, _, h => by simpa only [Rep] using h
  | .int _, _, h => by simpa only [Rep] using h
  | .str _, _, h => by simpa only [Rep] using h
  | .tup ds, v, h => by
    simp only [Rep] at h ⊢
    obtain ⟨a, vs, h1, h2, h3⟩ := h
    exact ⟨a, vs, h1, ⟨e.seqT h2.1, h2.2.imp (fun z => e _ _ z (by intro ps z; cases z)) id⟩, Reps.ns e h3⟩
  | .lst ds, v, h => by
    simp only [Rep] at h ⊢
    obtain ⟨a, vs, h1, h2, h3⟩ := h
    exact ⟨a, vs, h1, e _ _ h2 (by intro ps z; cases z), Reps.ns e h3⟩
  | .frl ds, v, h => by
    simp only [Rep] at h ⊢
    obtain ⟨a, vs, h1, h2, h3⟩ := h
    refine ⟨a, vs, h1, ?_, Reps.ns e h3⟩
    rcases h2 with (z | ⟨o, z⟩) | z
    · exact .inl (.inl (e _ _ z (by intro ps z; cases z)))
    · exact .inl (.inr ⟨o, e _ _ z (by intro ps z; cases z)⟩)
    · exact .inr z
  | .dT ks ds, v, h => by
    simp only [Rep] at h ⊢
    obtain ⟨a, vs, h1, h2, h3, h4⟩ := h
    exact ⟨a, vs, h1, e _ _ h2 (by intro ps z; cases z), h3, Reps.ns e h4⟩
  | .dK ks ds, v, h => by
    simp only [Rep] at h ⊢
    obtain ⟨a, vs, h1, h2, h3, h4⟩ := h
    exact ⟨a, vs, h1, e _ _ h2 (by intro ps z; cases z), h3, Reps.ns e h4⟩
  | .lT ks ds, v, h => by
    simp only [Rep] at h ⊢
    obtain ⟨a, od, vs, h1, h2, h3, h4⟩ := h
    exact ⟨a, od, vs, h1, e _ _ h2 (by intro ps z; cases z), h3, Reps.ns e h4⟩
  | .ins c ds, v, h => by
    simp only [Rep] at h ⊢
    obtain ⟨a, C, dx, os, h1, h2, h3, h4⟩ := h
    exact ⟨a, C, dx, os, h1, h2, e.slt h3, RepsO.ns e h4⟩
theorem Reps.ns {F F' : Hp} (e : NS F F') : ∀ {ds : List D} {vs : List V}, Reps K mg F ds vs → Reps K mg F' ds vs
  | [], [], _ => by simp only [Reps]
  | d :: ds, v :: vs, h => by
    simp only [Reps] at h ⊢
    exact ⟨Rep.ns e h.1, Reps.ns e h.2⟩
  | [], _ :: _, h => by simp only [Reps] at h
  | _ :: _, [], h => by simp only [Reps] at h
theorem RepsO.ns {F F' : Hp} (e : NS F F') : ∀ {ds : List D} {vs : List (Option V)}, RepsO K mg F ds vs → RepsO K mg F' ds vs
  | [], [], _ => by simp only [RepsO]
  | d :: ds, some v :: vs, h => by
    simp only [RepsO] at h ⊢
    exact ⟨Rep.ns e h.1, RepsO.ns e h.2⟩
  | d :: ds, none :: vs, h => by
    simp only [RepsO] at h ⊢
    exact ⟨h.1, RepsO.ns e h.2⟩
  | [], _ :: _, h => by simp only [RepsO] at h
  | _ :: _, [], h => by simp only [RepsO] at h
end
end
section
variable {P : Program} {w : World} {K : PySem.W.Frag} {mg : Str → Option Value} {base : Heap}
theorem fn_len {g : PF} {n : Nat} (hg : ∀ ws r, g ws = some r → ws.length = n) : ∀ vs H Q E, spP K mg g vs H Q E → vs.length = n := fun vs H Q E h => by
  obtain ⟨F, ws, L, _, _, ow, w, ws', e, _⟩ := h
  rw [← ow.len]
  exact hg ws _ e
theorem body_ok {N ps : List Str} {fix : List Nat} {body : FS} {vs : List V} {H : Hp} {Q : VK} {E : XK} (h : spP K mg (fnP N.length ps.length fix body) vs H Q E) (hfx : ∀ i ∈ fix, i < ps.length) : tX K mg fix body { nx := fun _ H' => Q .non H', rt := Q } (start N vs) H := by
  obtain ⟨F, ws, L, sub, nd, ow, w, ws', e, tb, k⟩ := h
  unfold fnP at e
  split at e
  case isFalse => cases e
  rename_i hl
  have hvl : vs.length = ps.length := by rw [← ow.len]; exact hl
  have st : StOk K mg F H (start N vs) (ws ++ List.replicate (N.length - ps.length) (.sh .any)) L := by
    refine ⟨sub, nd, ?_, tb⟩
    unfold L2.start
    rw [hvl]
    exact ownsO_pad _ (owns_start ow)
  have fixv : ∀ {σ' : L2.St}, Fixed fix (start N vs) σ' → ∀ i (v : V), 0 + i ∈ fix → vs[i]? = some v → σ'[i]? = some (some v) := fun {σ'} hf i v hi hv => by
    rw [Nat.zero_add] at hi
    rw [hf i hi]
    unfold L2.start
    rw [List.getElem?_append_left (by rw [List.length_map]; exact (List.getElem?_eq_some_iff.mp hv).1), List.getElem?_map, hv]
    rfl
  split at e
  · rename_i en' w' e1
    cases e
    refine ⟨F, _, L, en', .ret w, st, e1, fun v σ' F' H' L' Lr st' f' o' nd' x' => ?_⟩
    obtain ⟨Lo, oo, so⟩ := outs_ok (vs := vs) (j := 0) st'.own (fixv f')
    rw [hvl] at oo
    obtain ⟨n1, n2, n3⟩ := nd_app nd'
    refine k v F' H' (Lr ++ Lo) st'.sub (nd_of n2 (so.nodup n1) fun b hb hb' => n3 b (so.subset hb') hb) st'.tb (by simp only [Owns]; exact ⟨Lr, Lo, rfl, o', oo⟩) (x'.mem (fun _ h => h) fun a h => ?_)
    rcases List.mem_append.mp h with z | z
    · simp [z]
    · simp [so.subset z]
  · rename_i en' e1
    cases e
    refine ⟨F, _, L, en', .nx, st, e1, fun σ' F' H' L' st' f' x' => ?_⟩
    obtain ⟨Lo, oo, so⟩ := outs_ok (vs := vs) (j := 0) st'.own (fixv f')
    rw [hvl] at oo
    refine k .non F' H' ([] ++ Lo) st'.sub (by simpa using so.nodup st'.nd) st'.tb (by simp only [Owns]; exact ⟨[], Lo, rfl, own_sh (rep_v rfl), oo⟩) (x'.mem (fun _ h => h) fun a h => so.subset (by simpa using h))
  · cases e
/-- a def keeps the promise that its body's meaning is -/
theorem fn_ok {x qual : Str} {st : Stmt} {f : Addr} {fd : FuncData} {N ps : List Str} {k : Nat} {fix : List Nat} {body : FS} (F : Fun K x qual st f fd) (S : FnScope N ps (defScope st)) (hfx : ∀ i ∈ fix, i < ps.length)
    (hb : ∀ (cdv : Value) (A : Around) (outer : List Env) (s : Shared) (H : Hp) (E : XK), Room k (A.deeper (envOfC qual (defScope st) s.heap.objs.size f cdv)) →
      SSs (cxOf CX0 P w K mg base N qual (defScope st) f cdv A outer s H E).nox fix (defBody st) body) : FnOk P w K mg base CX0 (k + 1) f fd ps (spP K mg (fnP N.length ps.length fix body)) := by
  refine F.ok S (fn_len fun ws r e => ?_) fun cdv A outer s H vs Q E hr h => ⟨_, hb cdv A outer s H E hr, body_ok h hfx⟩
  unfold fnP at e
  split at e
  · rename_i hl; exact hl
  · cases e
/-- nothing is promised -/
theorem fn_none {f : Addr} {fd : FuncData} {ps : List Str} : FnOk P w K mg base CX0 0 f fd ps (spP K mg fun _ => none) := by
  have no : ∀ vs H Q E, ¬ spP K mg (fun _ => none) vs H Q E := fun vs H Q E h => by
    obtain ⟨F, ws, L, a, b, c, w, ws', e, k⟩ := h
    cases e
  exact ⟨fun vs H Q E h => absurd h (no vs H Q E), fun A outer s H args us vs Q E _ _ _ _ h => absurd h (no vs H Q E)⟩
/-- what the law promises -/
def spLaw (K : PySem.W.Frag) : Sp := fun vs H Q _ => ∃ (a : Addr) (ns : List Int), vs = [.ref a] ∧ SqL K H a (ns.map V.int) ∧ ns.length ≤ 63 ∧ TabG (noT H) H ∧ ∀ H', Q (.bl true) H'
theorem law_ok {f : Addr} {fd : FuncData} {ps : List Str} {k : Nat} {g : PF} (G : FnOk P w K mg base CX0 k f fd ps (spP K mg g)) (h : ∀ ns : List Int, ns.length ≤ 63 → ∃ ws', g [.sh (.frl (ns.map D.int))] = some (.sh (.bl true), ws')) : FnOk P w K mg base CX0 k f fd ps (spLaw K) :=
  G.imp fun vs H Q E q => by
    obtain ⟨a, ns, rfl, hS, hl, tg, q⟩ := q
    obtain ⟨ws', e⟩ := h ns hl
    have hS' : SqL K (noT H) a (ns.map V.int) := by
      rcases hS with (z | ⟨o, z⟩) | z
      · exact .inl (.inl (noT_of z (by intro ps z; cases z)))
      · exact .inl (.inr ⟨o, noT_of z (by intro ps z; cases z)⟩)
      · exact .inr z
    have reps : ∀ ns : List Int, Reps K mg (noT H) (ns.map D.int) (ns.map V.int) := by
      intro ns
      induction ns with
      | nil => simp only [List.map_nil, Reps]
      | cons n ns ih =>
        simp only [List.map_cons, Reps]
        exact ⟨rep_v rfl, ih⟩
    refine ⟨noT H, _, [], noT_le, by simp, ?_, _, ws', e, ⟨tg, noT_no⟩, fun v F' H' L' _ _ _ ow _ => ?_⟩
    · simp only [Owns]
      exact ⟨[], [], rfl, own_sh (by simp only [Rep]; exact ⟨a, _, rfl, hS', reps ns⟩), rfl⟩
    · simp only [Owns] at ow
      obtain ⟨A, B, _, o, _⟩ := ow
      simp only [Own] at o
      rw [rep_bl o.1]
      exact q H'
end
end Pu
namespace Pu
variable [TabN]
open PySem PySem.Spec PyProof.Rows L2
section
variable {prog : Program} {w : World} {A : Around} {E : Value → Shared → Prop} {s : Shared}
end
/-- x += y: ints, tuples -/
def gAddI : En → List R → Option (En × R) := gOr (gS oAddI) gCatT
section
variable {X : Cx} {fix : List Nat} {i : Nat} {x : Str} {e : Expr} {f : FE} {pos pos' : Pos}
end
section
variable {X : Cx} {e : Expr} {es : List Expr} {fs : List FE} {p pos : Pos} {x : Str} {r : List V → Hp → VK → Prop} {g : En → List R → Option (En × R)}
end
def oMax2 : List D → Option D := oII tt2 fun i j => .int (if j > i then j else i)
def oMin2 : List D → Option D := oII tt2 fun i j => .int (if j < i then j else i)
section
variable {X : Cx} {a b : Expr} {fa fb : FE} {p pos : Pos}
end
end Pu
namespace Pu
variable [TabN]
open PySem PySem.Spec PyProof.Rows L2
def insS {α : Type} (le : α → α → Bool) (x : α) : List α → List α
  | [] => [x]
  | y :: r => if le x y then x :: y :: r else y :: insS le x r
def srt {α : Type} (le : α → α → Bool) : List α → List α
  | [] => []
  | x :: r => insS le x (srt le r)
theorem insS_perm {α : Type} (le : α → α → Bool) (x : α) : ∀ r : List α, (insS le x r).Perm (x :: r)
  | [] => List.Perm.refl _
  | y :: r => by
    unfold insS
    split
    · exact List.Perm.refl _
    · exact ((insS_perm le x r).cons y).trans (List.Perm.swap x y r)
theorem srt_perm {α : Type} (le : α → α → Bool) : ∀ r : List α, (srt le r).Perm r
  | [] => List.Perm.refl _
  | x :: r => (insS_perm le x _).trans ((srt_perm le r).cons x)
theorem insS_pw {α : Type} {le : α → α → Bool} (tot : ∀ a b, le a b = false → le b a = true) (tr : ∀ a b c, le a b = true → le b c = true → le a c = true) (x : α) : ∀ {r : List α}, r.Pairwise (fun a b => le a b = true) → (insS le x r).Pairwise (fun a b => le a b = true)
  | [], _ => by simp [insS]
  | y :: r, h => by
    have h1 := List.pairwise_cons.mp h
    unfold insS
    split
    · rename_i hxy
      refine List.pairwise_cons.mpr ⟨fun b hb => ?_, h⟩
      rcases List.mem_cons.mp hb with rfl | hb
      · exact hxy
      · exact tr _ _ _ hxy (h1.1 b hb)
    · rename_i hxy
      refine List.pairwise_cons.mpr ⟨fun b hb => ?_, insS_pw tot tr x h1.2⟩
      rcases List.mem_cons.mp ((insS_perm le x r).mem_iff.mp hb) with rfl | hb
      · exact tot _ _ (by simpa using hxy)
      · exact h1.1 b hb
theorem srt_pw {α : Type} {le : α → α → Bool} (tot : ∀ a b, le a b = false → le b a = true) (tr : ∀ a b c, le a b = true → le b c = true → le a c = true) : ∀ r : List α, (srt le r).Pairwise (fun a b => le a b = true)
  | [] => by simp [srt]
  | x :: r => insS_pw tot tr x (srt_pw tot tr r)
theorem srt_uni {α : Type} {le : α → α → Bool} (tot : ∀ a b, le a b = false → le b a = true) (tr : ∀ a b c, le a b = true → le b c = true → le a c = true) (an : ∀ a b, le a b = true → le b a = true → a = b) {l r : List α} (hp : l.Perm r) (hs : l.Pairwise (fun a b => le a b = true)) : l = srt le r :=
  List.Perm.eq_of_pairwise (le := fun a b => le a b = true) (fun a b _ _ => an a b) hs (srt_pw tot tr r) (hp.trans (srt_perm le r).symm)
def leS (x y : Str) : Bool := !ltCps y.cps.toList x.cps.toList
def leI (i j : Int) : Bool := decide (i ≤ j)
/-- sorted(xs) -/
def oSort (ds : List D) : Option (List D) := if ds.length < 64 then (match D.strs ds with
  | some xs => some ((srt leS xs).map .str)
  | none => match D.ints ds with
    | some is => some ((srt leI is).map .int)
    | none => none) else none
def gSort : En → R → Option (En × R) := fun en r => match r.els en with
  | some (en', k, ds) => if k = .t then none else match oSort ds with
    | some es => some (en', .val (.lst (es.map W.sh)))
    | none => none
  | none => none
section
variable {K : PySem.W.Frag} {mg : Str → Option Value}
end
def pick {α : Type} (is : List Nat) (xs : List α) : List α := is.filterMap fun i => xs[i]?
section
variable {K : PySem.W.Frag} {mg : Str → Option Value}
end
end Pu
namespace Pu
variable [TabN]
open PySem PySem.Spec PyProof.Rows L2
section
variable {K : PySem.W.Frag} {mg : Str → Option Value}
end
section
variable {X : Cx}
variable {k n m : Nat} {f : Addr} {fd : FuncData} {ps ks : List Str} {x : Str} {p pos : Pos} {e : Expr} {es : List Expr} {kws : List Keyword} {fs gs : List FE} {g : PF} {is : List Nat} {E : XK}
end
section
variable {X : Cx} {elt tg iter : Expr} {ifs : List Expr} {scope : Scope} {own : List (Str × Nat)} {pos : Pos} {fi : FI} {g : FG} {t : FT} {f : FE} {n : Nat}
theorem se_compn (hn : X.N.length = n) (hc : X.calm = true) (hN : X.N.Nodup) (hi : SI X tg iter fi) (ok : BlkOk X.N X.env.scope scope own)
    (hg : ∀ (s : Shared) (H : Hp) (C : Addr) (cl : List (Str × Addr)) (fp : List Addr), SG (X.blk s H scope (compEnvC scope cl C X.env) fp) (others n (own.map (·.2))) tg g)
    (ht : ∀ (s : Shared) (H : Hp) (C : Addr) (cl : List (Str × Addr)) (fp : List Addr), STs (X.blk s H scope (compEnvC scope cl C X.env) fp) ifs t)
    (he : ∀ (s : Shared) (H : Hp) (C : Addr) (cl : List (Str × Addr)) (fp : List Addr), SE (X.blk s H scope (compEnvC scope cl C X.env) fp) elt f) (hs : ∀ x, foldedSetIterable iter X.env x = pure x := by intro _; rfl) :
    SE X (.ListComp elt [⟨tg, iter, ifs, 0⟩] scope pos) (fComp (own.map (·.2)) fi g t f) := by
  subst hn
  exact se_comp hc hN hi ok hg ht he hs
end
end Pu
namespace Pu
variable [TabN]
open PySem PySem.Spec PyProof.Rows L2
section
variable {X : Cx} {e : Expr} {f : FE} {p pos : Pos}
theorem b_len : bootBuiltins "len" = some (.builtin "len") := by decide +kernel
def fLen (f : FE) : FE := fU (gS1 oLen) f
theorem c_len (hm : X.mg "len" = none) (he : SE X e f) (hg : Gl X "len" := by rfl) (hs : starEach [e] X.env = [(false, eval e X.env)] := by rfl) : SE X (.Call (.Name "len" p) [e] [] pos) (fLen f) := se_callB (call_or call_len call_lenD) (PkU.ok pk_len) hg hm b_len he (by decide) (by decide) hs
theorem b_abs : bootBuiltins "abs" = some (.builtin "abs") := by decide +kernel
def fAbs (f : FE) : FE := fU (gS1 oAbs) f
theorem c_abs (hm : X.mg "abs" = none) (he : SE X e f) (hg : Gl X "abs" := by rfl) (hs : starEach [e] X.env = [(false, eval e X.env)] := by rfl) : SE X (.Call (.Name "abs" p) [e] [] pos) (fAbs f) := se_callB (call_abs) (PkU.ok pk_abs) hg hm b_abs he (by decide) (by decide) hs
theorem b_int : bootBuiltins "int" = some (.type "int") := by decide +kernel
def fInt (f : FE) : FE := fU (gS1 oInt) f
theorem c_int (hm : X.mg "int" = none) (he : SE X e f) (hg : Gl X "int" := by rfl) (hs : starEach [e] X.env = [(false, eval e X.env)] := by rfl) : SE X (.Call (.Name "int" p) [e] [] pos) (fInt f) := se_callTy (call_int1) (PkU.ok pk_int) hg hm b_int he (by decide) (by decide) hs
theorem b_all : bootBuiltins "all" = some (.builtin "all") := by decide +kernel
def fAll (f : FE) : FE := fU (gS1 oAll) f
theorem c_all (hc : X.calm = true) (hm : X.mg "all" = none) (he : SE X e f) (hg : Gl X "all" := by rfl) (hs : starEach [e] X.env = [(false, eval e X.env)] := by rfl) : SE X (.Call (.Name "all" p) [e] [] pos) (fAll f) := se_callB (cr_all hc) (PkU.ok pk_all) hg hm b_all he (by decide) (by decide) hs
def fAny (f : FE) : FE := fU (gS1 oAny) f
def fSum (f : FE) : FE := fU (gS1 oSum) f
theorem b_list : bootBuiltins "list" = some (.type "list") := by decide +kernel
def fList (f : FE) : FE := fU (gList) f
theorem c_list (hm : X.mg "list" = none) (he : SE X e f) (hg : Gl X "list" := by rfl) (hs : starEach [e] X.env = [(false, eval e X.env)] := by rfl) : SE X (.Call (.Name "list" p) [e] [] pos) (fList f) := se_callTy (call_list_of) (u_list) hg hm b_list he (by decide) (by decide) hs
theorem b_tuple : bootBuiltins "tuple" = some (.type "tuple") := by decide +kernel
def fTuple (f : FE) : FE := fU (gTuple) f
theorem c_tuple (hm : X.mg "tuple" = none) (he : SE X e f) (hg : Gl X "tuple" := by rfl) (hs : starEach [e] X.env = [(false, eval e X.env)] := by rfl) : SE X (.Call (.Name "tuple" p) [e] [] pos) (fTuple f) := se_callTy (call_tuple_of) (u_tuple) hg hm b_tuple he (by decide) (by decide) hs
theorem b_sorted : bootBuiltins "sorted" = some (.builtin "sorted") := by decide +kernel
def fSorted (f : FE) : FE := fU (gSort) f
end
theorem b_str : bootBuiltins "str" = some (.type "str") := by decide +kernel
/-- what stands in a law about a statement of the top -/
def cs : Expr → Scope
  | .ListComp _ _ s _ => s
  | _ => { kind := .function, names := [], isGenerator := false, isCoroutine := false }
end Pu
namespace Pu
variable [TabN]
open PySem PySem.Spec PyProof.Rows L2
section
variable {prog : Program} {w : World} {A : Around} {E : Value → Shared → Prop} {s : Shared}
theorem collect_tupleD {l : Addr} {vs : List Value} {Q : List Value → Shared → Prop} (hl : IsTup s.heap l vs.toArray)
    (h : Q vs { s with heap := (s.heap.push (seqObj "list" #[] 0)).update s.heap.objs.size (Obj.mapSeq (· ++ vs.toArray)) }) (hsz : vs.length ≤ sizeLine) :
    wpAny (model prog w) A (collect (.ref l)) Q E s := by
  obtain ⟨o, ho, hc, n, hd⟩ := id hl
  unfold collect
  refine wpAny_bind (wpAny_runValue (codeAny_builtin entry_proto_collect' ?_))
  show wpAny _ _ (do again (.builtin "list.__iadd__" ⟨[← newList [], .ref l], []⟩)) _ _ s
  refine wpAny_bind (wpAny_newList (wpAny_pure ⟨Code.quiet_builtin _ (by decide +kernel), codeAny_builtin entry_list_iadd' ?_⟩))
  show wpAny _ _ (Builtin.List.listExtendWith (.ref s.heap.objs.size) (.ref l) (.ref s.heap.objs.size)) _ _ { s with heap := s.heap.push (seqObj "list" #[] 0) }
  unfold Builtin.List.listExtendWith
  have ho' : (s.heap.push (seqObj "list" #[] 0)).get? l = some o := Heap.get?_push_of_some _ ho
  refine wpAny_bind (wpAny_typeOf (T := "tuple") ⟨o, ho', hc⟩ ?_)
  have ht : (Value.type "tuple" == Value.type "tuple") = true := by rfl
  rw [if_pos (by rw [ht]; simp)]
  refine wpAny_bind (listItems_at ho' hd ?_)
  refine wpAny_bind (listItems_at (xs := #[]) (n := 0) (Heap.get?_push_size _ rfl) rfl ?_)
  rw [if_neg (by simp)]
  refine wpAny_bind (listUpdate_at (xs := #[]) (n := 0) (Heap.get?_push_size _ rfl) rfl ?_ (Nat.zero_le _) (by show (#[] ++ vs.toArray).size ≤ sizeLine + 1; simp only [Array.size_append, List.size_toArray, List.length_nil]; omega))
  refine wpAny_pure ?_
  show wpAny (model prog w) A (do
      let o ← load s.heap.objs.size
      match o.data with
      | .seq xs _ => pure xs.toList
      | _ => unsupported "internal:collect") Q E { s with heap := (s.heap.push (seqObj "list" #[] 0)).update s.heap.objs.size (Obj.mapSeq (· ++ vs.toArray)) }
  refine wpAny_bind (wpAny_load (get?_update_seq (Heap.get?_push_size _ rfl) _) ?_)
  show wpAny _ _ (pure ((#[] : Array Value) ++ vs.toArray).toList) Q E _
  rw [show ((#[] : Array Value) ++ vs.toArray).toList = vs by simp]
  exact wpAny_pure h
theorem sorted_fromD {β : Type} {r : Addr} {vs : List Value} {bs : List β} {enc : β → PyData} {R : Value → β → Prop} {Q : Value → Shared → Prop}
    (hcol : ∀ (C : List Value → Shared → Prop) (E' : Value → Shared → Prop), (∀ h' tk, (∀ b o, s.heap.get? b = some o → h'.get? b = some o) → C vs { s with heap := h', toks := tk }) → wpAny (model prog w) A.in1 (collect (.ref r)) C E' s)
    (e : PySem.W.EachIs R vs bs) (er : PySem.W.EachIs (fun v b => ∃ as, Reads s.heap v (enc b) as) vs bs) (hal : PySem.W.AllAlike (bs.map enc)) (hk : PySem.W.Sortable (bs.map enc)) (hL : bs.length ≤ sizeLine)
    (hu : ∀ b, b ∈ bs → A.units + 2 + (enc b).depth < cLine)
    (h : ∀ (h1 h' : Heap) (tk : Nat) (d : Addr) (out : List Value), (∀ b o, s.heap.get? b = some o → h1.get? b = some o) → (∀ b o, h1.get? b = some o → h'.get? b = some o) → h1.objs.size ≤ d → (∃ n, h'.get? d = some (seqObj "list" out.toArray n)) → out.length = bs.length → PySem.W.EachIs R out (bs.mergeSort (PySem.W.dataLe false enc)) → Q (.ref d) { s with heap := h', toks := tk }) :
    wpAny (model prog w) A (call (.builtin "sorted") [.ref r]) Q E s := by
  have hlen : vs.length = bs.length := e.length
  refine Calls.call_function_entry kind_sorted plain_sorted entry_sorted (args_sorted1 _) ?_
  unfold Builtin.«sorted»
  refine wpAny_bind (m := checkCount "sorted" 1 1 _) (wpAny_pure ?_)
  refine wpAny_bind (hcol _ _ fun h' tk keep => ?_)
  refine wpAny_bind (wpAny_newList ?_ (by rw [hlen]; exact hL))
  have hoL : (h'.push (seqObj "list" vs.toArray 0)).get? h'.objs.size = some (seqObj "list" vs.toArray 0) := Heap.get?_push_size _ rfl
  show wpAny _ _ _ _ _ { s with heap := h'.push (seqObj "list" vs.toArray 0), toks := tk }
  have hold : ∀ b o, s.heap.get? b = some o → b < h'.objs.size := fun b o q => Heap.lt_size (keep b o q)
  have k1 : ∀ b o, s.heap.get? b = some o → (PySem.W.sortingHeap (h'.push (seqObj "list" vs.toArray 0)) h'.objs.size vs).get? b = some o := fun b o q =>
    PySem.W.sortingHeap_old (Nat.ne_of_lt (hold b o q)) (Heap.get?_push_of_some _ (keep b o q))
  have er' : PySem.W.EachIs (fun v b => ∃ as, Reads (PySem.W.sortingHeap (h'.push (seqObj "list" vs.toArray 0)) h'.objs.size vs) v (enc b) as) vs bs := er.mono fun _ _ ⟨as, r⟩ => ⟨as, PyProof.Rows.Reads.keeps k1 r⟩
  refine wpAny_bind (wpAny_holding (wpAny_call_entry slot_list_sort ⟨_, hoL, rfl⟩ entry_list_sort
    (PySem.W.list_sort_vals (s := { s with heap := h'.push (seqObj "list" vs.toArray 0), toks := tk }) hoL
      (PySem.W.SortsAt.data (s := { s with heap := PySem.W.sortingHeap (h'.push (seqObj "list" vs.toArray 0)) h'.objs.size vs, toks := tk }) (PySem.W.each_map (R := fun v d => ∃ as, Reads (PySem.W.sortingHeap (h'.push (seqObj "list" vs.toArray 0)) h'.objs.size vs) v d as) enc er') hal hk (PySem.W.bound_map fun b hb => hu b hb))
      (by rw [hlen]; exact hL) ⟨_, rfl, ?_⟩)
    (args_list_sort _)))
  obtain ⟨e', he'⟩ := PyProof.Rows.sortedHeap_at (vs := vs) (out := (PySem.W.sortVals (PySem.W.dataKind (PySem.W.sortingHeap (h'.push (seqObj "list" vs.toArray 0)) h'.objs.size vs) (bs.map enc)) false vs vs).toArray) hoL
  refine wpAny_pure ⟨_, rfl, h h' _ tk h'.objs.size _ keep (fun b o q => ?_) (Nat.le_refl _) ⟨e', he'⟩ (by rw [PySem.W.sortVals_length false rfl]; exact hlen) (PySem.W.sortVals_data false e er' hal)⟩
  have hb : b < h'.objs.size := Heap.lt_size q
  rw [PyProof.Rows.sortedHeap_old (Nat.ne_of_lt hb) (by rw [size_push']; exact Nat.lt_succ_of_lt hb)]
  exact Heap.get?_push_of_some _ q
end
theorem each_vals : ∀ {xs : List V} {us : List Value} {ps : List PyData}, Vals xs us → xs.length = ps.length → PySem.W.EachIs (fun (v : Value) (b : V × PyData) => RelV b.1 v) us (xs.zip ps)
  | [], [], [], _, _ => .nil
  | x :: xs, u :: us, p :: ps, r, h => by
    cases r with
    | cons r1 r2 => exact .cons r1 (each_vals r2 (by simpa using h))
theorem vals_each : ∀ {us : List Value} {bs : List (V × PyData)}, PySem.W.EachIs (fun (v : Value) (b : V × PyData) => RelV b.1 v) us bs → Vals (bs.map (·.1)) us
  | _, _, .nil => .nil
  | _, _, .cons h t => .cons h (vals_each t)
section
variable {X : Cx} {pins : List (Addr × Obj)} {σ : L2.St} {H : Hp} {s : Shared}
theorem each_reads (I : Inv X pins σ H s) : ∀ {xs : List V} {us : List Value} {ps : List PyData}, Vals xs us → DpAll X.K H xs ps → PySem.W.EachIs (fun (v : Value) (b : V × PyData) => ∃ as, Reads s.heap v b.2 as) us (xs.zip ps)
  | [], [], [], _, _ => .nil
  | x :: xs, u :: us, p :: ps, r, h => by
    cases r with
    | cons r1 r2 =>
      cases h with
      | cons h1 h2 => exact .cons (Dp.reads I p x u h1 r1) (each_reads I r2 h2)
end
theorem dpAll_len {K : PySem.W.Frag} {H : Hp} : ∀ {xs : List V} {ps : List PyData}, DpAll K H xs ps → xs.length = ps.length
  | _, _, .nil => rfl
  | _, _, .cons _ t => by simp [dpAll_len t]
theorem zip_snd {α β : Type} : ∀ {xs : List α} {ys : List β}, xs.length = ys.length → (xs.zip ys).map Prod.snd = ys
  | [], [], _ => rfl
  | x :: xs, y :: ys, h => by simp [zip_snd (by simpa using h : xs.length = ys.length)]
  | [], _ :: _, h => by simp at h
  | _ :: _, [], h => by simp at h
def sortedV (xs : List V) (ps : List PyData) : List V := ((xs.zip ps).mergeSort (PySem.W.dataLe false Prod.snd)).map (·.1)
def rSortedL (K : PySem.W.Frag) : List V → Hp → VK → Prop := fun vs H Q => ∃ (a : Addr) (xs : List V) (ps : List PyData), vs = [V.ref a] ∧ (SqL K H a xs ∨ SqT K H a xs) ∧ DpAll K H xs ps ∧ PySem.W.AllAlike ps ∧ PySem.W.Sortable ps ∧ (∀ d ∈ ps, d.depth ≤ 60) ∧ xs.length ≤ sizeLine ∧
  ∀ p, H p = none → Q (.ref p) (upd H p (.lst (sortedV xs ps)))
def rSortedDT (K : PySem.W.Frag) : List V → Hp → VK → Prop := fun vs H Q => ∃ (a : Addr) (kvs : List (List L2.Key × V)) (ps : List PyData), vs = [V.ref a] ∧ Rd H a (.dT kvs) ∧ (∀ bs, IsKeys H kvs bs → DpAll K H (bs.map V.ref) ps) ∧ PySem.W.AllAlike ps ∧ PySem.W.Sortable ps ∧ (∀ d ∈ ps, d.depth ≤ 60) ∧ kvs.length ≤ sizeLine ∧
  ∀ p bs, H p = none → IsKeys H kvs bs → Q (.ref p) (upd H p (.lst (sortedV (bs.map V.ref) ps)))
section
variable {X : Cx} {pins : List (Addr × Obj)} {σ : L2.St} {H : Hp} {s : Shared}
theorem sorted_inv {E : Value → Shared → Prop} {r : Addr} {vs : List Value} {xs : List V} {ps : List PyData} {Q : VK} (I : Inv X pins σ H s) (hu : X.A.units + 64 < cLine)
    (hcol : ∀ (C : List Value → Shared → Prop) (E' : Value → Shared → Prop), (∀ h' tk, (∀ b o, s.heap.get? b = some o → h'.get? b = some o) → C vs { s with heap := h', toks := tk }) → wpAny (model X.prog X.w) X.A.in1 (collect (.ref r)) C E' s)
    (rv : Vals xs vs) (hd : DpAll X.K H xs ps) (hal : PySem.W.AllAlike ps) (hk : PySem.W.Sortable ps) (hdep : ∀ d ∈ ps, d.depth ≤ 60) (hz : xs.length ≤ sizeLine)
    (q : ∀ p, H p = none → Q (.ref p) (upd H p (.lst (sortedV xs ps)))) :
    wpAny (model X.prog X.w) X.A (call (.builtin "sorted") [.ref r]) (fun v s' => ∃ x H', Inv X pins σ H' s' ∧ RelV x v ∧ Q x H') E s := by
  have hl := dpAll_len hd
  have hzip : (xs.zip ps).length = xs.length := by rw [List.length_zip]; omega
  have es : (xs.zip ps).map Prod.snd = ps := zip_snd hl
  refine sorted_fromD (enc := Prod.snd) hcol (each_vals rv hl) (each_reads I rv hd) (by rw [es]; exact hal) (by rw [es]; exact hk) (by rw [hzip]; exact hz) (fun b hb => ?_) fun h1 h' tk d out k1 k2 hdl ho hlen hR => ?_
  · have : b.2 ∈ ps := by rw [← es]; exact List.mem_map_of_mem hb
    have := hdep _ this
    omega
  · have I1 : Inv X pins σ H { s with heap := h1 } := I.kept (t' := s.toks) k1
    obtain ⟨n, hn⟩ := ho
    have rv2 : Vals (sortedV xs ps) out := vals_each hR
    have hlen2 : (sortedV xs ps).length ≤ sizeLine := by
      unfold sortedV
      rw [List.length_map, List.length_mergeSort, hzip]
      exact hz
    exact ⟨.ref d, upd H d (.lst (sortedV xs ps)), I1.laid (t' := tk) k2 hdl ⟨hlen2, out, n, rv2, hn⟩, rfl, q d (I1.hok.fresh hdl)⟩
end
section
variable {X : Cx}
theorem cr_sortedL (hu : X.A.units + 64 < cLine) : CallR X (.builtin "sorted") (rSortedL X.K) := by
  intro pins s σ H vs us Q I r h
  obtain ⟨a, xs, ps, rfl, hs, hd, hal, hk, hdep, hz, q⟩ := h
  obtain ⟨u, rfl, ru⟩ := vals1 r
  obtain rfl : u = Value.ref a := ru
  have kp : ∀ (vs : List Value) b o, s.heap.get? b = some o → ((s.heap.push (seqObj "list" #[] 0)).update s.heap.objs.size (Obj.mapSeq (· ++ vs.toArray))).get? b = some o := fun vs b o q => by
    rw [Heap.get?_update_ne _ _ _ _ (Nat.ne_of_lt (Heap.lt_size q))]
    exact Heap.get?_push_of_some _ q
  rcases hs with hs | hs
  · obtain ⟨its, rv, hl, hz2⟩ := I.list hs
    exact sorted_inv I hu (fun C E' hC => collect_list hl.isList (hC _ s.toks (kp _)) (by rw [← rv.length]; exact hz)) rv hd hal hk hdep hz q
  · obtain ⟨its, rv, hl, hz2⟩ := I.tuple hs
    exact sorted_inv I hu (fun C E' hC => collect_tupleD hl (hC _ s.toks (kp _)) (by rw [← rv.length]; exact hz)) rv hd hal hk hdep hz q
theorem cr_sortedDT (hc : X.calm = true) (hu : X.A.units + 64 < cLine) : CallR X (.builtin "sorted") (rSortedDT X.K) := by
  intro pins s σ H vs us Q I r h
  obtain ⟨d, kvs, ps, rfl, hd, hdp, hal, hk, hdep, hz, q⟩ := h
  obtain ⟨u, rfl, ru⟩ := vals1 r
  obtain rfl : u = Value.ref d := ru
  obtain ⟨z, hs, ks, pr, o, es, ep, ho, hx, hdt, he, hn⟩ := (show ObjOk X.prog X.w H s.heap d (.dT kvs) from hd.ok I.hok)
  have l1 : es.size = ks.length := size_of_entries he
  have l2 : kvs.length = ks.length := Paired.length pr
  have kk := isKeys_of pr
  have rv : Vals ((ks.map fun x => x.2.1).map V.ref) ((ks.map fun x => x.2.1).map Value.ref) := vals_refs _
  refine sorted_inv I hu (vs := (ks.map fun x => x.2.1).map Value.ref) (fun C E' hC => PySem.W.kdu_collect (A := X.A.in1) (kdl_raw hs hx hdt) (I.ok.hd hc) ho (by omega) fun h' tk acc keep it => ?_) rv (hdp _ kk) hal hk hdep (by rw [List.length_map, List.length_map]; omega) fun p hp => q p _ hp kk
  have ea : acc.toList = (ks.map fun x => x.2.1).map Value.ref := by
    have hl : acc.toList.length = ks.length := by rw [Array.length_toList, it.1]; exact l1
    rw [List.map_map]
    apply List.ext_getElem?
    intro j
    rw [List.getElem?_map]
    cases hj : acc.toList[j]? with
    | none =>
      have h1 := List.getElem?_eq_none_iff.mp hj
      rw [List.getElem?_eq_none (by omega)]
      all_goals rfl
    | some v =>
      obtain ⟨en, hen, hv⟩ := it.2 j v (by rw [← Array.getElem?_toList]; exact hj)
      have qe := entry_at he j
      rw [hen] at qe
      cases hb : ks[j]? with
      | none =>
        rw [hb] at qe
        exact nomatch (show some en = none from qe)
      | some b =>
        rw [hb] at qe
        have e2 : en = entryOfKey (tupleKind (mixKind X.prog X.w)) b := Option.some.inj qe
        rw [hv, e2]
        all_goals rfl
  rw [ea]
  exact hC h' tk keep
end
end Pu
namespace Pu
variable [TabN]
open PySem PySem.Spec PyProof.Rows L2
def keyD : Key → D
  | .inl i => .int i
  | .inr x => .str x
def tkeyD (k : List Key) : D := .tup (k.map keyD)
section
variable {K : PySem.W.Frag} {mg : Str → Option Value} {σ : L2.St} {F H : Hp} {en : En} {L : List Addr}
theorem rep_keyD (k : Key) : Rep K mg F (keyD k) (kV k) := by
  cases k
  · exact rep_v rfl
  · exact rep_v rfl
theorem reps_keyD : ∀ k : List Key, Reps K mg F (k.map keyD) (k.map kV)
  | [] => by simp [Reps]
  | k :: ks => by
    simp only [List.map_cons, Reps]
    exact ⟨rep_keyD k, reps_keyD ks⟩
theorem rep_tkeyD {b : Addr} {k : List Key} (h : F b = some (.tup (k.map kV))) : Rep K mg F (tkeyD k) (.ref b) := by
  unfold tkeyD
  simp only [Rep]
  exact ⟨b, _, rfl, .of h, reps_keyD k⟩
theorem keys_frozen {kvs : List (List Key × V)} {bs : List Addr} (k : IsKeys H kvs bs) : ∀ {F : Hp}, StOk K mg F H σ en L → ∃ F', StOk K mg F' H σ en L ∧ Ext F H L F' H L ∧ Reps K mg F' (kvs.map fun p => tkeyD p.1) (bs.map V.ref) := by
  unfold IsKeys at k
  induction k with
  | nil => intro F st; exact ⟨F, st, Ext.refl, by simp [Reps]⟩
  | @cons p b kvs bs h _ ih =>
    intro F st
    obtain ⟨F1, st1, x1, r1⟩ := ih st
    obtain ⟨st2, x2, s2⟩ := tup_frozen st1 h
    refine ⟨_, st2, x1.trans x2, ?_⟩
    simp only [List.map_cons, Reps]
    exact ⟨rep_tkeyD upd_same, r1.mono s2⟩
theorem keys_reps {kvs : List (List Key × V)} {bs : List Addr} (k : IsKeys H kvs bs) : Reps K mg H (kvs.map fun p => tkeyD p.1) (bs.map V.ref) := by
  unfold IsKeys at k
  induction k with
  | nil => simp [Reps]
  | cons h _ ih =>
    simp only [List.map_cons, Reps]
    exact ⟨rep_tkeyD h, ih⟩
end
theorem map_tkey {kvs : List (List Key × V)} {ks : List (List Key)} (h : kvs.map (·.1) = ks) : ks.map tkeyD = kvs.map fun p => tkeyD p.1 := by
  rw [← h, List.map_map]
  rfl

open PySem.W in
theorem ins_same {α : Type} {le : α → α → Bool} (h : PySem.W.TotalLe le) (c x : α) : ∀ r : List α, (insS le x r).filter (PySem.W.sameRank le c) = (x :: r).filter (PySem.W.sameRank le c)
  | [] => rfl
  | y :: r => by
    unfold insS
    split
    · rfl
    · rename_i hxy
      have ih := ins_same h c x r
      rw [List.filter_cons, ih, List.filter_cons, List.filter_cons (x := x), List.filter_cons (x := y)]
      cases hx : PySem.W.sameRank le c x with
      | false => simp
      | true =>
        cases hy : PySem.W.sameRank le c y with
        | false => simp
        | true =>
          exfalso
          simp only [PySem.W.sameRank, Bool.and_eq_true] at hx hy
          exact hxy (h.trans _ _ _ hx.2 hy.1)
theorem srt_same {α : Type} {le : α → α → Bool} (h : PySem.W.TotalLe le) (c : α) : ∀ r : List α, (srt le r).filter (PySem.W.sameRank le c) = r.filter (PySem.W.sameRank le c)
  | [] => rfl
  | x :: r => by
    show (insS le x (srt le r)).filter _ = _
    rw [ins_same h c x, List.filter_cons, srt_same h c r, List.filter_cons]
theorem ms_srt {α : Type} {le : α → α → Bool} (h : PySem.W.TotalLe le) (l : List α) : l.mergeSort le = srt le l :=
  (PySem.W.sort_unique h (srt_pw (fun a b e => (h.total a b).resolve_left (by rw [e]; simp)) (fun a b c => h.trans a b c) l) fun c => srt_same h c l).symm
theorem ins_map {α β : Type} {r : α → α → Bool} {s : β → β → Bool} (f : α → β) (x : α) : ∀ {l : List α}, (∀ b ∈ l, r x b = s (f x) (f b)) → (insS r x l).map f = insS s (f x) (l.map f)
  | [], _ => rfl
  | y :: l, h => by
    simp only [insS, List.map_cons]
    rw [← h y (by simp)]
    split
    · rfl
    · rw [List.map_cons, ins_map f x fun b hb => h b (by simp [hb])]
theorem srt_map {α β : Type} {r : α → α → Bool} {s : β → β → Bool} (f : α → β) : ∀ {l : List α}, (∀ a ∈ l, ∀ b ∈ l, r a b = s (f a) (f b)) → (srt r l).map f = srt s (l.map f)
  | [], _ => rfl
  | x :: l, h => by
    show (insS r x (srt r l)).map f = insS s (f x) (srt s (l.map f))
    rw [ins_map f x fun b hb => h x (by simp) b (by simp [(srt_perm r l).mem_iff.mp hb]), srt_map f fun a ha b hb => h a (by simp [ha]) b (by simp [hb])]
theorem dataLe_tot {β : Type} (k : β → PyData) : PySem.W.TotalLe (PySem.W.dataLe false k) := PySem.W.sortLe_total _ _ _
def alikeB (ps : List PyData) : Bool := ps.all fun p => ps.all fun q => PySem.W.alike p q
def tupB : PyData → Bool
  | .tuple (_ :: _) => true
  | _ => false
def notB : PyData → Bool
  | .none => false
  | .tuple _ => false
  | _ => true
def sortableB (ps : List PyData) : Bool := ps.all tupB || ps.all notB
def depthB (ps : List PyData) : Bool := ps.all fun p => decide (p.depth ≤ 60)
def leD (a b : D) : Bool := match a.py, b.py with
  | some p, some q => !PySem.W.dataLt q p
  | _, _ => true
def oSortX (ds : List D) : Option (List D) := match D.pys ds with
  | some ps => if alikeB ps && sortableB ps && depthB ps && decide (ds.length ≤ sizeLine) then some (srt leD ds) else none
  | none => none
def gSortX : En → R → Option (En × R) := fun en r => match r.dT en with
  | some (ks, _) => (match oSortX (ks.map tkeyD) with
    | some es => some (en, .val (.lst (es.map W.sh)))
    | none => none)
  | none => match r.els en with
    | some (en', _, ds) => (match oSortX ds with
      | some es => some (en', .val (.lst (es.map W.sh)))
      | none => none)
    | none => none
theorem alikeB_ok {ps : List PyData} (h : alikeB ps = true) : PySem.W.AllAlike ps := fun d hd e he => by
  unfold alikeB at h
  rw [List.all_eq_true] at h
  have := h d hd
  rw [List.all_eq_true] at this
  exact this e he
theorem sortableB_ok {ps : List PyData} (h : sortableB ps = true) : PySem.W.Sortable ps := by
  unfold sortableB at h
  rw [Bool.or_eq_true, List.all_eq_true, List.all_eq_true] at h
  rcases h with h | h
  · refine .inl fun d hd => ?_
    have := h d hd
    unfold tupB at this
    split at this
    · exact ⟨_, _, rfl⟩
    · cases this
  · refine .inr fun d hd => ?_
    have := h d hd
    unfold notB at this
    refine ⟨fun e => by subst e; simp at this, fun xs e => by subst e; simp at this⟩
theorem depthB_ok {ps : List PyData} (h : depthB ps = true) : ∀ d ∈ ps, d.depth ≤ 60 := fun d hd => by
  unfold depthB at h
  rw [List.all_eq_true] at h
  simpa using h d hd
theorem oSortX_ok {ds es : List D} (h : oSortX ds = some es) : ∃ ps, D.pys ds = some ps ∧ PySem.W.AllAlike ps ∧ PySem.W.Sortable ps ∧ (∀ d ∈ ps, d.depth ≤ 60) ∧ ds.length ≤ sizeLine ∧ es = srt leD ds := by
  unfold oSortX at h
  split at h
  · rename_i ps e
    split at h
    · rename_i hc
      cases h
      simp only [Bool.and_eq_true, decide_eq_true_eq] at hc
      exact ⟨ps, e, alikeB_ok hc.1.1.1, sortableB_ok hc.1.1.2, depthB_ok hc.1.2, hc.2, rfl⟩
    · cases h
  · cases h
theorem pys_get : ∀ {ds : List D} {ps : List PyData} {vs : List V}, D.pys ds = some ps → ds.length = vs.length → vs.zip ps = (vs.zip ds).map (fun b => (b.1, (b.2.py).getD .none)) ∧ ∀ b ∈ vs.zip ds, ∃ p, b.2.py = some p
  | [], ps, vs, e, hl => by
    simp only [D.pys, Option.some.injEq] at e
    subst e
    simp
  | d :: ds, ps, [], e, hl => by simp at hl
  | d :: ds, ps, v :: vs, e, hl => by
    simp only [D.pys] at e
    split at e
    · rename_i p ps' e1 e2
      cases e
      obtain ⟨h1, h2⟩ := pys_get e2 (by simpa using hl : ds.length = vs.length)
      refine ⟨by simp [h1, e1], fun b hb => ?_⟩
      simp only [List.zip_cons_cons, List.mem_cons] at hb
      rcases hb with rfl | hb
      · exact ⟨p, e1⟩
      · exact h2 b hb
    · cases e
section
variable {K : PySem.W.Frag} {mg : Str → Option Value}
theorem reps_zip {F : Hp} : ∀ {ds : List D} {vs : List V}, Reps K mg F ds vs → ∀ b ∈ vs.zip ds, Rep K mg F b.2 b.1
  | [], [], _, b, hb => by simp at hb
  | d :: ds, v :: vs, h, b, hb => by
    simp only [Reps] at h
    simp only [List.zip_cons_cons, List.mem_cons] at hb
    rcases hb with rfl | hb
    · exact h.1
    · exact reps_zip h.2 b hb
  | [], _ :: _, h, _, _ => by simp only [Reps] at h
  | _ :: _, [], h, _, _ => by simp only [Reps] at h
theorem reps_of {F : Hp} : ∀ {U : List (V × D)}, (∀ b ∈ U, Rep K mg F b.2 b.1) → Reps K mg F (U.map (·.2)) (U.map (·.1))
  | [], _ => by simp [Reps]
  | u :: U, h => by
    simp only [List.map_cons, Reps]
    exact ⟨h u (by simp), reps_of fun b hb => h b (by simp [hb])⟩
/-- the items in their order, beside what they are -/
theorem sorted_reps {F : Hp} {ds : List D} {vs : List V} {ps : List PyData} (h : Reps K mg F ds vs) (e : D.pys ds = some ps) : Reps K mg F (srt leD ds) (sortedV vs ps) := by
  have hl := h.len
  obtain ⟨z1, z2⟩ := pys_get e hl
  have q1 : (srt (fun a b => leD a.2 b.2) (vs.zip ds)).map (fun b => (b.1, (b.2.py).getD .none)) = (vs.zip ps).mergeSort (PySem.W.dataLe false Prod.snd) := by
    rw [ms_srt (dataLe_tot _), z1]
    refine srt_map (fun b : V × D => (b.1, (b.2.py).getD .none)) fun a ha b hb => ?_
    obtain ⟨p, hp⟩ := z2 a ha
    obtain ⟨p', hp'⟩ := z2 b hb
    simp only [leD, hp, hp', PySem.W.dataLe_eq, Option.getD_some, cond_false]
  have q2 : (srt (fun a b => leD a.2 b.2) (vs.zip ds)).map (·.2) = srt leD ds := by
    have e2 : (vs.zip ds).map (·.2) = ds := zip_snd hl.symm
    have := srt_map (r := fun a b : V × D => leD a.2 b.2) (s := leD) (fun b : V × D => b.2) (l := vs.zip ds) fun a _ b _ => rfl
    rw [this, e2]
  unfold sortedV
  rw [← q1, ← q2, List.map_map]
  refine reps_of fun b hb => reps_zip h b ?_
  exact (srt_perm _ _).mem_iff.mp hb
theorem u_sortX : OpU K mg (fun xs H Q => rSortedL K xs H Q ∨ rSortedDT K xs H Q) gSortX := by
  intro F H σ en L r v Lr en' r' st h nd e Q q
  unfold gSortX at e
  split at e
  · rename_i ks ds e1
    split at e
    · rename_i es e2
      cases e
      obtain ⟨a, kws, rfl, ha, hk, hr⟩ := h.dT st e1
      obtain ⟨ps, p1, p2, p3, p4, p5, rfl⟩ := oSortX_ok e2
      rw [map_tkey hk] at p1 p5 q
      refine .inr ⟨a, kws, ps, rfl, ha, fun bs kb => Reps.dp (mg := mg) (keys_reps kb) p1, p2, p3, p4, by simpa using p5, fun p bs hp kb => ?_⟩
      obtain ⟨F1, st1, x1, r1⟩ := keys_frozen kb st
      obtain ⟨z1, z2, z3, z4⟩ := lay_list st1 hp (owns_sh (sorted_reps r1 p1)) (by simpa using st1.nd)
      exact q _ _ _ _ _ z1 z2 z3 ((x1.mem (fun a h => by simp [h]) fun a h => h).trans (z4.mem (fun a h => by simpa using h) fun a h => h))
    · cases e
  · split at e
    · rename_i en1 k ds e1
      split at e
      · rename_i es e2
        cases e
        obtain ⟨F1, L1, st1, ⟨a, vs, rfl, ⟨s1, s2⟩, rp⟩, x1⟩ := h.els st nd e1
        obtain ⟨ps, p1, p2, p3, p4, p5, rfl⟩ := oSortX_ok e2
        refine .inl ⟨a, vs, ps, rfl, s1.any, Reps.dp (rp.mono st1.sub) p1, p2, p3, p4, by rw [← rp.len]; exact p5, fun p hp => ?_⟩
        obtain ⟨z1, z2, z3, z4⟩ := lay_list st1 hp (owns_sh (sorted_reps rp p1)) (by simpa using st1.nd)
        exact q _ _ _ _ _ z1 z2 z3 (x1.trans (z4.mem (fun a h => by simpa using h) fun a h => h))
      · cases e
    · cases e
/-- list(d) -/
def gListT : En → R → Option (En × R) := fun en r => match r.dT en with
  | some (ks, _) => some (en, .val (.lst ((ks.map tkeyD).map W.sh)))
  | none => none
end
section
variable {X : Cx} {e : Expr} {f : FE} {p pos : Pos}
def fSortX (f : FE) : FE := fU gSortX f
theorem c_sortX (hu : X.A.units + 65 < cLine) (hc : X.calm = true) (hm : X.mg "sorted" = none) (he : SE X e f) (hg : Gl X "sorted" := by rfl) (hs : starEach [e] X.env = [(false, eval e X.env)] := by rfl) : SE X (.Call (.Name "sorted" p) [e] [] pos) (fSortX f) :=
  se_callB (call_or (cr_sortedL (by omega)) (cr_sortedDT hc (by omega))) (u_sortX) hg hm b_sorted he (by decide) (by decide) hs
def fListT (f : FE) : FE := fU gListT f
end
end Pu
namespace Pu
variable [TabN]
open PySem PySem.Spec PyProof.Rows L2
def R.lock (en : En) : R → Option (En × List (List Key))
  | .val (.dT ks _) => some (en, ks)
  | .val (.sh (.lT ks _)) => some (en, ks)
  | .pl i p => match en.get i p with
    | some (.dT ks ds) => some (en.put i p (.sh (.lT ks ds)), ks)
    | some (.sh (.lT ks _)) => some (en, ks)
    | _ => none
  | _ => none
section
variable {K : PySem.W.Frag} {mg : Str → Option Value} {σ : L2.St} {F H : Hp} {en en' : En} {L Lr : List Addr}
theorem upd_subN {F : Hp} {a : Addr} {o : HO} (h : F a = none) : Same F (upd F a o) := fun b u e => by
  by_cases hb : b = a
  · subst hb; rw [h] at e; cases e
  · rw [upd_ne hb]; exact e
theorem RR.lock {r : R} {v : V} {ks : List (List Key)} (st : StOk K mg F H σ en L) (h : RR K mg F H σ en L r v Lr) (nd : (L ++ Lr).Nodup) (e : r.lock en = some (en', ks)) :
    ∃ a kws, v = .ref a ∧ kws.map (·.1) = ks ∧ ((∃ od, F a = some (.frz od (.dT kws)) ∧ StOk K mg F H σ en' L) ∨
      (H a = some (.dT kws) ∧ ∀ od, ∃ L', StOk K mg (upd F a (.frz od (.dT kws))) (upd H a (.frz od (.dT kws))) σ en' L' ∧ Ext F H (L ++ Lr) (upd F a (.frz od (.dT kws))) (upd H a (.frz od (.dT kws))) L')) := by
  have upd2 : ∀ {a : Addr} {u : HO}, Same (upd F a u) (upd H a u) := fun {a u} b w e => by
    by_cases hb : b = a
    · subst hb; rw [upd_same] at e ⊢; exact e
    · rw [upd_ne hb] at e ⊢; exact st.sub _ _ e
  have ext : ∀ {a : Addr} {kws : List (List Key × V)} {u : HO} {M M' : List Addr}, a ∈ M → (∀ b ∈ M', b ∈ M) → F a = none → H a = some (.dT kws) → Ext F H M (upd F a u) (upd H a u) M' := fun {a kws u M M'} hm hs hf hh =>
    Ext.of (fun b o e n => by rw [upd_ne (fun z => n (by rw [z]; exact hm))]; exact e) (tbl_upd fun ps z => by rw [hh] at z; cases z) (fun b e => by
      by_cases hb : b = a
      · subst hb; rw [upd_same]; simp
      · rw [upd_ne hb]; exact e) (upd_subN hf) (fun b e => by
      by_cases hb : b = a
      · subst hb; exact .inr (.inl hm)
      · rw [upd_ne hb] at e; exact .inl e) (fun b hb => .inl (hs b hb))
  have tb : ∀ {a : Addr} {kws : List (List Key × V)} {od : Obj}, F a = none → H a = some (.dT kws) → TbOk (upd F a (.frz od (.dT kws))) (upd H a (.frz od (.dT kws))) := fun {a kws od} hf hh =>
    ⟨st.tb.ok.step (upd_subN hf) (tbl_upd fun ps z => by rw [hh] at z; cases z), fun b ps e => by
      by_cases hb : b = a
      · subst hb; rw [upd_same] at e; cases e
      · rw [upd_ne hb] at e; exact st.tb.no _ _ e⟩
  cases r with
  | val w =>
    simp only [RR] at h
    unfold R.lock at e
    split at e
    · rename_i ks' ds' h0
      cases h0
      cases e
      simp only [Own] at h
      obtain ⟨a, kws, rfl, h1, h2, rfl, h3, h4⟩ := h
      refine ⟨a, kws, rfl, h3, .inr ⟨h1, fun od => ⟨L, ⟨upd2, st.nd, st.own.stay ⟨upd_subN h2, fun b hb => ?_, fun b hb => ?_⟩, tb h2 h1⟩, ext (by simp) (fun b hb => by simp [hb]) h2 h1⟩⟩⟩
      · have hb' : b ≠ a := fun z => (nd_app nd).2.2 b hb (by simp [z])
        rw [upd_ne hb']; exact (st.cell b hb).2
      · have hb' : b ≠ a := fun z => (nd_app nd).2.2 b hb (by simp [z])
        rw [upd_ne hb']
    · rename_i ks' ds' h0
      cases h0
      cases e
      simp only [Own, Rep] at h
      obtain ⟨⟨a, od, kws, rfl, h1, h2, h3⟩, _⟩ := h
      exact ⟨a, kws, rfl, h2, .inl ⟨od, h1, st⟩⟩
    · rename_i h0; cases h0
    · cases e
  | pl i p =>
    obtain ⟨rfl, w, La, Lm, Lb, P⟩ := RR.part st h
    have g := P.1
    simp only [R.lock, g] at e
    split at e
    · rename_i ks' ds' h0
      cases h0
      cases e
      have o := P.2.2.1
      simp only [Own] at o
      obtain ⟨a, kws, rfl, h1, h2, rfl, h3, h4⟩ := o
      have eL := P.2.1
      have n3 := nodup3 (by rw [← eL]; exact st.nd : (La ++ ([a] ++ Lb)).Nodup)
      have hne : ∀ b ∈ La ++ Lb, b ≠ a := fun b hb z => n3.2 b hb (by simp [z])
      have cl : ∀ b ∈ La ++ Lb, F b = none := fun b hb => (st.cell b (by rw [eL]; simp only [List.mem_append] at hb ⊢; rcases hb with z | z <;> simp [z])).2
      refine ⟨a, kws, rfl, h3, .inr ⟨h1, fun od => ⟨La ++ ([] ++ Lb), ⟨upd2, by simpa using n3.1, P.2.2.2 _ _ _ _ ⟨upd_subN h2, fun b hb => ?_, fun b hb => upd_ne (hne b hb)⟩ ?_, tb h2 h1⟩, ext (by rw [eL]; simp) (fun b hb => ?_) h2 h1⟩⟩⟩
      · rw [upd_ne (hne b hb)]; exact cl b hb
      · simp only [Own, Rep, and_true]
        exact ⟨a, od, kws, rfl, upd_same, h3, h4.mono (upd_subN h2)⟩
      · rw [eL]
        simp only [List.nil_append, List.mem_append] at hb ⊢
        rcases hb with z | z <;> simp [z]
    · rename_i ks' ds' h0
      cases h0
      cases e
      have o := P.2.2.1
      simp only [Own, Rep] at o
      obtain ⟨⟨a, od, kws, rfl, h1, h2, h3⟩, _⟩ := o
      exact ⟨a, kws, rfl, h2, .inl ⟨od, h1, st⟩⟩
    · cases e
end
def iKeys (f : FE) : FI := fun en => match f en with
  | none => none
  | some (en1, r) => match r.lock en1 with
    | none => none
    | some (en2, ks) => some (en2, ks.map tkeyD)
section
variable {X : Cx} {tg e : Expr} {f : FE}
end
end Pu
namespace Pu
variable [TabN]
open PySem PySem.Spec PyProof.Rows L2
section
variable {X : Cx}
end
section
variable {K : PySem.W.Frag} {mg : Str → Option Value}
end
section
variable {X : Cx} {e : Expr} {f : FE} {p pos : Pos}
end
end Pu
namespace Pu
variable [TabN]
open PySem PySem.Spec PyProof.Rows L2
section
variable {X : Cx} {x : Str} {pos : Pos}
end
end Pu
namespace Pu
variable [TabN]
open PySem PySem.Spec PyProof.Rows L2
mutual
def D.tdat : D → Bool
  | .non => true
  | .bl _ => true
  | .int _ => true
  | .str _ => true
  | .tup ds => D.tdats ds
  | _ => false
def D.tdats : List D → Bool
  | [] => true
  | d :: ds => D.tdat d && D.tdats ds
end
mutual
def W.clean : W → Bool
  | .sh d => d.tdat
  | .lst ws => W.cleans ws
  | _ => false
def W.cleans : List W → Bool
  | [] => true
  | w :: ws => W.clean w && W.cleans ws
end
def keepT (F H F' : Hp) : Hp := fun a => match F a with
  | some o => some o
  | none => match H a with
    | none => F' a
    | some (.tup vs) => some (.tup vs)
    | some _ => none
section
variable {K : PySem.W.Frag} {mg : Str → Option Value} {F H F' H' : Hp}
theorem keepT_sub : Same F (keepT F H F') := fun b u e => by
  unfold keepT; rw [e]
theorem keepT_le (s : Same F H) (s1 : Same H F') : Same (keepT F H F') F' := fun b u e => by
  unfold keepT at e
  split at e
  · rename_i o h
    cases e
    exact s1 _ _ (s _ _ h)
  · split at e
    · exact e
    · rename_i vs h
      cases e
      exact s1 _ _ h
    · cases e
theorem keepT_tup {a : Addr} {vs : List V} (s : Same F H) (s1 : Same H F') (h : F' a = some (.tup vs)) : keepT F H F' a = some (.tup vs) := by
  unfold keepT
  split
  · rename_i o e
    rw [← h]
    exact (s1 _ _ (s _ _ e)).symm
  · split
    · exact h
    · rename_i us e
      rw [← h]
      exact (s1 _ _ e).symm
    · rename_i o n e
      have := s1 _ _ e
      rw [h] at this
      cases this
      exact absurd rfl (n vs)
theorem keepT_none {a : Addr} (s : Same F H) (s1 : Same H F') (h : F' a = none) : keepT F H F' a = none := by
  cases q : keepT F H F' a with
  | none => rfl
  | some o =>
    have := keepT_le s s1 _ _ q
    rw [h] at this
    cases this
mutual
theorem Rep.keepT (s : Same F H) (s1 : Same H F') : ∀ {d : D} {v : V}, d.tdat = true → Rep K mg F' d v → Rep K mg (keepT F H F') d v
  | .non, v, _, h => by simpa only [Rep] using h
  | .bl _, v, _, h => by simpa only [Rep] using h
  | .int _, v, _, h => by simpa only [Rep] using h
  | .str _, v, _, h => by simpa only [Rep] using h
  | .tup ds, v, c, h => by
    simp only [D.tdat] at c
    simp only [Rep] at h ⊢
    obtain ⟨a, vs, rfl, h1, h2⟩ := h
    refine ⟨a, vs, rfl, ?_, Reps.keepT s s1 c h2⟩
    rcases h1.2 with z | ⟨rfl, z⟩
    · exact .of (keepT_tup s s1 z)
    · exact ⟨.inr z, .inr ⟨rfl, z⟩⟩
  | .any, v, c, h => by simp [D.tdat] at c
  | .lst _, v, c, h => by simp [D.tdat] at c
  | .frl _, v, c, h => by simp [D.tdat] at c
  | .dT _ _, v, c, h => by simp [D.tdat] at c
  | .dK _ _, v, c, h => by simp [D.tdat] at c
  | .lT _ _, v, c, h => by simp [D.tdat] at c
  | .ins _ _, v, c, h => by simp [D.tdat] at c
theorem Reps.keepT (s : Same F H) (s1 : Same H F') : ∀ {ds : List D} {vs : List V}, D.tdats ds = true → Reps K mg F' ds vs → Reps K mg (keepT F H F') ds vs
  | [], [], _, _ => by simp only [Reps]
  | d :: ds, v :: vs, c, h => by
    simp only [D.tdats, Bool.and_eq_true] at c
    simp only [Reps] at h ⊢
    exact ⟨Rep.keepT s s1 c.1 h.1, Reps.keepT s s1 c.2 h.2⟩
  | [], _ :: _, _, h => by simp only [Reps] at h
  | _ :: _, [], _, h => by simp only [Reps] at h
end
mutual
theorem Own.keepT (s : Same F H) (s1 : Same H F') : ∀ {w : W} {v : V} {L : List Addr}, w.clean = true → Own K mg F' H' w v L → Own K mg (keepT F H F') H' w v L
  | .sh d, v, L, c, h => by
    simp only [W.clean] at c
    simp only [Own] at h ⊢
    exact ⟨h.1.keepT s s1 c, h.2⟩
  | .lst ws, v, L, c, h => by
    simp only [W.clean] at c
    simp only [Own] at h ⊢
    obtain ⟨a, vs, L', h1, h2, h3, h4, h5⟩ := h
    exact ⟨a, vs, L', h1, h2, keepT_none s s1 h3, h4, Owns.keepT s s1 c h5⟩
  | .dT _ _, v, L, c, h => by simp [W.clean] at c
  | .dK _ _, v, L, c, h => by simp [W.clean] at c
  | .ins _ _, v, L, c, h => by simp [W.clean] at c
theorem Owns.keepT (s : Same F H) (s1 : Same H F') : ∀ {ws : List W} {vs : List V} {L : List Addr}, W.cleans ws = true → Owns K mg F' H' ws vs L → Owns K mg (keepT F H F') H' ws vs L
  | [], [], L, _, h => by simpa only [Owns] using h
  | w :: ws, v :: vs, L, c, h => by
    simp only [W.cleans, Bool.and_eq_true] at c
    simp only [Owns] at h ⊢
    obtain ⟨L1, L2, e, h1, h2⟩ := h
    exact ⟨L1, L2, e, h1.keepT s s1 c.1, Owns.keepT s s1 c.2 h2⟩
  | [], _ :: _, _, _, h => by simp only [Owns] at h
  | _ :: _, [], _, _, h => by simp only [Owns] at h
end
/-- after something that held all that stands fast: what is owned is owned -/
theorem keepT_st {G : Hp} {σ : L2.St} {en : En} {L M : List Addr} (st : StOk K mg F H σ en L) (x : Ext (noT H) H [] F' H' M) (sG : Same F' G) (lG : Same G H') (nG : ∀ b ps, G b ≠ some (.tbl ps)) :
    StOk K mg (keepT F (noT H) G) H' σ en L ∧ Stay F H (keepT F (noT H) G) H' L ∧ ∀ M', (∀ b ∈ M', b ∈ L ∨ H b = none) → Ext F H L (keepT F (noT H) G) H' M' := by
  have sN : Same F (noT H) := noT_sub st.sub st.tb.no
  have s1 : Same (noT H) G := x.sub.trans sG
  have out : ∀ b ∈ L, keepT F (noT H) G b = none := fun b hb => by
    obtain ⟨h1, h2⟩ := st.cell b hb
    unfold keepT
    rw [h2]
    cases e : H b with
    | none => exact absurd e h1.1
    | some o =>
      rw [noT_of e fun ps z => h1.2.2 ps (by rw [e, z])]
      cases o
      case tup vs => exact absurd e (h1.2.1 vs)
      all_goals rfl
  have same : ∀ b ∈ L, H' b = H b := fun b hb => by
    obtain ⟨h1, _⟩ := st.cell b hb
    cases e : H b with
    | none => exact absurd e h1.1
    | some o => exact x.kept b o e (by simp) fun ps z => h1.2.2 ps (by rw [e, z])
  have sy : Stay F H (keepT F (noT H) G) H' L := ⟨keepT_sub, out, same⟩
  have tab : TabX H (keepT F (noT H) G) H' := fun p hp ps h => by
    obtain ⟨ps', a1, a2, a3⟩ := x.tab p hp ps h
    refine ⟨ps', a1, a2, fun pos cv hc => ?_⟩
    rcases a3 pos cv hc with z | ⟨c, e1, e2, e3⟩
    · exact .inl z
    · refine .inr ⟨c, e1, e2, ?_⟩
      unfold keepT
      rw [sub_none st.sub e2, noT_none e2]
      exact sG _ _ e3
  have ex : ∀ M', (∀ b ∈ M', b ∈ L ∨ H b = none) → Ext F H L (keepT F (noT H) G) H' M' := fun M' hM =>
    ⟨fun a o e _ nt => x.kept a o e (by simp) nt, fun a ps e _ => x.tbk a ps e (by simp), tab, x.there, keepT_sub, fun a e => by
      unfold keepT at e
      split at e
      · rename_i o h; exact .inl (by rw [h]; simp)
      · split at e
        · rename_i h
          cases q : H a with
          | none => exact .inr (.inr (.inl rfl))
          | some o =>
            cases o
            case tbl ps =>
              obtain ⟨ps', h'⟩ := x.tbk a ps q (by simp)
              cases g : G a with
              | none => exact absurd g e
              | some o =>
                have := lG _ _ g
                rw [h'] at this
                cases this
                exact absurd g (nG _ _)
            all_goals (rw [noT_of q (by intro ps z; cases z)] at h; cases h)
        · rename_i vs h; exact .inr (.inr (.inr ⟨vs, noT_le _ _ h⟩))
        · exact absurd rfl e, hM⟩
  refine ⟨⟨(keepT_le sN s1).trans lG, st.nd, st.own.stay sy, ⟨st.tb.ok.via keepT_sub tab, fun b ps e => ?_⟩⟩, sy, ex⟩
  unfold keepT at e
  split at e
  · rename_i o h; cases e; exact st.tb.no _ _ h
  · split at e
    · exact nG _ _ e
    · cases e
    · cases e
theorem Reps.noT {H : Hp} {ds : List D} {us : List V} (h : Reps K mg H ds us) : Reps K mg (noT H) ds us := h.ns noT_ns
/-- a call that looks at vs alone -/
theorem callP_from {σ : L2.St} {en : En} {L Lr : List Addr} {ds : List D} {us : List V} {w : W} {ws' : List W} {g : PF} {Q : VK} {E : XK} (st : StOk K mg F H σ en L) (rp : Reps K mg H ds us) (eg : g (ds.map W.sh) = some (w, ws')) (hc : w.clean = true)
    (q : ∀ v F' H' Lr', StOk K mg F' H' σ en L → RR K mg F' H' σ en L (.val w) v Lr' → (L ++ Lr').Nodup → Ext F H (L ++ Lr) F' H' (L ++ Lr') → Q v H') : spP K mg g us H Q E := by
  refine ⟨Pu.noT H, ds.map W.sh, [], noT_le, by simp, owns_sh rp.noT, w, ws', eg, st.tb.noT st.sub, fun v F' H' L' s' nd' tb' ow' x => ?_⟩
  simp only [Owns] at ow'
  obtain ⟨Lw, La, rfl, o1, o2⟩ := ow'
  have hn : ∀ b ∈ Lw, H b = none := fun b hb => (x.newL b (by simp [hb])).elim (fun z => by cases z) id
  obtain ⟨stk, _, ex⟩ := keepT_st st x (Same.refl F') s' tb'.no
  refine q v (keepT F (Pu.noT H) F') H' Lw stk (by simp only [RR]; exact o1.keepT (noT_sub st.sub st.tb.no) x.sub hc) (nd_of st.nd (nd_app nd').1 fun b hb hb' => (st.cell b hb).1.1 (hn b hb')) ((ex (L ++ Lw) fun a ha => ?_).mem (fun a h => by simp [h]) fun a h => h)
  rcases List.mem_append.mp ha with z | z
  · exact .inl z
  · exact .inr (hn a z)
end
def fCallP (g : PF) (fs : List FE) : FE := fun en => match evs fs en with
  | none => none
  | some (en1, rs) => match rds en1 rs with
    | none => none
    | some ds => match g (ds.map W.sh) with
      | none => none
      | some (w, _) => if w.clean then some (en1, .val w) else none
def fCallKP (g : PF) (is : List Nat) (m : Nat) (fs : List FE) : FE := fun en => match evs fs en with
  | none => none
  | some (en1, rs) => match rds en1 rs with
    | none => none
    | some ds => if ds.length = m then (match g ((pick is ds).map W.sh) with
      | none => none
      | some (w, _) => if w.clean then some (en1, .val w) else none) else none
section
variable {X : Cx}
theorem callP_behind {g : PF} {fs : List FE} {σ : L2.St} {H : Hp} {Q : VK} {E : XK} (h : tS X.K X.mg (fCallP g fs) σ H Q) : tEv X.K X.mg fs σ H fun vs H' => spP X.K X.mg g vs H' Q E := by
  obtain ⟨F, en, L, en', rr, st, ef, k⟩ := h
  unfold fCallP at ef
  split at ef
  · cases ef
  rename_i en1 rs e1
  split at ef
  · cases ef
  rename_i ds e2
  split at ef
  · cases ef
  rename_i w ws' e3
  split at ef
  · rename_i hc
    cases ef
    refine ⟨F, en, L, _, rs, st, e1, fun vs F1 H1 L1 Lr1 st1 rr1 nd1 x1 => ?_⟩
    exact callP_from (Lr := Lr1) st1 (rr1.peek st1 e2) e3 hc fun v F' H' Lr' a b c d => k v F' H' L1 Lr' a b c (x1.trans d)
  · cases ef
variable {k : Nat} {f : Addr} {fd : FuncData} {ps ks : List Str} {x : Str} {p pos : Pos} {e : Expr} {es : List Expr} {kws : List Keyword} {fs gs : List FE} {g : PF} {is : List Nat} {n m : Nat} {E : XK}
theorem se_callP (G : FnOk X.prog X.w X.K X.mg X.base CX0 k f fd ps (spP X.K X.mg g)) (hr : Room k X.A) (hg : Gl X x) (hm : X.mg x = some (.ref f)) (hk : PySem.W.keepIn X.K (.ref f) = true) (hb : Binds X.K fd ps []) (ha : SA X (e :: es) fs)
    (hdb : (x == ("__debug__" : Str)) = false := by decide) (he : starEach (e :: es) X.env = (false, eval e X.env) :: starEach es X.env := by rfl) (hpl : (backTo pos (starEach es X.env)).any (·.1) = false := by rfl) : SE X (.Call (.Name x p) (e :: es) [] pos) (fCallP g fs) :=
  pe_imp (pe_call G hr hg hm hk hb .nil pass0 ha hdb he hpl) fun σ H Q q => by
    have z := callP_behind (E := E0) q
    unfold tCall
    simpa only [List.append_nil] using z
end
def fMethP (c : Str) (g : PF) (fo : FE) (fs : List FE) : FE := fCallP g (fCk c fo :: fs)
section
variable {X : Cx} {o e : Expr} {es : List Expr} {fo : FE} {fs : List FE} {c m : Str} {C f : Addr} {k : Nat} {g : PF} {pos apos : Pos} {pl : Sem Bool}
theorem se_methP (hC : X.mg c = some (.ref C)) (sc : SlX.SCls X.K C) (hm : Meth X.K C m f) (G : FnR X.prog X.w X.K X.mg X.base CX0 k f (spP X.K X.mg g)) (hr : Room k X.A) (ho : SE X o fo) (ha : SA X (e :: es) fs)
    (hst : starEach (e :: es) X.env = (false, eval e X.env) :: starEach es X.env := by rfl) (hpl : (backTo pos (starEach es X.env)).any (·.1) = false := by rfl)
    (ht : eval (.Call (.Attribute o m apos) (e :: es) [] pos) X.env = (do
      let ov ← eval o X.env
      standAt apos.atName
      let (f, first) ← holding [ov] (getMethod ov m pl)
      callWith pos f first (backTo pos (starEach (e :: es) X.env)) (backToKw pos (keywordEach [] X.env))) := by rfl) : SE X (.Call (.Attribute o m apos) (e :: es) [] pos) (fMethP c g fo fs) :=
  pe_imp (SlX.pe_methSl (pl := pl) ho sc hm G hr pass0 ha hst hpl ht) fun σ H Q q => by
    have z := tS_ck hC (tEv_cons (callP_behind (E := E0) q))
    obtain ⟨F, en, L, en1, r, st, e1, kk⟩ := z
    refine ⟨F, en, L, en1, r, st, e1, fun v F1 H1 L1 Lr st1 rr nd x => ?_⟩
    obtain ⟨a, dx, os, rfl, hs, z2⟩ := kk v F1 H1 L1 Lr st1 rr nd x
    exact ⟨a, dx, os, rfl, hs, z2⟩
theorem se_methP0 (hC : X.mg c = some (.ref C)) (sc : SlX.SCls X.K C) (hm : Meth X.K C m f) (G : FnR X.prog X.w X.K X.mg X.base CX0 k f (spP X.K X.mg g)) (hr : Room k X.A) (ho : SE X o fo)
    (ht : eval (.Call (.Attribute o m apos) [] [] pos) X.env = (do
      let ov ← eval o X.env
      standAt apos.atName
      let (f, first) ← holding [ov] (getMethod ov m pl)
      callWith pos f first (backTo pos (starEach [] X.env)) (backToKw pos (keywordEach [] X.env))) := by rfl) : SE X (.Call (.Attribute o m apos) [] [] pos) (fMethP c g fo []) :=
  pe_imp (SlX.pe_methSl0 (pl := pl) ho sc hm G hr pass0 ht) fun σ H Q q => by
    have z := tS_ck hC (tEv_cons (callP_behind (E := E0) q))
    obtain ⟨F, en, L, en1, r, st, e1, kk⟩ := z
    refine ⟨F, en, L, en1, r, st, e1, fun v F1 H1 L1 Lr st1 rr nd x => ?_⟩
    obtain ⟨a, dx, os, rfl, hs, z2⟩ := kk v F1 H1 L1 Lr st1 rr nd x
    exact ⟨a, dx, os, rfl, hs, tEv_nil z2⟩
end
end Pu
namespace Pu
variable [TabN]
open PySem PySem.Spec PyProof.Rows L2
def rExtendT (K : PySem.W.Frag) : V → List V → Hp → VK → Prop := fun x vs H Q => ∃ l b xs zs, x = .ref l ∧ vs = [.ref b] ∧ H l = some (.lst xs) ∧ SqT K H b zs ∧ xs.length + zs.length ≤ sizeLine ∧ Q .non (upd H l (.lst (xs ++ zs)))
theorem mt_extendT {X : Cx} : MtM X "list.extend" (rExtendT X.K) := by
  intro pins s σ H x vs v us Q I rx rv h
  obtain ⟨l, b, xs, zs, rfl, rfl, hH, hB, hz, q⟩ := h
  cases rx
  obtain ⟨u, rfl, ru⟩ := rv.one
  cases ru
  obtain ⟨z, its, n, r, hl, e⟩ := I.lstM hH
  obtain ⟨its2, r2, tp, hz2⟩ := I.tuple hB
  obtain ⟨ob, hb, hbc, n2, hbd⟩ := tp
  have l2 : its2.length = zs.length := r2.length.symm
  have hsz : its.toArray.size + its2.toArray.size ≤ sizeLine := by rw [List.size_toArray, List.size_toArray]; omega
  have hlong : ¬ (!its.toArray.isEmpty && Builtin.List.listTooLong (its.toArray.size + its2.toArray.size)) = true := by
    rw [notLongL hsz, Bool.and_false]
    exact Bool.false_ne_true
  refine wpAny_call_entry F.slot_list_extend ⟨_, e, rfl⟩ F.entry_list_extend ?_ (F.args_list_extend_2 _ _)
  show wpAny _ _ (Builtin.List.listExtendWith (.ref l) (.ref b) .none) _ _ s
  unfold Builtin.List.listExtendWith
  refine wpAny_bind (wpAny_typeOf (T := "tuple") ⟨ob, hb, hbc⟩ ?_)
  have ht : (Value.type "tuple" == Value.type "tuple") = true := by rfl
  rw [if_pos (by rw [ht]; simp)]
  refine wpAny_bind (listItems_at hb hbd ?_)
  refine wpAny_bind (listItems_at e rfl ?_)
  rw [if_neg hlong]
  refine wpAny_bind (listUpdate_at e rfl ?_ (by rw [List.size_toArray]; omega) (by rw [Array.size_append]; omega))
  refine wpAny_pure ⟨_, rfl, .non, _, I.lset (its' := its ++ its2) hH e (by simp) (r.append r2) ?_, rfl, q⟩
  rw [List.length_append]
  omega
def mExtT : FM := fun ws w => match w with
  | .sh (.tup ds) => if ws.length + ds.length ≤ sizeLine then some (ws ++ ds.map W.sh, .sh .non) else none
  | _ => none
def mExt2 : FM := fun ws w => match mExt ws w with
  | some r => some r
  | none => mExtT ws w
section
variable {K : PySem.W.Frag} {mg : Str → Option Value}
theorem mut_extT : MutOk K mg (rExtendT K) mExtT := by
  intro F H a ws w ws' z xs v L' Lw Q e o ow s ha nd na
  unfold mExtT at e
  split at e
  · rename_i ds
    split at e
    · rename_i hl
      cases e
      simp only [Own, Rep] at ow
      obtain ⟨⟨b, ys, rfl, hb, rp⟩, rfl⟩ := ow
      refine ⟨xs ++ ys, .non, L' ++ [], [], o.append (owns_sh rp), own_sh (rep_v rfl), by simpa using nd, fun b hb => by simpa using hb, fun q => ⟨a, b, xs, ys, rfl, rfl, ha, seqT s hb.1, by rw [← o.len, ← rp.len]; exact hl, q⟩⟩
    · cases e
  · cases e
theorem mut_ext2 : MutOk K mg (fun x vs H Q => rExtend x vs H Q ∨ rExtendT K x vs H Q) mExt2 := by
  intro F H a ws w ws' z xs v L' Lw Q e o ow s ha nd na
  unfold mExt2 at e
  split at e
  · rename_i r hr
    cases e
    obtain ⟨xs', y, Ln, Lz, h1, h2, h3, h4, h5⟩ := mut_ext F H a ws w ws' z xs v L' Lw Q hr o ow s ha nd na
    exact ⟨xs', y, Ln, Lz, h1, h2, h3, h4, fun q => .inl (h5 q)⟩
  · obtain ⟨xs', y, Ln, Lz, h1, h2, h3, h4, h5⟩ := mut_extT (mg := mg) F H a ws w ws' z xs v L' Lw Q e o ow s ha nd na
    exact ⟨xs', y, Ln, Lz, h1, h2, h3, h4, fun q => .inr (h5 q)⟩
end
theorem mt_ext2 {X : Cx} : MtM X "list.extend" (fun x vs H Q => rExtend x vs H Q ∨ rExtendT X.K x vs H Q) := fun pins s σ H x vs v us Q I rx rv h => h.elim (mt_extend pins s σ H x vs v us Q I rx rv) (mt_extendT pins s σ H x vs v us Q I rx rv)
section
variable {X : Cx} {o e : Expr} {fe : FE} {i : Nat} {apos cpos : Pos}
theorem se_ext2N (hb : HBase X o "extend") (hf : HFew X [e] cpos) (hl : (apos.endLine == cpos.line) = true) (hs : HStar X e) (ho : PE X o (tVar i)) (he : SE X e fe) : SE X (.Call (.Attribute o "extend" apos) [e] [] cpos) (fMutN i mExt2 fe) :=
  pe_imp (pe_bm PySem.F.plainAttrs_list PySem.F.slot_list_extend PySem.F.type_list_extend mt_ext2 ho (pa_cons he pa_nil hs) hb hf hl hs rfl) fun _ _ _ q => mutN_ok mut_ext2 q
end
end Pu
namespace Pu
variable [TabN]
open PySem PySem.Spec PyProof.Rows L2
def frzE (en : En) : En := en.map fun w => .sh w.d
def fPure (f : FE) : FE := fun en => match f (frzE en) with
  | some (_, .val w) => if w.clean then some (en, .val w) else none
  | _ => none
section
variable {K : PySem.W.Frag} {mg : Str → Option Value} {F H : Hp}
theorem frz_own (s : Same F H) : ∀ {en : En} {σ : L2.St} {L : List Addr}, OwnsO K mg F H en σ L → OwnsO K mg (noT H) H (frzE en) σ []
  | [], [], L, h => by simp only [frzE, List.map_nil, OwnsO]
  | w :: ws, some v :: vs, L, h => by
    simp only [OwnsO] at h
    obtain ⟨L1, L2, rfl, h1, h2⟩ := h
    have ih := frz_own s h2
    simp only [frzE, List.map_cons, OwnsO] at ih ⊢
    exact ⟨[], [], rfl, own_sh ((h1.seen (seen_H s)).ns noT_ns), ih⟩
  | w :: ws, none :: vs, L, h => by
    simp only [OwnsO] at h
    obtain ⟨rfl, h2⟩ := h
    have ih := frz_own s h2
    simp only [frzE, List.map_cons, OwnsO, W.d] at ih ⊢
    exact ⟨trivial, ih⟩
  | [], _ :: _, _, h => by simp only [OwnsO] at h
  | _ :: _, [], _, h => by simp only [OwnsO] at h
theorem pure_ok {f : FE} {σ : L2.St} {Q : VK} (h : tS K mg (fPure f) σ H Q) : tS K mg f σ H Q := by
  obtain ⟨F, en, L, en', r, st, e, k⟩ := h
  unfold fPure at e
  split at e
  · rename_i en1 w e1
    split at e
    · rename_i hc
      cases e
      refine ⟨noT H, frzE en, [], en1, .val w, ⟨noT_le, by simp, frz_own st.sub st.own, st.tb.noT st.sub⟩, e1, fun v F' H' L' Lr st' rr nd x => ?_⟩
      simp only [RR] at rr
      have hn : ∀ b ∈ Lr, H b = none := fun b hb => (x.newL b (by simp [hb])).elim (fun z => by cases z) id
      obtain ⟨stk, _, ex⟩ := keepT_st st x (Same.refl F') st'.sub st'.tb.no
      refine k v (keepT F (noT H) F') H' L Lr stk (by simp only [RR]; exact rr.keepT (noT_sub st.sub st.tb.no) x.sub hc) (nd_of st.nd (nd_app nd).2.1 fun b hb hb' => (st.cell b hb).1.1 (hn b hb')) (ex _ fun a ha => ?_)
      rcases List.mem_append.mp ha with z | z
      · exact .inl z
      · exact .inr (hn a z)
    · cases e
  · cases e
end
theorem se_pure {X : Cx} {e : Expr} {f : FE} (h : SE X e f) : SE X e (fPure f) := pe_imp h fun _ _ _ q => pure_ok q
end Pu
namespace Pu
variable [TabN]
open PySem PySem.Spec PyProof.Rows L2
theorem meets_enum_newB {v : Value} {o : Obj} {H : Heap → Prop} (B : Begins v o H) :
    PySem.Meets (PySem.Builtin.«enumerate.__new__» ⟨[.type "enumerate", v], []⟩) (fun _ R s => H s.heap ∧
      R (.ok (.ret (.ref (s.heap.push o).objs.size))) { s with heap := (s.heap.push o).push { cls := .type "enumerate", data := .fields #[.none, .bool false, .ref s.heap.objs.size, rawInt 0, .none, .none] } }) :=
  .of_wp fun prog w A R s h => by
    obtain ⟨hp, g, d, tk, os⟩ := s; obtain ⟨h1, h⟩ := h
    have hsub := sub_enumerate
    have q1 : ∀ {A' : Around} {E : Value → Shared → Prop} {Q : Value → Shared → Prop}, Q (.ref hp.objs.size) ⟨hp.push o, g, d, tk, os⟩ → wpAny (model prog w) A' (pyIter v) Q E ⟨hp, g, d, tk, os⟩ :=
      fun q => B.iter prog w _ _ ⟨hp, g, d, tk, os⟩ _ h1 q
    wp_walk using q1
    refine wpAny_stack_any fun st => wpAny_pure ?_
    split
    · rename_i c _ _ _ _ _
      cases (c == Value.type "enumerate")
      · wp_walk using q1
        exact ⟨_, rfl, h⟩
      · wp_walk using q1
        exact ⟨_, rfl, h⟩
    · wp_walk using q1
      exact ⟨_, rfl, h⟩
theorem call_enum_B {prog : Program} {w : World} {A : Around} {E : Value → Shared → Prop} {s : Shared} {v : Value} {o : Obj} {H : Heap → Prop} {Q : Value → Shared → Prop} (B : Begins v o H) (h1 : H s.heap)
    (h : ∀ h', IsEnum h' (s.heap.objs.size + 1) s.heap.objs.size 0 .none → h'.get? s.heap.objs.size = some o → h'.objs.size = s.heap.objs.size + 2 →
      (∀ b o, s.heap.get? b = some o → h'.get? b = some o) → Q (.ref (s.heap.objs.size + 1)) { s with heap := h' }) :
    wpAny (model prog w) A (call (.type "enumerate") [v]) Q E s := by
  refine callType_new F.called_enumerate (by decide) (F.typeCall_enumerate_1 _) (F.newCall_enumerate_1 _) (fun obj => F.args_object_init_2 obj _) F.entry_enumerate_new
    (meets_enum_newB B) ⟨h1, ?_⟩
  have hz : (s.heap.push o).objs.size = s.heap.objs.size + 1 := Heap.size_push ..
  show _ ∧ _
  rw [hz]
  have he : IsEnum ((s.heap.push o).push { cls := .type "enumerate", data := .fields #[.none, .bool false, .ref s.heap.objs.size, rawInt 0, .none, .none] }) (s.heap.objs.size + 1) s.heap.objs.size 0 .none := by
    have := Heap.get?_push_size (s.heap.push o) (o := { cls := .type "enumerate", data := .fields #[.none, .bool false, .ref s.heap.objs.size, rawInt 0, .none, .none] }) rfl
    rw [hz] at this; exact this
  refine ⟨⟨_, he, rfl⟩, h _ he (Heap.get?_push_of_some _ (Heap.get?_push_size _ B.free)) (by rw [Heap.size_push, hz]) fun b o x => Heap.get?_push_of_some _ (Heap.get?_push_of_some _ x)⟩
theorem pyNext_enum_endT {prog : Program} {w : World} {A : Around} {E : Value → Shared → Prop} {s : Shared} {e it l : Addr} {i : Nat} {items : Array Value} {old : Value} {Q : Option Value → Shared → Prop} (hh : A.handled = none)
    (he : IsEnum s.heap e it i old) (hit : s.heap.IsTupleIter it l i) (hl : s.heap.IsTuple l items) (hx : items[i]? = none)
    (hQ : ∀ h', Heap.ExtBut it s.heap h' → Q none { s with heap := h' }) : wpAny (model prog w) A (pyNext (.ref e)) Q E s := by
  have hT : s.TypeIs (.ref e) "enumerate" := ⟨_, he, rfl⟩
  unfold pyNext
  refine wpAny_bind (wpAny_attempt (wpAny_callSpecial?_slot (name := Str.ofString "__next__") hT F.slot_enumerate_next
    (wpAny_call_entry F.slot_enumerate_next hT F.entry_enumerate_next ?_ (F.args_enumerate_next_1 _))))
  show wpAny _ _ (field (.ref e) 2 >>= _) _ _ _
  refine wpAny_bind (wpAny_field he rfl (x := .ref it) rfl ?_)
  refine wpAny_bind (wpAny_nextOf_tuple_end hh hit hl hx fun h' x he' hx' => ?_)
  obtain ⟨o, ho, hc⟩ := hx'
  refine wpAny_bind (wpAny_isInstance (T := "StopIteration") (b := true) ⟨o, ho, hc⟩ isSubtype_stop ?_)
  exact wpAny_pure (hQ _ he')
/-- the tuple at a, each item in a new pair -/
def IteT (K : PySem.W.Frag) (a : Addr) : It :=
  ⟨fun i H => ∃ (xs : List V) (x : V), SqT K H a xs ∧ xs[i]? = some x, fun i H v H' => ∃ T x, v = .ref T ∧ H T = none ∧ H' = upd H T (.tup [.int (i : Nat), x]) ∧ ∀ xs, SqT K H a xs → xs[i]? = some x, fun i H => ∃ xs : List V, SqT K H a xs ∧ xs.length ≤ i⟩
theorem turn_enumT {P : Program} {w : World} {K : PySem.W.Frag} {elts : List Expr} {kk : Nat} {tpos : Pos} (a e it : Addr) :
    Turn P w K (.Tuple elts kk tpos) (IteT K a) [e, it] e (fun i h => (∃ old, IsEnum h e it ((i : Nat) : Int) old) ∧ h.IsTupleIter it a i ∧ e ≠ it) where
  mem := by simp
  obj := fun i h st b hb => by
    obtain ⟨⟨old, he⟩, ⟨o, ho, hc, hd⟩, _⟩ := st
    have e' : b = e ∨ b = it := by simpa using hb
    rcases e' with z | z
    · rw [z]; exact ⟨_, he, fun v q => nomatch q⟩
    · rw [z]; exact ⟨o, ho, fun v q => by rw [hd] at q; cases q⟩
  keep := fun i h h' st k => let ⟨⟨old, he⟩, hi, hne⟩ := st; ⟨⟨old, k e (by simp) _ he⟩, hi.at fun o q => k it (by simp) o q, hne⟩
  item := by
    intro X hP hw hK hc i pins s σ H E I hf st hg
    subst hP hw hK
    obtain ⟨⟨old, he⟩, hit, hne⟩ := st
    obtain ⟨xs, x, hq, hx⟩ := hg
    obtain ⟨its, rv, p, hz⟩ := I.tuple hq
    obtain ⟨u, hu, ru⟩ := rv.get hx
    have hel : e < s.heap.objs.size := Heap.lt_size he
    have hit0 := hit
    obtain ⟨oi, gi, _⟩ := hit
    obtain ⟨oa, ga, ca, _⟩ := id p
    have hai : a ≠ it := fun z => by
      subst z
      rw [ga] at gi
      cases gi
      obtain ⟨_, q, c, _⟩ := hit0
      rw [ga] at q
      cases q
      rw [ca] at c
      simp at c
    have hlt : i < its.toArray.size := by
      have := (List.getElem?_eq_some_iff.mp hu).1
      simpa using this
    have hea : e ≠ a := fun z => by
      subst z
      rw [he] at ga
      cases ga
      simp at ca
    refine wpAny_pyNext_enum_itemD (Draws.tuple (show X.A.in1.handled = none from I.ok.hd hc) it a hai its.toArray) he ⟨hit0, show s.heap.IsTuple a its.toArray from p⟩ hlt hne (by simp [hne, hea]) fun x' h' tk hx' ho hst' hT hsz hk => ?_
    have eu : x' = u := by
      rw [show its.toArray[i]? = some u by simpa using hu] at hx'
      exact (Option.some.inj hx').symm
    subst eu
    obtain ⟨hit', _⟩ := hst'
    refine ⟨_, rfl, wpAny_letOwnedTupleGo_enum (s := { s with heap := h', toks := tk + 1 }) ho fun h'' he' sb => ?_⟩
    have hT2 : h''.get? s.heap.objs.size = some { cls := .type "tuple", data := .seq #[.int i tk, x'] } := (sb.2 _ (Nat.ne_of_gt hel)).trans hT
    have new : ObjOk X.prog X.w (upd H s.heap.objs.size (.tup [.int (i : Nat), x])) h'' s.heap.objs.size (.tup [.int (i : Nat), x]) :=
      ⟨by show 2 ≤ sizeLine; decide, [.int i tk, x'], .cons ⟨_, rfl⟩ (.cons ru .nil), ⟨_, hT2, rfl, _, rfl⟩⟩
    have hil : it < s.heap.objs.size := by obtain ⟨_, q, _⟩ := hit0; exact Heap.lt_size q
    have I1 : Inv X pins σ (upd H s.heap.objs.size (.tup [.int (i : Nat), x])) { s with heap := h'', toks := tk + 1 } :=
      I.turnedNew (ch := [e, it]) (fun b ob hb q => (sb.2 b (fun z => hb (by simp [z]))).trans (hk b ob (fun z => hb (by simp [z])) (fun z => hb (by simp [z])) q)) hf (Nat.le_refl _) new
    refine ⟨.ref s.heap.objs.size, _, I1, rfl, ⟨_, x, rfl, I.hok.fresh (Nat.le_refl _), rfl, fun ys hy => by rw [I.tuple_inj hy hq]; exact hx⟩, ⟨⟨x', ?_⟩, hit'.at fun o q => (sb.2 it (Ne.symm hne)).trans q, hne⟩, fun b hb => ?_⟩
    · have e1 : ((i + 1 : Nat) : Int) = (i : Int) + 1 := by omega
      rw [e1]; exact he'
    · have hb' : b < s.heap.objs.size := by
        have e' : b = e ∨ b = it := by simpa using hb
        rcases e' with z | z
        · rw [z]; exact hel
        · rw [z]; exact hil
      rw [upd_ne (Nat.ne_of_lt hb')]
      exact (hf b hb).1
  done := by
    intro X hP hw hK hc i pins s σ H E I hf st hg
    subst hP hw hK
    obtain ⟨⟨old, he⟩, hit, hne⟩ := st
    obtain ⟨xs, hq, hx⟩ := hg
    obtain ⟨its, rv, p, hz⟩ := I.tuple hq
    obtain ⟨f0, f1, f2, f3, f4, f5⟩ := hf it (by simp)
    have hl := rv.length
    exact pyNext_enum_endT (I.ok.hd hc) he hit (show s.heap.IsTuple a its.toArray from p) (by simp; omega) fun h' eb => ⟨rfl, I.turned (t' := s.toks) (fun b o hb q => eb b o hb q) f0 f1 f3 f4 f5⟩
  self := fun A i s Q E st h => let ⟨⟨_, he⟩, _⟩ := st; wpAny_pyIter_enum he h
def iEnA (K : PySem.W.Frag) (ta : TA) : TI := fun σ H R => ta σ H fun vs H1 => ∃ a xs, vs = [.ref a] ∧ ((SqL K H1 a xs ∧ R (Ite K a) H1) ∨ (SqT K H1 a xs ∧ R (IteT K a) H1))
theorem pi_enA {X : Cx} {e : Expr} {ta : TA} {p pos tpos : Pos} {elts : List Expr} {kk : Nat} (hg : Gl X "enumerate") (hm : X.mg "enumerate" = none) (ha : PA X [e] ta) (hs : starEach [e] X.env = [(false, eval e X.env)] := by rfl) :
    PI X (.Tuple elts kk tpos) (.Call (.Name "enumerate" p) [e] [] pos) (iEnA X.K ta) := by
  refine ⟨fun pins s σ H R I h => ?_⟩
  refine Call_ (ld_blt I hg hm boot_enumerate (PyProof.Rows.callWith_type1 (thn (ha.run pos pins s σ H _ I h) fun us s1 ⟨vs, H1, I1, r1, q1⟩ => ?_) hs rfl))
  obtain ⟨a, xs, ex, q⟩ := q1
  subst ex
  cases r1 with
  | cons r rr =>
    cases rr
    cases r
    have fin : ∀ {h' : Heap} (hk : ∀ b o, s1.heap.get? b = some o → h'.get? b = some o), Inv X pins σ H1 { s1 with heap := h' } := fun hk => I1.kept (t' := s1.toks) hk
    have fp : ∀ b ∈ [s1.heap.objs.size + 1, s1.heap.objs.size], s1.heap.objs.size ≤ b := fun b hb => by
      have e' : b = s1.heap.objs.size + 1 ∨ b = s1.heap.objs.size := by simpa using hb
      rcases e' with z | z
      · rw [z]; exact Nat.le_add_right _ _
      · rw [z]; exact Nat.le_refl _
    rcases q with ⟨hq, q⟩ | ⟨hq, q⟩
    · obtain ⟨its, rv, p', hz⟩ := I1.list hq
      refine call_enumerate_list p'.isList fun h' he hit hsz hk => wpAny_pyIter_enum he ?_
      exact ⟨s1.heap.objs.size + 1, [s1.heap.objs.size + 1, s1.heap.objs.size], _, _, H1, rfl, fin hk, turn_enum a (s1.heap.objs.size + 1) s1.heap.objs.size, ⟨⟨.none, he⟩, hit, Nat.succ_ne_self _⟩, fun b hb => I1.fpOk (fp b hb) (I1.hok.fresh (fp b hb)), q⟩
    · obtain ⟨its, rv, p', hz⟩ := I1.tuple hq
      refine call_enum_B (begins_tuple a its.toArray) (show s1.heap.IsTuple a its.toArray from p') fun h' he hit hsz hk => wpAny_pyIter_enum he ?_
      exact ⟨s1.heap.objs.size + 1, [s1.heap.objs.size + 1, s1.heap.objs.size], _, _, H1, rfl, fin hk, turn_enumT a (s1.heap.objs.size + 1) s1.heap.objs.size, ⟨⟨.none, he⟩, ⟨_, hit, rfl, rfl⟩, Nat.succ_ne_self _⟩, fun b hb => I1.fpOk (fp b hb) (I1.hok.fresh (fp b hb)), q⟩
def iEnumA (f : FE) : FI := fun en => match f en with
  | none => none
  | some (en1, r) => match r.fz en1 with
    | none => none
    | some (en2, .tup ds) => some (en2, enumD 0 ds)
    | some (en2, d) => match d.litems with
      | none => none
      | some ds => some (en2, enumD 0 ds)
section
variable {X : Cx} {e : Expr} {f : FE} {p pos tpos : Pos} {elts : List Expr} {kk : Nat}
theorem si_enumA (hg : Gl X "enumerate") (hm : X.mg "enumerate" = none) (he : SE X e f) (hs : starEach [e] X.env = [(false, eval e X.env)] := by rfl) : SI X (.Tuple elts kk tpos) (.Call (.Name "enumerate" p) [e] [] pos) (iEnumA f) :=
  pi_imp (pi_enA hg hm (pa_cons he pa_nil hs) hs) fun σ H R q => by
    obtain ⟨F, en, L, en', ds, st, e, k⟩ := q
    unfold iEnumA at e
    split at e
    · cases e
    rename_i en1 r e1
    split at e
    · cases e
    · rename_i en2 ds' e2
      cases e
      refine ⟨F, en, L, en1, r, st, e1, fun v F1 H1 L1 Lr st1 rr nd x => ?_⟩
      obtain ⟨F2, L2, st2, rp, x2⟩ := rr.fz st1 nd e2
      simp only [Rep] at rp
      obtain ⟨a, vs, rfl, ha, hr⟩ := rp
      have hq : ∀ {G : Hp}, Same F2 G → SqT X.K G a vs := fun sg => seqT sg ha.1
      refine ⟨a, vs, rfl, .inr ⟨hq st2.sub, k _ F2 H1 L2 st2 (x.trans x2) fun i H2 s2 => ⟨fun hi => ⟨vs, hq s2, by rw [← hr.len, ← enumD_len ds' 0]; exact hi⟩, fun d hd => ?_⟩⟩⟩
      obtain ⟨y, g1, g2⟩ := enumD_get ds' 0 i d hd
      obtain ⟨z, h1, h2⟩ := reps_at hr g1
      refine ⟨⟨vs, z, hq s2, h1⟩, fun x H' hy => .inr ?_⟩
      obtain ⟨T, w, rfl, hT, rfl, hw⟩ := hy
      have hwz := hw vs (hq s2)
      rw [h1] at hwz
      cases hwz
      refine .inl ⟨T, _, hT, rfl, ?_⟩
      rw [g2]
      exact rep_tup s2 hT (by simp only [Reps]; exact ⟨rep_v (by simp [D.v]), h2, trivial⟩)
    rename_i en2 d _ e2
    split at e
    · cases e
    rename_i ds' e3
    cases e
    refine ⟨F, en, L, en1, r, st, e1, fun v F1 H1 L1 Lr st1 rr nd x => ?_⟩
    obtain ⟨F2, L2, st2, rp, x2⟩ := rr.fz st1 nd e2
    obtain ⟨a, vs, rfl, ha, hr⟩ := rep_litems rp e3
    refine ⟨a, vs, rfl, .inl ⟨st2.sub.seq ha, k _ F2 H1 L2 st2 (x.trans x2) fun i H2 s2 => ⟨fun hi => ⟨vs, s2.seq ha, by rw [← hr.len, ← enumD_len ds' 0]; exact hi⟩, fun d hd => ?_⟩⟩⟩
    obtain ⟨y, g1, g2⟩ := enumD_get ds' 0 i d hd
    obtain ⟨z, h1, h2⟩ := reps_at hr g1
    refine ⟨⟨vs, z, s2.seq ha, h1⟩, fun x H' hy => .inr ?_⟩
    obtain ⟨T, w, rfl, hT, rfl, hw⟩ := hy
    have hwz := hw vs (s2.seq ha)
    rw [h1] at hwz
    cases hwz
    refine .inl ⟨T, _, hT, rfl, ?_⟩
    rw [g2]
    exact rep_tup s2 hT (by simp only [Reps]; exact ⟨rep_v (by simp [D.v]), h2, trivial⟩)
end
end Pu
namespace Pu
variable [TabN]
open PySem PySem.Spec PyProof.Rows L2
def hasK {κ : Type} [DecidableEq κ] (ks : List κ) (k : κ) : Bool := ks.any fun z => decide (z = k)
def gDInB (neg : Bool) : En → List R → Option (En × R)
  | en, [r1, r2] => match r1.d en, r2.dT en with
    | some d, some (ks, _) => match d.tkey with
      | some k => some (en, .val (.sh (.bl (if neg then !hasK ks k else hasK ks k))))
      | none => none
    | _, _ => none
  | _, _ => none
section
variable {X : Cx} {o i : Expr} {fo fi : FE} {pos : Pos}
end
end Pu
namespace Pu
variable [TabN]
open PySem PySem.Spec PyProof.Rows L2
def gRepL : En → List R → Option (En × R)
  | en, [r1, r2] => match r2.d en with
    | some (.int k) => match r1.els en with
      | some (en', .l, ds) => if -(2 ^ 63) ≤ k ∧ k < 2 ^ 63 ∧ ds.length * k.toNat ≤ sizeLine then some (en', .val (.lst ((List.replicate k.toNat ds).flatten.map W.sh))) else none
      | _ => none
    | _ => none
  | _, _ => none
section
variable {K : PySem.W.Frag} {mg : Str → Option Value}
end
def gRepT : En → List R → Option (En × R)
  | en, [r1, r2] => match r2.d en with
    | some (.int k) => match r1.els en with
      | some (en', .t, ds) => if ds ≠ [] ∧ 2 ≤ k ∧ k ≤ 1000 ∧ ds.length ≤ 1000 then some (en', .val (.sh (.tup (List.replicate k.toNat ds).flatten))) else none
      | _ => none
    | _ => none
  | _, _ => none
section
variable {K : PySem.W.Frag} {mg : Str → Option Value}
end
def fMulL (fa fb : FE) : FE := fN (gOr (gS oMul) (gOr gRepL gRepT)) [fa, fb]
end Pu
namespace Pu
variable [TabN]
open PySem PySem.Spec PyProof.Rows L2
def fPureT (t : FT) : FT := fun en => match t (frzE en) with
  | some (_, b) => some (en, b)
  | none => none
section
variable {K : PySem.W.Frag} {mg : Str → Option Value} {F H : Hp}
theorem pureT_ok {f : FT} {σ : L2.St} {Q : Bool → Hp → Prop} (h : tT K mg (fPureT f) σ H Q) : tT K mg f σ H Q := by
  obtain ⟨F, en, L, en', b, st, e, k⟩ := h
  unfold fPureT at e
  split at e
  · rename_i en1 bb e1
    cases e
    refine ⟨noT H, frzE en, [], en1, _, ⟨noT_le, by simp, frz_own st.sub st.own, st.tb.noT st.sub⟩, e1, fun F' H' L' st' x => ?_⟩
    obtain ⟨stk, _, ex⟩ := keepT_st st x (Same.refl F') st'.sub st'.tb.no
    exact k (keepT F (noT H) F') H' L stk (ex _ fun a ha => .inl ha)
  · cases e
end
theorem st_pure {X : Cx} {e : Expr} {f : FT} (h : ST X e f) : ST X e (fPureT f) := pt_imp h fun _ _ _ q => pureT_ok q
end Pu
namespace Pu
variable [TabN]
open PySem PySem.Spec PyProof.Rows L2
def atomD : PyData → Option D
  | .str x => some (.str x)
  | .int i => some (.int i)
  | _ => none
def mmD (mx : Bool) (p : PyData) (ps : List PyData) : PyData := if mx then PySem.W.maxD p ps else PySem.W.minD p ps
def notNone (p : PyData) : Bool := match p with
  | .none => false
  | _ => true
def oMM (mx : Bool) (ds : List D) : Option D := match D.pys ds with
  | some (p :: ps) => if alikeB (p :: ps) && (p :: ps).all notNone && decide (PyData.depthAll (p :: ps) ≤ 60) then atomD (mmD mx p ps) else none
  | _ => none
def gMM (mx : Bool) : En → R → Option (En × R) := fun en r => match r.els en with
  | some (en', _, ds) => (match oMM mx ds with
    | some d => some (en', .val (.sh d))
    | none => none)
  | none => none
section
variable {X : Cx}
end
section
variable {K : PySem.W.Frag} {mg : Str → Option Value}
end
section
variable {X : Cx} {e : Expr} {f : FE} {p pos : Pos}
def fMin1 (f : FE) : FE := fU (gMM false) f
def fMax1 (f : FE) : FE := fU (gMM true) f
end
end Pu
namespace Pu
variable [TabN]
open PySem PySem.Spec PyProof.Rows L2
def ixV (y : V) : List V → Option Nat
  | [] => none
  | z :: zs => if eqV z y = true then some 0 else match ixV y zs with
    | some j => some (j + 1)
    | none => none
theorem ixV_ok {y : V} : ∀ {ys : List V} {j : Nat}, ixV y ys = some j → ∃ z, ys[j]? = some z ∧ eqV z y = true ∧ ∀ (m : Nat) (z' : V), m < j → ys[m]? = some z' → eqV z' y = false
  | [], j, h => by simp [ixV] at h
  | z :: zs, j, h => by
    unfold ixV at h
    split at h
    · rename_i hz
      cases h
      exact ⟨z, rfl, hz, fun m z' hm => by omega⟩
    · rename_i hz
      split at h
      · rename_i i e
        cases h
        obtain ⟨w, h1, h2, h3⟩ := ixV_ok e
        refine ⟨w, by simpa using h1, h2, fun m z' hm hm2 => ?_⟩
        cases m with
        | zero =>
          simp only [List.getElem?_cons_zero, Option.some.injEq] at hm2
          subst hm2
          simpa using hz
        | succ m => exact h3 m z' (by omega) (by simpa using hm2)
      · cases h
/-- the place of d among ds -/
def ixF (d : D) (ds : List D) : Option Nat := match d.fl, D.fls ds with
  | some p, some ps => if flatV p && ps.all flatV then ixV p ps else none
  | _, _ => none
def fIdx (fo : FE) (fa : En → Option D) : FE := fun en => match fo en with
  | none => none
  | some (en1, r) => match r.d en1 with
    | some (.lst ds) => match fa en1 with
      | some d => match ixF d ds with
        | some j => some (en1, .val (.sh (.int (j : Nat))))
        | none => none
      | none => none
    | _ => none
section
variable {X : Cx} {fo : FE} {fa : En → Option D}
theorem idx_ok {σ : L2.St} {H : Hp} {Q : VK} (q : tS X.K X.mg (fIdx fo fa) σ H Q) : tBM X.K "list" (rIndex X.K) (tS X.K X.mg fo) (tCons (tQ X.K X.mg fa) tNil) σ H Q := by
  obtain ⟨F, en, L, en', r', st, e, k⟩ := q
  unfold fIdx at e
  split at e
  · cases e
  rename_i en1 r e1
  split at e
  · rename_i ds ed
    split at e
    · rename_i d ea
      split at e
      · rename_i j ej
        cases e
        refine ⟨F, en, L, _, r, st, e1, fun v F1 H1 L1 Lr st1 rr nd x => ?_⟩
        have rp := rr.peek st1 ed
        simp only [Rep] at rp
        obtain ⟨a, vs, rfl, ha, hr⟩ := rp
        refine ⟨tyV_list ha rfl, F1, _, L1, d, st1, ea, fun v1 hv1 => ?_⟩
        unfold ixF at ej
        split at ej
        · rename_i p ps e2 e3
          split at ej
          · rename_i hc
            simp only [Bool.and_eq_true] at hc
            have ev := rep_fl (hv1.mono st1.sub) e2
            have es := reps_fl hr e3
            subst ev
            subst es
            obtain ⟨z, h1, h2, h3⟩ := ixV_ok ej
            exact ⟨a, _, _, j, z, rfl, rfl, SqL.of ha, hc.1, hc.2, h1, h2, h3, k _ F1 H1 L1 [] st1 (by simp only [RR]; exact own_sh (rep_v rfl)) (by simpa using st1.nd) (by simpa using x.trans (Ext.refl.mem (fun a h => h) fun a h => by simp [h]))⟩
          · cases ej
        · cases ej
      · cases e
    · cases e
  · cases e
variable {o e : Expr} {apos cpos : Pos}
theorem se_idx (ho : SE X o fo) (he : SQ X e fa) (hb : HBase X o "index" := by rfl) (hf : HFew X [e] cpos := by rfl) (hl : (apos.endLine == cpos.line) = true := by rfl) (hs : HStar X e := by rfl) : SE X (.Call (.Attribute o "index" apos) [e] [] cpos) (fIdx fo fa) :=
  pe_imp (pe_bm PySem.F.plainAttrs_list PySem.F.slot_list_index PySem.F.type_list_index mt_index ho (pa_cons he pa_nil hs) hb hf hl hs rfl) fun _ _ _ q => idx_ok q
end
end Pu
namespace Pu
variable [TabN]
open PySem PySem.Spec PyProof.Rows L2
def evS : List (Bool × FE) → En → Option (En × List D)
  | [], en => some (en, [])
  | (b, f) :: fs, en => match f en with
    | none => none
    | some (en1, r) => if b then (match r.els en1 with
        | none => none
        | some (en2, _, xs) => match evS fs en2 with
          | none => none
          | some (en3, ds) => some (en3, xs ++ ds)) else match r.fz en1 with
        | none => none
        | some (en2, d) => match evS fs en2 with
          | none => none
          | some (en3, ds) => some (en3, d :: ds)
section
variable {K : PySem.W.Frag} {mg : Str → Option Value}
end
def fLstS (fs : List (Bool × FE)) : FE := fun en => match evS fs en with
  | some (en', ds) => if ds.length ≤ sizeLine then some (en', .val (.lst (ds.map W.sh))) else none
  | none => none
def fTupS (fs : List (Bool × FE)) : FE := fun en => match evS fs en with
  | some (en', ds) => if ds.length ≤ sizeLine then some (en', .val (.sh (.tup ds))) else none
  | none => none
section
variable {X : Cx} {e : Expr} {es : List Expr} {f : FE} {fs : List (Bool × FE)} {p pos : Pos}
end
end Pu
namespace Pu
variable [TabN]
open PySem PySem.Spec PyProof.Rows L2
def oIsB : List D → Option D
  | [.bl a, .bl b] => some (.bl (decide (a = b)))
  | _ => none
def oNotB : List D → Option D
  | [.bl a, .bl b] => some (.bl (!decide (a = b)))
  | _ => none
section
variable {K : PySem.W.Frag} {mg : Str → Option Value}
end
section
variable {X : Cx} {a b : Expr} {fa fb : FE} {pos : Pos}
end
end Pu
namespace Pu
variable [TabN]
open PySem PySem.Spec PyProof.Rows L2
def cIn (vs1 : List Nat) (g1 : FG) (t1 : FT) (f : FE) (eo : En) : List D → List D → Option (List D)
  | [], acc => some acc
  | d :: ds, acc => match g1 (wipeE eo vs1) (.sh d) with
    | none => none
    | some e1 => if e1.length = eo.length ∧ e1.all W.isSh = true then (match t1 e1 with
      | none => none
      | some (_, false) => cIn vs1 g1 t1 f eo ds acc
      | some (_, true) => match f e1 with
        | some (_, .val (.sh y)) => if acc.length < sizeLine then cIn vs1 g1 t1 f eo ds (acc ++ [y]) else none
        | _ => none) else none
def cOut (vs vs1 : List Nat) (g : FG) (t : FT) (fi1 : FI) (g1 : FG) (t1 : FT) (f : FE) (en : En) : List D → List D → Option (List D)
  | [], acc => some acc
  | d :: ds, acc => match g (wipeE en vs) (.sh d) with
    | none => none
    | some eo => if eo.length = en.length ∧ eo.all W.isSh = true then (match t eo with
      | none => none
      | some (_, false) => cOut vs vs1 g t fi1 g1 t1 f en ds acc
      | some (_, true) => match fi1 eo with
        | none => none
        | some (_, ds1) => match cIn vs1 g1 t1 f eo ds1 acc with
          | none => none
          | some acc' => cOut vs vs1 g t fi1 g1 t1 f en ds acc') else none
def fC2 (vs vs1 : List Nat) (fi : FI) (g : FG) (t : FT) (fi1 : FI) (g1 : FG) (t1 : FT) (f : FE) : FE := fun en =>
  if en.all W.isSh = true ∧ (∀ k ∈ vs, k < en.length) ∧ ∀ k ∈ vs1, k < en.length then (match fi en with
  | none => none
  | some (_, ds) => match cOut vs vs1 g t fi1 g1 t1 f en ds [] with
    | none => none
    | some ys => some (en, .val (.lst (ys.map W.sh)))) else none
section
variable {K : PySem.W.Frag} {mg : Str → Option Value} {F H : Hp}
theorem StOk.again {σ : L2.St} {en : En} {F' H' : Hp} {L' : List Addr} (st : StOk K mg F H σ en []) (x : Ext F H [] F' H' L') (s : Same F' H') (t : TbOk F' H') : StOk K mg F' H' σ en [] :=
  ⟨s, List.nodup_nil, st.own.stay ⟨x.sub, fun b hb => by (cases hb), fun b hb => by (cases hb)⟩, t⟩
theorem keepD {Dd : Addr} {acc : List V} {F' H' : Hp} {L' : List Addr} (x : Ext F H [] F' H' L') (h1 : H Dd = some (.lst acc)) (h2 : F Dd = none) : H' Dd = some (.lst acc) ∧ F' Dd = none := by
  refine ⟨x.kept Dd _ h1 (by simp) (by intro ps z; cases z), ?_⟩
  cases e : F' Dd with
  | none => rfl
  | some o =>
    rcases x.newF Dd (by rw [e]; simp) with z | z | z | ⟨vs, z⟩
    · exact absurd h2 z
    · cases z
    · rw [h1] at z; cases z
    · rw [h1] at z; cases z
/-- the state between two turns -/
structure CI (K : PySem.W.Frag) (mg : Str → Option Value) (F1 H1 : Hp) (Dd : Addr) (σ : L2.St) (en : En) (F H : Hp) (acc : List V) (wacc : List D) : Prop where
  st : StOk K mg F H σ en []
  hd : H Dd = some (.lst acc)
  fd : F Dd = none
  rp : Reps K mg F wacc acc
  x : Ext F1 H1 [] F H [Dd]
theorem CI.go {F1 H1 F' H' : Hp} {Dd : Addr} {σ : L2.St} {en : En} {acc : List V} {wacc : List D} {L' : List Addr} (c : CI K mg F1 H1 Dd σ en F H acc wacc) (x : Ext F H [] F' H' L') (s : Same F' H') (t : TbOk F' H') : CI K mg F1 H1 Dd σ en F' H' acc wacc := by
  obtain ⟨a, b⟩ := keepD x c.hd c.fd
  have y : Ext F H [] F' H' [] := x.mem (fun a h => h) fun a h => by cases h
  exact ⟨c.st.again x s t, a, b, c.rp.mono x.sub, c.x.trans (y.frame [Dd])⟩
theorem upd_st {Dd : Addr} {σ : L2.St} {en : En} {o : HO} (st : StOk K mg F H σ en []) (fd : F Dd = none) (nt : ∀ ps, H Dd ≠ some (.tbl ps)) : StOk K mg F (upd H Dd o) σ en [] := by
  refine ⟨fun b u e => ?_, List.nodup_nil, st.own.stay ⟨Same.refl F, fun b hb => by (cases hb), fun b hb => by (cases hb)⟩, st.tb.upd nt⟩
  by_cases z : b = Dd
  · subst z; rw [fd] at e; cases e
  · rw [upd_ne z]
    exact st.sub b u e
theorem CI.add {F1 H1 : Hp} {Dd : Addr} {σ : L2.St} {en : En} {acc : List V} {wacc : List D} {y : D} {v : V} (c : CI K mg F1 H1 Dd σ en F H acc wacc) (r : Rep K mg F y v) : CI K mg F1 H1 Dd σ en F (upd H Dd (.lst (acc ++ [v]))) (acc ++ [v]) (wacc ++ [y]) := by
  have hd := c.hd
  have nt : ∀ ps, H Dd ≠ some (.tbl ps) := fun ps z => by rw [hd] at z; cases z
  refine ⟨upd_st c.st c.fd nt, upd_same, c.fd, c.rp.append (by simp only [Reps]; exact ⟨r, trivial⟩), c.x.trans (Ext.of (fun b u eb nb => ?_) (tbl_upd nt) (fun b eb => ?_) (Same.refl F) (fun b eb => .inl eb) (fun b hb => .inl hb))⟩
  · rw [upd_ne (fun z => nb (by simp [z]))]
    exact eb
  · by_cases z : b = Dd
    · subst z; rw [upd_same]; simp
    · rw [upd_ne z]; exact eb
end
section
variable {X : Cx}
end
section
variable {X : Cx} {elt tg iter tg1 iter1 : Expr} {ifs ifs1 : List Expr} {scope : Scope} {own : List (Str × Nat)} {vs1 : List Nat} {pos : Pos} {fi fi1 : FI} {g g1 : FG} {t t1 : FT} {f : FE}
end
end Pu
namespace Pu
variable [TabN]
open PySem PySem.Spec PyProof.Rows L2
instance memKey (k : Key) (ks : List Key) : Decidable (k ∈ ks) := @List.instDecidableMemOfLawfulBEq Key instBEqOfDecidableEq inferInstance k ks
def kofV : Value → Key
  | .int i _ => .inl i
  | .str x _ => .inr x
  | _ => .inl 0
def kofE (e : Int × Value) : Key := kofV e.2
def GoodK (w : World) (e : Int × Value) : Prop := ∃ k, RelV (kV k) e.2 ∧ e.1 = keyH w k
/-- a set of keys at a: what is in it, how many, and that it can be walked -/
def SetM (w : World) (h : Heap) (a : Addr) (S : Key → Bool) (n : Nat) : Prop :=
  ∃ o es ep t, h.get? a = some o ∧ o.ExactSet ∧ o.data = .set es ep t ∧ (∀ e ∈ es.toList, GoodK w e) ∧ (es.toList.map kofE).Nodup ∧ (∀ k, S k = true ↔ k ∈ es.toList.map kofE) ∧
    es.size < scanBound ∧ t.fits es.size = true ∧ es.size = n ∧ Ris t.place.toList ∧ (w.params.followText "set-order" = true ∨ t.led = true)
section
variable {P : Program} {w : World} {h h' : Heap} {a : Addr} {S : Key → Bool} {n : Nat}
theorem SetM.at (x : SetM w h a S n) (k : ∀ o, h.get? a = some o → h'.get? a = some o) : SetM w h' a S n := by
  obtain ⟨o, es, ep, t, ho, y⟩ := x
  exact ⟨o, es, ep, t, k o ho, y⟩
theorem SetM.congr {S' : Key → Bool} (x : SetM w h a S n) (e : ∀ k, S' k = S k) : SetM w h a S' n := (funext e : S' = S) ▸ x
end
section
variable {P : Program} {w : World} {A : Around} {E : Value → Shared → Prop} {s : Shared} {a : Addr} {S : Key → Bool} {n : Nat}
end
end Pu
namespace Pu
variable [TabN]
open PySem PySem.Spec PyProof.Rows L2
section
variable {P : Program} {w : World} {A : Around} {E : Value → Shared → Prop} {s : Shared}
end
def ddK : List Key → List Key
  | [] => []
  | k :: ks => if k ∈ ks then ddK ks else k :: ddK ks
def dkey : D → Option Key
  | .int i => some (.inl i)
  | .str x => some (.inr x)
  | _ => none
def dkeys : List D → Option (List Key)
  | [] => some []
  | d :: ds => match dkey d, dkeys ds with
    | some k, some ks => some (k :: ks)
    | _, _ => none
theorem dkeys_map : ∀ {ds : List D} {ks : List Key}, dkeys ds = some ks → ds = ks.map keyD
  | [], ks, h => by cases h; rfl
  | d :: ds, ks, h => by
    simp only [dkeys] at h
    split at h
    · rename_i k ks' h1 h2
      cases h
      rw [List.map_cons, ← dkeys_map h2]
      cases d <;> simp only [dkey, Option.some.injEq, reduceCtorEq] at h1 <;> subst h1 <;> rfl
    · cases h
theorem reps_kV {K : PySem.W.Frag} {mg : Str → Option Value} {F : Hp} : ∀ {ks : List Key} {vs : List V}, Reps K mg F (ks.map keyD) vs → vs = ks.map kV
  | [], [], _ => rfl
  | k :: ks, v :: vs, h => by
    simp only [List.map_cons, Reps] at h
    rw [List.map_cons, ← reps_kV h.2]
    cases k <;> simp only [keyD, Rep] at h <;> rw [h.1] <;> rfl
  | [], _ :: _, h => by simp only [List.map_nil, Reps] at h
  | _ :: _, [], h => by simp only [List.map_cons, Reps] at h
def kPy : Key → PyData
  | .inl i => .int i
  | .inr x => .str x
end Pu
namespace Pu
variable [TabN]
open PySem PySem.Spec PyProof.Rows L2
section
variable {P : Program} {w : World} {A : Around} {E : Value → Shared → Prop} {s : Shared} {a : Addr} {S : Key → Bool} {n : Nat}
end
section
variable {X : Cx} {e : Expr} {te : TE} {p p2 q pos : Pos}
end
def gLenSet : En → R → Option (En × R) := fun en r => match r.els en with
  | some (en', _, ds) => (match dkeys ds with
    | some ks => if ks.length < 4000 then some (en', .val (.sh (.int (ddK ks).length))) else none
    | none => none)
  | none => none
def gSortSet : En → R → Option (En × R) := fun en r => match r.els en with
  | some (en', _, ds) => (match dkeys ds with
    | some ks => if ks.length < 4000 ∧ alikeB ((ddK ks).map kPy) = true then some (en', .val (.lst ((srt leD ((ddK ks).map keyD)).map W.sh))) else none
    | none => none)
  | none => none
section
variable {K : PySem.W.Frag} {mg : Str → Option Value}
end
section
variable {X : Cx} {e : Expr} {f : FE} {p p2 q pos : Pos}
def fLenSet (f : FE) : FE := fU gLenSet f
def fSortSet (f : FE) : FE := fU gSortSet f
end
end Pu
namespace Pu
variable [TabN]
open PySem PySem.Spec PyProof.Rows L2
mutual
def pyD : PyData → Option D
  | .none => some .non
  | .bool b => some (.bl b)
  | .int i => some (.int i)
  | .str x => some (.str x)
  | .tuple ps => match pyDs ps with
    | some ds => some (.tup ds)
    | none => none
  | _ => none
def pyDs : List PyData → Option (List D)
  | [] => some []
  | p :: ps => match pyD p, pyDs ps with
    | some d, some ds => some (d :: ds)
    | _, _ => none
end
mutual
def tdB : D → Bool
  | .non => true
  | .bl _ => true
  | .int _ => true
  | .str _ => true
  | .tup ds => tdBs ds
  | _ => false
def tdBs : List D → Bool
  | [] => true
  | d :: ds => tdB d && tdBs ds
end
def oMX (mx : Bool) (ds : List D) : Option D := match D.pys ds with
  | some (p :: ps) => if alikeB (p :: ps) && (p :: ps).all notNone && decide (PyData.depthAll (p :: ps) ≤ 60) && tdBs ds then pyD (mmD mx p ps) else none
  | _ => none
def gMX (mx : Bool) : En → R → Option (En × R) := fun en r => match r.els en with
  | some (en', _, ds) => (match oMX mx ds with
    | some d => some (en', .val (.sh d))
    | none => none)
  | none => none
section
variable {X : Cx}
end
section
variable {K : PySem.W.Frag} {mg : Str → Option Value}
end
section
variable {X : Cx} {e : Expr} {f : FE} {p pos : Pos}
def fMinX (f : FE) : FE := fU (gMX false) f
def fMaxX (f : FE) : FE := fU (gMX true) f
end
end Pu
namespace Pu
variable [TabN]
open PySem PySem.Spec PyProof.Rows L2
def fz (ρ : List D) : En := ρ.map W.sh
theorem frzE_fz (en : En) : frzE en = fz (en.map W.d) := by simp [frzE, fz]
theorem frz_fz (ρ : List D) : frzE (fz ρ) = fz ρ := by simp [frzE, fz, W.d, Function.comp_def]
theorem fz_d (ρ : List D) : (fz ρ).map W.d = ρ := by
  induction ρ with
  | nil => rfl
  | cons x xs ih => simp only [fz, List.map_cons, W.d] at ih ⊢; rw [ih]
theorem fz_len (ρ : List D) : (fz ρ).length = ρ.length := by simp [fz]
theorem fz_get (ρ : List D) (i : Nat) : (fz ρ)[i]? = (ρ[i]?).map W.sh := by simp [fz]
class Fz (f : FE) : Prop where
  ok : ∀ {ρ en' r}, f (fz ρ) = some (en', r) → en' = fz ρ ∧ ∃ w, r = .val w
class FzT (t : FT) : Prop where
  ok : ∀ {ρ en' b}, t (fz ρ) = some (en', b) → en' = fz ρ
class FzI (fi : FI) : Prop where
  ok : ∀ {ρ en' ds}, fi (fz ρ) = some (en', ds) → en' = fz ρ
def Pw (f : FE) (ρ : List D) : Option W := match f (fz ρ) with
  | some (_, .val w) => some w
  | _ => none
def P (f : FE) (ρ : List D) : Option D := (Pw f ρ).map W.d
def PT (t : FT) (ρ : List D) : Option Bool := (t (fz ρ)).map (·.2)
def PI (fi : FI) (ρ : List D) : Option (List D) := (fi (fz ρ)).map (·.2)
def PLw (fs : List FE) (ρ : List D) : Option (List W) := match fs with
  | [] => some []
  | f :: fs => (Pw f ρ).bind fun w => (PLw fs ρ).map fun ws => w :: ws
def PL (fs : List FE) (ρ : List D) : Option (List D) := (PLw fs ρ).map W.ds
theorem Fz.eq (f : FE) [h : Fz f] (ρ : List D) : f (fz ρ) = (Pw f ρ).map fun w => (fz ρ, R.val w) := by
  cases e : f (fz ρ) with
  | none => simp [Pw, e]
  | some x =>
    obtain ⟨en', r⟩ := x
    obtain ⟨rfl, w, rfl⟩ := h.ok e
    simp [Pw, e]
theorem Fz.mk' {f : FE} (h : ∀ ρ, ∃ o : Option W, f (fz ρ) = o.map fun w => (fz ρ, R.val w)) : Fz f := ⟨fun {ρ en' r} e => by
  obtain ⟨o, ho⟩ := h ρ
  rw [ho] at e
  cases o with
  | none => cases e
  | some w => cases e; exact ⟨rfl, w, rfl⟩⟩
theorem Pw_of {f : FE} {ρ : List D} {o : Option W} (h : f (fz ρ) = o.map fun w => (fz ρ, R.val w)) : Pw f ρ = o := by
  cases o <;> simp [Pw, h]
theorem FzT.eq (t : FT) [h : FzT t] (ρ : List D) : t (fz ρ) = (PT t ρ).map fun b => (fz ρ, b) := by
  cases e : t (fz ρ) with
  | none => simp [PT, e]
  | some x =>
    obtain ⟨en', b⟩ := x
    cases h.ok e
    simp [PT, e]
theorem FzT.mk' {t : FT} (h : ∀ ρ, ∃ o : Option Bool, t (fz ρ) = o.map fun w => (fz ρ, w)) : FzT t := ⟨fun {ρ en' r} e => by
  obtain ⟨o, ho⟩ := h ρ
  rw [ho] at e
  cases o with
  | none => cases e
  | some w => cases e; rfl⟩
theorem PT_of {f : FT} {ρ : List D} {o : Option Bool} (h : f (fz ρ) = o.map fun w => (fz ρ, w)) : PT f ρ = o := by
  cases o <;> simp [PT, h]
theorem FzI.eq (t : FI) [h : FzI t] (ρ : List D) : t (fz ρ) = (PI t ρ).map fun b => (fz ρ, b) := by
  cases e : t (fz ρ) with
  | none => simp [PI, e]
  | some x =>
    obtain ⟨en', b⟩ := x
    cases h.ok e
    simp [PI, e]
theorem FzI.mk' {t : FI} (h : ∀ ρ, ∃ o : Option (List D), t (fz ρ) = o.map fun w => (fz ρ, w)) : FzI t := ⟨fun {ρ en' r} e => by
  obtain ⟨o, ho⟩ := h ρ
  rw [ho] at e
  cases o with
  | none => cases e
  | some w => cases e; rfl⟩
theorem PI_of {f : FI} {ρ : List D} {o : Option (List D)} (h : f (fz ρ) = o.map fun w => (fz ρ, w)) : PI f ρ = o := by
  cases o <;> simp [PI, h]
theorem evs_fz : ∀ (fs : List FE) (h : ∀ f ∈ fs, Fz f) (ρ : List D), evs fs (fz ρ) = (PLw fs ρ).map fun ws => (fz ρ, ws.map R.val)
  | [], _, ρ => rfl
  | f :: fs, h, ρ => by
    have h1 : Fz f := h f (by simp)
    have ih := evs_fz fs (fun g hg => h g (by simp [hg])) ρ
    simp only [evs, Fz.eq f ρ, PLw]
    cases Pw f ρ with
    | none => rfl
    | some w =>
      simp only [Option.map_some, R.st, ih, Option.bind_some]
      cases PLw fs ρ <;> rfl
class FzLs (fs : List FE) : Prop where
  all : ∀ f ∈ fs, Fz f
instance : FzLs [] := ⟨fun _ h => by cases h⟩
instance {f : FE} {fs : List FE} [h : Fz f] [hs : FzLs fs] : FzLs (f :: fs) := ⟨fun g hg => by
  rcases List.mem_cons.mp hg with rfl | hg
  · exact h
  · exact hs.all g hg⟩
theorem FzLs.eq (fs : List FE) [h : FzLs fs] (ρ : List D) : evs fs (fz ρ) = (PLw fs ρ).map fun ws => (fz ρ, ws.map R.val) := evs_fz fs h.all ρ
theorem PL_nil {ρ : List D} : PL [] ρ = some [] := rfl
theorem PL_cons {f : FE} {fs : List FE} {ρ : List D} : PL (f :: fs) ρ = (P f ρ).bind fun d => (PL fs ρ).bind fun ds => some (d :: ds) := by
  unfold PL P
  simp only [PLw]
  cases Pw f ρ with
  | none => rfl
  | some w =>
    simp only [Option.bind_some, Option.map_some]
    cases PLw fs ρ <;> rfl
theorem rds_val (en : En) : ∀ ws : List W, rds en (ws.map R.val) = some (W.ds ws)
  | [] => rfl
  | w :: ws => by simp only [List.map_cons, rds, R.d, rds_val en ws, W.ds]
theorem rfz_val (en : En) : ∀ ws : List W, rfz en (ws.map R.val) = some (en, W.ds ws)
  | [] => rfl
  | w :: ws => by simp only [List.map_cons, rfz, R.fz, rfz_val en ws, W.ds]
theorem rtk_val (en : En) : ∀ ws : List W, rtk en (ws.map R.val) = some (en, ws)
  | [] => rfl
  | w :: ws => by simp only [List.map_cons, rtk, R.tk, rtk_val en ws]
theorem els_val (en : En) (w : W) : R.els en (.val w) = (w.d.its).map fun x => (en, x.1, x.2) := by
  cases w with
  | sh d => simp only [R.els, W.d]; cases d.its <;> rfl
  | lst ws => simp [R.els, W.d, D.its]
  | dT ks ds => simp [R.els, W.d, D.its]
  | dK ks ds => simp [R.els, W.d, D.its]
  | ins c ws => simp [R.els, W.d, D.its]
def D.dTq : D → Option (List (List Key) × List D)
  | .dT ks ds => some (ks, ds)
  | .lT ks ds => some (ks, ds)
  | _ => none
theorem dT_val (en : En) (w : W) : R.dT en (.val w) = w.d.dTq := by
  cases w with
  | sh d => cases d <;> rfl
  | _ => rfl
class OpP (g : En → List R → Option (En × R)) (op : outParam (List D → Option D)) : Prop where
  ok : ∀ en ws, ∃ o : Option W, g en (ws.map R.val) = o.map (fun w => (en, R.val w)) ∧ o.map W.d = op (W.ds ws)
theorem fN_fz {g : En → List R → Option (En × R)} {op : List D → Option D} {fs : List FE} [h : OpP g op] [hs : FzLs fs] (ρ : List D) : ∃ o : Option W, fN g fs (fz ρ) = o.map (fun w => (fz ρ, R.val w)) ∧ o.map W.d = (PL fs ρ).bind op := by
  unfold fN PL
  rw [FzLs.eq fs ρ]
  cases PLw fs ρ with
  | none => exact ⟨none, rfl, rfl⟩
  | some ws =>
    obtain ⟨o, h1, h2⟩ := h.ok (fz ρ) ws
    exact ⟨o, h1, h2⟩
instance {g : En → List R → Option (En × R)} {op : List D → Option D} {fs : List FE} [h : OpP g op] [hs : FzLs fs] : Fz (fN g fs) := Fz.mk' fun ρ => by
  obtain ⟨o, h1, _⟩ := fN_fz (g := g) (fs := fs) ρ
  exact ⟨o, h1⟩
theorem P_fN {g : En → List R → Option (En × R)} {op : List D → Option D} {fs : List FE} {ρ : List D} [h : OpP g op] [hs : FzLs fs] : P (fN g fs) ρ = (PL fs ρ).bind op := by
  obtain ⟨o, h1, h2⟩ := fN_fz (g := g) (fs := fs) ρ
  rw [P, Pw_of h1, h2]
theorem ds_len (ws : List W) : (W.ds ws).length = ws.length := by rw [ds_map]; simp
instance {op : List D → Option D} : OpP (gS op) op := ⟨fun en ws => by
  simp only [gS, rds_val]
  cases e : op (W.ds ws) with
  | none => exact ⟨none, rfl, rfl⟩
  | some d => exact ⟨some (.sh d), rfl, rfl⟩⟩
def por (p q : List D → Option D) : List D → Option D := fun ds => match p ds with
  | some d => some d
  | none => q ds
instance {g g' : En → List R → Option (En × R)} {p q : List D → Option D} [h : OpP g p] [h' : OpP g' q] : OpP (gOr g g') (por p q) := ⟨fun en ws => by
  obtain ⟨o, h1, h2⟩ := h.ok en ws
  obtain ⟨o', h3, h4⟩ := h'.ok en ws
  unfold gOr por
  cases o with
  | none =>
    simp only [Option.map_none] at h1 h2
    rw [h1, ← h2]
    exact ⟨o', h3, h4⟩
  | some w =>
    simp only [Option.map_some] at h1 h2
    rw [h1, ← h2]
    exact ⟨some w, rfl, rfl⟩⟩
def pTup (ds : List D) : Option D := if ds.length ≤ sizeLine then some (.tup ds) else none
def pLst (ds : List D) : Option D := if ds.length ≤ sizeLine then some (.lst ds) else none
instance : OpP gTupD pTup := ⟨fun en ws => by
  simp only [gTupD, rfz_val, pTup]
  split
  · exact ⟨some (.sh (.tup (W.ds ws))), rfl, rfl⟩
  · exact ⟨none, rfl, rfl⟩⟩
instance : OpP gLstD pLst := ⟨fun en ws => by
  simp only [gLstD, rtk_val, pLst, ds_len]
  split
  · exact ⟨some (.lst ws), rfl, rfl⟩
  · exact ⟨none, rfl, rfl⟩⟩
theorem two_or {ws : List W} : (∃ a b, ws = [a, b]) ∨ ∀ a b, ws ≠ [a, b] := by
  match ws with
  | [] => right; intro a b h; cases h
  | [a] => right; intro a b h; cases h
  | [a, b] => left; exact ⟨a, b, rfl⟩
  | a :: b :: c :: ws => right; intro a b h; cases h
theorem OpP.of2 {g : En → List R → Option (En × R)} {op : List D → Option D} (h0 : ∀ en rs, (∀ a b, rs ≠ [a, b]) → g en rs = none) (h1 : ∀ ds, (∀ a b, ds ≠ [a, b]) → op ds = none) (h : ∀ en a b, ∃ o : Option W, g en [.val a, .val b] = o.map (fun w => (en, R.val w)) ∧ o.map W.d = op [a.d, b.d]) : OpP g op := ⟨fun en ws => by
  rcases two_or (ws := ws) with ⟨a, b, rfl⟩ | hn
  · exact h en a b
  · refine ⟨none, h0 _ _ fun a b e => ?_, (h1 _ fun a b e => ?_).symm⟩
    · match ws, e with
      | [x, y], _ => exact hn x y rfl
    · match ws, e with
      | [x, y], _ => exact hn x y rfl⟩
def pCatL : List D → Option D
  | [a, b] => match a.its, b.its with
    | some (.l, ds1), some (.l, ds2) => if ds1.length + ds2.length ≤ sizeLine then some (.lst (ds1 ++ ds2)) else none
    | _, _ => none
  | _ => none
def pCatT : List D → Option D
  | [a, b] => match a.its, b.its with
    | some (.t, ds1), some (.t, ds2) => if ds1.length + ds2.length ≤ sizeLine then some (.tup (ds1 ++ ds2)) else none
    | _, _ => none
  | _ => none
theorem els2_val (en : En) (a b : W) : els2 en (.val a) (.val b) = match a.d.its, b.d.its with
    | some x, some y => some (en, x, y)
    | _, _ => none := by
  unfold els2
  rw [els_val]
  cases h1 : a.d.its with
  | none => rfl
  | some x =>
    simp only [Option.map_some, els_val]
    cases h2 : b.d.its <;> rfl
theorem sh_ds (ds : List D) : W.ds (ds.map W.sh) = ds := by rw [ds_map]; simp [W.d, Function.comp_def]
instance : OpP gCatL pCatL := OpP.of2 (fun en rs h => by
    match rs, h with
    | [], _ => rfl
    | [_], _ => rfl
    | [a, b], h => exact absurd rfl (h a b)
    | _ :: _ :: _ :: _, _ => rfl) (fun ds h => by
    match ds, h with
    | [], _ => rfl
    | [_], _ => rfl
    | [a, b], h => exact absurd rfl (h a b)
    | _ :: _ :: _ :: _, _ => rfl) fun en a b => by
  simp only [gCatL, els2_val, pCatL]
  cases h1 : a.d.its with
  | none => exact ⟨none, rfl, rfl⟩
  | some x =>
    cases h2 : b.d.its with
    | none => exact ⟨none, by rfl, by obtain ⟨k, ds⟩ := x; cases k <;> rfl⟩
    | some y =>
      obtain ⟨k, ds⟩ := x
      obtain ⟨k2, ds2⟩ := y
      cases k <;> cases k2 <;> first
        | exact ⟨none, rfl, rfl⟩
        | (simp only
           split
           · exact ⟨some (.lst ((ds ++ ds2).map W.sh)), rfl, by simp only [Option.map_some, W.d, sh_ds]⟩
           · exact ⟨none, rfl, rfl⟩)
instance : OpP gCatT pCatT := OpP.of2 (fun en rs h => by
    match rs, h with
    | [], _ => rfl
    | [_], _ => rfl
    | [a, b], h => exact absurd rfl (h a b)
    | _ :: _ :: _ :: _, _ => rfl) (fun ds h => by
    match ds, h with
    | [], _ => rfl
    | [_], _ => rfl
    | [a, b], h => exact absurd rfl (h a b)
    | _ :: _ :: _ :: _, _ => rfl) fun en a b => by
  simp only [gCatT, els2_val, pCatT]
  cases h1 : a.d.its with
  | none => exact ⟨none, rfl, rfl⟩
  | some x =>
    cases h2 : b.d.its with
    | none => exact ⟨none, by rfl, by obtain ⟨k, ds⟩ := x; cases k <;> rfl⟩
    | some y =>
      obtain ⟨k, ds⟩ := x
      obtain ⟨k2, ds2⟩ := y
      cases k <;> cases k2 <;> first
        | exact ⟨none, rfl, rfl⟩
        | (simp only
           split
           · exact ⟨some (.sh (.tup (ds ++ ds2))), rfl, rfl⟩
           · exact ⟨none, rfl, rfl⟩)
def pIx : List D → Option D
  | [a, .int k] => oIxD a k
  | _ => none
theorem atI_ds (ws : List W) (k : Int) : (atI ws k).map W.d = atI (W.ds ws) k := by
  unfold atI
  rw [ds_len]
  cases ixN ws.length k with
  | none => rfl
  | some j => simp only [ds_map, List.getElem?_map, Option.bind_some]
instance : OpP gIx pIx := OpP.of2 (fun en rs h => by
    match rs, h with
    | [], _ => rfl
    | [_], _ => rfl
    | [a, b], h => exact absurd rfl (h a b)
    | _ :: _ :: _ :: _, _ => rfl) (fun ds h => by
    match ds, h with
    | [], _ => rfl
    | [_], _ => rfl
    | [a, b], h => exact absurd rfl (h a b)
    | _ :: _ :: _ :: _, _ => simp only [pIx]) fun en a b => by
  simp only [gIx, R.d, pIx]
  cases hb : b.d with
  | int k =>
    cases a with
    | sh d =>
      simp only [W.d]
      cases oIxD d k with
      | none => exact ⟨none, rfl, rfl⟩
      | some x => exact ⟨some (.sh x), rfl, rfl⟩
    | lst ws =>
      have := atI_ds ws k
      simp only [W.d, oIxD]
      rw [← this]
      cases atI ws k with
      | none => exact ⟨none, rfl, rfl⟩
      | some x => exact ⟨some x, rfl, rfl⟩
    | dT ks ds => exact ⟨none, rfl, rfl⟩
    | dK ks ds => exact ⟨none, rfl, rfl⟩
    | ins c ws => exact ⟨none, rfl, rfl⟩
  | _ => exact ⟨none, rfl, rfl⟩
def pDGet : List D → Option D
  | [a, b] => a.dTq.bind fun x => b.tkey.bind fun k => lookD x.1 x.2 k
  | _ => none
instance : OpP gDGet pDGet := OpP.of2 (fun en rs h => by
    match rs, h with
    | [], _ => rfl
    | [_], _ => rfl
    | [a, b], h => exact absurd rfl (h a b)
    | _ :: _ :: _ :: _, _ => rfl) (fun ds h => by
    match ds, h with
    | [], _ => rfl
    | [_], _ => rfl
    | [a, b], h => exact absurd rfl (h a b)
    | _ :: _ :: _ :: _, _ => rfl) fun en a b => by
  simp only [gDGet, dT_val, R.d, pDGet]
  cases h1 : a.d.dTq with
  | none => exact ⟨none, rfl, rfl⟩
  | some x =>
    obtain ⟨ks, ds⟩ := x
    simp only [Option.bind_some]
    cases h2 : b.d.tkey with
    | none => exact ⟨none, rfl, rfl⟩
    | some k =>
      simp only [Option.bind_some]
      cases h3 : lookD ks ds k with
      | none => exact ⟨none, rfl, rfl⟩
      | some y => exact ⟨some (.sh y), rfl, rfl⟩
def pDIn (neg : Bool) : List D → Option D
  | [a, b] => b.dTq.bind fun x => a.tkey.bind fun k => some (.bl (if neg then !hasK x.1 k else hasK x.1 k))
  | _ => none
instance {neg : Bool} : OpP (gDInB neg) (pDIn neg) := OpP.of2 (fun en rs h => by
    match rs, h with
    | [], _ => rfl
    | [_], _ => rfl
    | [a, b], h => exact absurd rfl (h a b)
    | _ :: _ :: _ :: _, _ => rfl) (fun ds h => by
    match ds, h with
    | [], _ => rfl
    | [_], _ => rfl
    | [a, b], h => exact absurd rfl (h a b)
    | _ :: _ :: _ :: _, _ => rfl) fun en a b => by
  simp only [gDInB, dT_val, R.d, pDIn]
  cases h1 : b.d.dTq with
  | none => exact ⟨none, rfl, rfl⟩
  | some x =>
    obtain ⟨ks, ds⟩ := x
    simp only [Option.bind_some]
    cases h2 : a.d.tkey with
    | none => exact ⟨none, rfl, rfl⟩
    | some k => exact ⟨some (.sh (.bl (if neg then !hasK ks k else hasK ks k))), rfl, rfl⟩
end Pu
namespace Pu
variable [TabN]
open PySem PySem.Spec PyProof.Rows L2
def un : D → Option D
  | .any => none
  | d => some d
theorem fC_fz {d : D} (ρ : List D) : fC d (fz ρ) = (some (W.sh d)).map fun w => (fz ρ, R.val w) := rfl
instance {d : D} : Fz (fC d) := Fz.mk' fun ρ => ⟨_, fC_fz ρ⟩
theorem P_fC {d : D} {ρ : List D} : P (fC d) ρ = some d := rfl
theorem fVar_fz {i : Nat} (ρ : List D) : fVar i (fz ρ) = ((ρ[i]?.bind un).map W.sh).map fun w => (fz ρ, R.val w) := by
  unfold fVar
  rw [fz_get]
  cases ρ[i]? with
  | none => rfl
  | some d => cases d <;> rfl
instance {i : Nat} : Fz (fVar i) := Fz.mk' fun ρ => ⟨_, fVar_fz ρ⟩
theorem Pw_fVar {i : Nat} {ρ : List D} : Pw (fVar i) ρ = (ρ[i]?.bind un).map W.sh := Pw_of (fVar_fz ρ)
theorem P_fVar {i : Nat} {ρ : List D} : P (fVar i) ρ = ρ[i]?.bind un := by
  rw [P, Pw_fVar]
  cases ρ[i]?.bind un <;> rfl
class OpU1 (g : En → R → Option (En × R)) (op : outParam (D → Option D)) : Prop where
  ok : ∀ en w, ∃ o : Option W, g en (.val w) = o.map (fun w => (en, R.val w)) ∧ o.map W.d = op w.d
theorem fU_fz {g : En → R → Option (En × R)} {op : D → Option D} {f : FE} [h : OpU1 g op] [hs : Fz f] (ρ : List D) : ∃ o : Option W, fU g f (fz ρ) = o.map (fun w => (fz ρ, R.val w)) ∧ o.map W.d = (P f ρ).bind op := by
  unfold fU P
  rw [Fz.eq f ρ]
  cases Pw f ρ with
  | none => exact ⟨none, rfl, rfl⟩
  | some w =>
    obtain ⟨o, h1, h2⟩ := h.ok (fz ρ) w
    exact ⟨o, h1, h2⟩
instance {g : En → R → Option (En × R)} {op : D → Option D} {f : FE} [h : OpU1 g op] [hs : Fz f] : Fz (fU g f) := Fz.mk' fun ρ => by
  obtain ⟨o, h1, _⟩ := fU_fz (g := g) (f := f) ρ
  exact ⟨o, h1⟩
theorem P_fU {g : En → R → Option (En × R)} {op : D → Option D} {f : FE} {ρ : List D} [h : OpU1 g op] [hs : Fz f] : P (fU g f) ρ = (P f ρ).bind op := by
  obtain ⟨o, h1, h2⟩ := fU_fz (g := g) (f := f) ρ
  rw [P, Pw_of h1, h2]
instance {op : D → Option D} : OpU1 (gS1 op) op := ⟨fun en w => by
  simp only [gS1, R.d]
  cases op w.d with
  | none => exact ⟨none, rfl, rfl⟩
  | some d => exact ⟨some (.sh d), rfl, rfl⟩⟩
/-- an operation on the things of a row -/
theorem OpU1.els {g : En → R → Option (En × R)} {op : D → Option D} (F : Kd → List D → Option W) (h : ∀ en r, g en r = match R.els en r with
    | some (en', k, ds) => (F k ds).map fun w => (en', R.val w)
    | none => none) (h2 : ∀ d, op d = match d.its with
    | some (k, ds) => (F k ds).map W.d
    | none => none) : OpU1 g op := ⟨fun en w => by
  rw [h, h2, els_val]
  cases w.d.its with
  | none => exact ⟨none, rfl, rfl⟩
  | some x => obtain ⟨k, ds⟩ := x; exact ⟨F k ds, rfl, rfl⟩⟩
def pIts (F : Kd → List D → Option D) (d : D) : Option D := match d.its with
  | some (k, ds) => F k ds
  | none => none
def pList : D → Option D := pIts fun _ ds => some (.lst ds)
def pTuple : D → Option D := pIts fun _ ds => some (.tup ds)
def pSort : D → Option D := pIts fun k ds => if k = .t then none else (oSort ds).map .lst
def pMM (mx : Bool) : D → Option D := pIts fun _ ds => oMM mx ds
def pMX (mx : Bool) : D → Option D := pIts fun _ ds => oMX mx ds
def pLenSet : D → Option D := pIts fun _ ds => match dkeys ds with
  | some ks => if ks.length < 4000 then some (.int (ddK ks).length) else none
  | none => none
def pSortSet : D → Option D := pIts fun _ ds => match dkeys ds with
  | some ks => if ks.length < 4000 ∧ alikeB ((ddK ks).map kPy) = true then some (.lst (srt leD ((ddK ks).map keyD))) else none
  | none => none
instance : OpU1 gList pList := OpU1.els (fun _ ds => some (.lst (ds.map W.sh))) (fun en r => by unfold gList; rcases R.els en r with _ | ⟨en', k, ds⟩ <;> rfl) fun d => by unfold pList pIts; rcases d.its with _ | ⟨k, ds⟩ <;> simp [W.d, sh_ds]
instance : OpU1 gTuple pTuple := OpU1.els (fun _ ds => some (.sh (.tup ds))) (fun en r => by unfold gTuple; rcases R.els en r with _ | ⟨en', k, ds⟩ <;> rfl) fun d => by unfold pTuple pIts; rcases d.its with _ | ⟨k, ds⟩ <;> simp [W.d]
instance : OpU1 gSort pSort := OpU1.els (fun k ds => if k = .t then none else (oSort ds).map fun es => .lst (es.map W.sh)) (fun en r => by
    unfold gSort
    rcases R.els en r with _ | ⟨en', k, ds⟩
    · rfl
    · simp only
      split
      · rfl
      · cases oSort ds <;> rfl) fun d => by
  unfold pSort pIts
  rcases d.its with _ | ⟨k, ds⟩
  · rfl
  · simp only
    split
    · rfl
    · cases oSort ds <;> simp [W.d, sh_ds]
instance {mx : Bool} : OpU1 (gMM mx) (pMM mx) := OpU1.els (fun _ ds => (oMM mx ds).map W.sh) (fun en r => by
    unfold gMM
    rcases R.els en r with _ | ⟨en', k, ds⟩
    · rfl
    · simp only
      cases oMM mx ds <;> rfl) fun d => by
  unfold pMM pIts
  rcases d.its with _ | ⟨k, ds⟩
  · rfl
  · simp only
    cases oMM mx ds <;> simp [W.d]
instance {mx : Bool} : OpU1 (gMX mx) (pMX mx) := OpU1.els (fun _ ds => (oMX mx ds).map W.sh) (fun en r => by
    unfold gMX
    rcases R.els en r with _ | ⟨en', k, ds⟩
    · rfl
    · simp only
      cases oMX mx ds <;> rfl) fun d => by
  unfold pMX pIts
  rcases d.its with _ | ⟨k, ds⟩
  · rfl
  · simp only
    cases oMX mx ds <;> simp [W.d]
instance : OpU1 gLenSet pLenSet := OpU1.els (fun _ ds => match dkeys ds with
  | some ks => if ks.length < 4000 then some (.sh (.int (ddK ks).length)) else none
  | none => none) (fun en r => by
    unfold gLenSet
    rcases R.els en r with _ | ⟨en', k, ds⟩
    · rfl
    · simp only
      cases dkeys ds with
      | none => rfl
      | some ks => simp only; split <;> rfl) fun d => by
  unfold pLenSet pIts
  rcases d.its with _ | ⟨k, ds⟩
  · rfl
  · simp only
    cases dkeys ds with
    | none => rfl
    | some ks => simp only; split <;> rfl
instance : OpU1 gSortSet pSortSet := OpU1.els (fun _ ds => match dkeys ds with
  | some ks => if ks.length < 4000 ∧ alikeB ((ddK ks).map kPy) = true then some (.lst ((srt leD ((ddK ks).map keyD)).map W.sh)) else none
  | none => none) (fun en r => by
    unfold gSortSet
    rcases R.els en r with _ | ⟨en', k, ds⟩
    · rfl
    · simp only
      cases dkeys ds with
      | none => rfl
      | some ks => simp only; split <;> rfl) fun d => by
  unfold pSortSet pIts
  rcases d.its with _ | ⟨k, ds⟩
  · rfl
  · simp only
    cases dkeys ds with
    | none => rfl
    | some ks => simp only; split <;> simp [W.d, sh_ds]
def pSortX (d : D) : Option D := match d.dTq with
  | some (ks, _) => (oSortX (ks.map tkeyD)).map .lst
  | none => pIts (fun _ ds => (oSortX ds).map .lst) d
instance : OpU1 gSortX pSortX := ⟨fun en w => by
  unfold gSortX pSortX pIts
  rw [dT_val, els_val]
  rcases w.d.dTq with _ | ⟨ks, ds⟩
  · simp only
    rcases w.d.its with _ | ⟨k, ds⟩
    · exact ⟨none, rfl, rfl⟩
    · simp only [Option.map_some]
      rcases oSortX ds with _ | es
      · exact ⟨none, rfl, rfl⟩
      · exact ⟨some (.lst (es.map W.sh)), rfl, by simp [W.d, sh_ds]⟩
  · simp only
    rcases oSortX (ks.map tkeyD) with _ | es
    · exact ⟨none, rfl, rfl⟩
    · exact ⟨some (.lst (es.map W.sh)), rfl, by simp only [Option.map_some, W.d, sh_ds]⟩⟩
def pListT (d : D) : Option D := d.dTq.map fun x => .lst (x.1.map tkeyD)
instance : OpU1 gListT pListT := ⟨fun en w => by
  unfold gListT pListT
  rw [dT_val]
  rcases w.d.dTq with _ | ⟨ks, ds⟩
  · exact ⟨none, rfl, rfl⟩
  · exact ⟨some (.lst ((ks.map tkeyD).map W.sh)), rfl, by simp only [Option.map_some, W.d, sh_ds]⟩⟩
def pSl (d : D) (lo hi : Option Int) : Option D := match d with
  | .str x => if x.length ≤ sizeLine then some (.str (cutS x lo hi)) else none
  | .tup ds => some (.tup (cutG ds lo hi))
  | .lst ds => some (.lst (cutG ds lo hi))
  | .frl ds => some (.lst (cutG ds lo hi))
  | _ => none
theorem slOf_val (en : En) (w : W) (lo hi : Option Int) : ∃ o : Option W, slOf en (.val w) lo hi = o.map (fun w => (en, R.val w)) ∧ o.map W.d = pSl w.d lo hi := by
  have go : ∀ d : D, w.d = d → ∃ o : Option W, slOf en (.val w) lo hi = o.map (fun w => (en, R.val w)) ∧ o.map W.d = pSl w.d lo hi := fun d hd => by
    unfold slOf
    rw [els_val]
    simp only [R.d, hd]
    cases d
    case str x =>
      simp only [pSl]
      split
      · exact ⟨some (.sh (.str (cutS x lo hi))), rfl, rfl⟩
      · exact ⟨none, rfl, rfl⟩
    case tup ds => exact ⟨some (.sh (.tup (cutG ds lo hi))), rfl, rfl⟩
    case lst ds => exact ⟨some (.lst ((cutG ds lo hi).map W.sh)), rfl, by simp [W.d, sh_ds, pSl]⟩
    case frl ds => exact ⟨some (.lst ((cutG ds lo hi).map W.sh)), rfl, by simp [W.d, sh_ds, pSl]⟩
    all_goals exact ⟨none, rfl, rfl⟩
  exact go _ rfl
def pSl0 (d : D) : Option D := pSl d none none
instance : OpU1 gSl0 pSl0 := ⟨fun en w => slOf_val en w none none⟩
def pSlLo : List D → Option D
  | [d, .int i] => pSl d (some i) none
  | _ => none
def pSlHi : List D → Option D
  | [d, .int i] => pSl d none (some i)
  | _ => none
instance : OpP gSlLo pSlLo := OpP.of2 (fun en rs h => by
    match rs, h with
    | [], _ => rfl
    | [_], _ => rfl
    | [a, b], h => exact absurd rfl (h a b)
    | _ :: _ :: _ :: _, _ => rfl) (fun ds h => by
    match ds, h with
    | [], _ => rfl
    | [_], _ => rfl
    | [a, b], h => exact absurd rfl (h a b)
    | _ :: _ :: _ :: _, _ => simp only [pSlLo]) fun en a b => by
  simp only [gSlLo, R.d, pSlLo]
  cases hb : b.d
  case int i => exact slOf_val en a (some i) none
  all_goals exact ⟨none, rfl, rfl⟩
instance : OpP gSlHi pSlHi := OpP.of2 (fun en rs h => by
    match rs, h with
    | [], _ => rfl
    | [_], _ => rfl
    | [a, b], h => exact absurd rfl (h a b)
    | _ :: _ :: _ :: _, _ => rfl) (fun ds h => by
    match ds, h with
    | [], _ => rfl
    | [_], _ => rfl
    | [a, b], h => exact absurd rfl (h a b)
    | _ :: _ :: _ :: _, _ => simp only [pSlHi]) fun en a b => by
  simp only [gSlHi, R.d, pSlHi]
  cases hb : b.d
  case int i => exact slOf_val en a none (some i)
  all_goals exact ⟨none, rfl, rfl⟩
def dint : D → Option Int
  | .int i => some i
  | _ => none
theorem fSl2_fz {fe fl fh : FE} [Fz fe] [Fz fl] [Fz fh] (ρ : List D) : ∃ o : Option W, fSl2 fe fl fh (fz ρ) = o.map (fun w => (fz ρ, R.val w)) ∧ o.map W.d = (P fe ρ).bind fun d => ((P fl ρ).bind dint).bind fun i => ((P fh ρ).bind dint).bind fun j => pSl d (some i) (some j) := by
  unfold fSl2 P
  rw [FzLs.eq [fe, fl] ρ]
  simp only [PLw]
  rcases Pw fe ρ with _ | w
  · exact ⟨none, rfl, rfl⟩
  · rcases Pw fl ρ with _ | u
    · exact ⟨none, rfl, rfl⟩
    · simp only [Option.bind_some, Option.map_some, List.map_cons, List.map_nil, R.d]
      cases hu : u.d
      case int i =>
        simp only [dint, Option.bind_some]
        rw [Fz.eq fh ρ]
        rcases Pw fh ρ with _ | z
        · exact ⟨none, rfl, rfl⟩
        · simp only [Option.map_some, R.d, Option.bind_some]
          cases hz : z.d
          case int j =>
            obtain ⟨o, h1, h2⟩ := slOf_val (fz ρ) w (some i) (some j)
            exact ⟨o, h1, h2⟩
          all_goals exact ⟨none, rfl, rfl⟩
      all_goals exact ⟨none, rfl, rfl⟩
instance {fe fl fh : FE} [Fz fe] [Fz fl] [Fz fh] : Fz (fSl2 fe fl fh) := Fz.mk' fun ρ => by
  obtain ⟨o, h1, _⟩ := fSl2_fz (fe := fe) (fl := fl) (fh := fh) ρ
  exact ⟨o, h1⟩
theorem P_fSl2 {fe fl fh : FE} {ρ : List D} [Fz fe] [Fz fl] [Fz fh] : P (fSl2 fe fl fh) ρ = (P fe ρ).bind fun d => ((P fl ρ).bind dint).bind fun i => ((P fh ρ).bind dint).bind fun j => pSl d (some i) (some j) := by
  obtain ⟨o, h1, h2⟩ := fSl2_fz (fe := fe) (fl := fl) (fh := fh) ρ
  rw [P, Pw_of h1, h2]
def dbl : D → Option Bool
  | .bl b => some b
  | _ => none
theorem fTb_fz {f : FE} [Fz f] (ρ : List D) : fTb f (fz ρ) = ((P f ρ).bind dbl).map fun b => (fz ρ, b) := by
  unfold fTb P
  rw [Fz.eq f ρ]
  rcases Pw f ρ with _ | w
  · rfl
  · simp only [Option.map_some, R.d, Option.bind_some]
    cases w.d <;> rfl
instance {f : FE} [Fz f] : FzT (fTb f) := FzT.mk' fun ρ => ⟨_, fTb_fz ρ⟩
theorem PT_fTb {f : FE} {ρ : List D} [Fz f] : PT (fTb f) ρ = (P f ρ).bind dbl := PT_of (fTb_fz ρ)
theorem fTr_fz {f : FE} [Fz f] (ρ : List D) : fTr f (fz ρ) = ((P f ρ).bind truthD).map fun b => (fz ρ, b) := by
  unfold fTr P
  rw [Fz.eq f ρ]
  rcases Pw f ρ with _ | w
  · rfl
  · simp only [Option.map_some, R.d, Option.bind_some]
    cases truthD w.d <;> rfl
instance {f : FE} [Fz f] : FzT (fTr f) := FzT.mk' fun ρ => ⟨_, fTr_fz ρ⟩
theorem PT_fTr {f : FE} {ρ : List D} [Fz f] : PT (fTr f) ρ = (P f ρ).bind truthD := PT_of (fTr_fz ρ)
theorem fNotT_fz {t : FT} [FzT t] (ρ : List D) : fNotT t (fz ρ) = ((PT t ρ).map fun b => !b).map fun b => (fz ρ, b) := by
  unfold fNotT
  rw [FzT.eq t ρ]
  rcases PT t ρ with _ | w <;> rfl
instance {t : FT} [FzT t] : FzT (fNotT t) := FzT.mk' fun ρ => ⟨_, fNotT_fz ρ⟩
theorem PT_fNotT {t : FT} {ρ : List D} [FzT t] : PT (fNotT t) ρ = (PT t ρ).map fun b => !b := PT_of (fNotT_fz ρ)
theorem fAndT_fz {t u : FT} [FzT t] [FzT u] (ρ : List D) : fAndT t u (fz ρ) = ((PT t ρ).bind fun b => if b = true then PT u ρ else some false).map fun b => (fz ρ, b) := by
  unfold fAndT
  rw [FzT.eq t ρ]
  rcases PT t ρ with _ | b
  · rfl
  · cases b
    · rfl
    · simp [FzT.eq u ρ]
instance {t u : FT} [FzT t] [FzT u] : FzT (fAndT t u) := FzT.mk' fun ρ => ⟨_, fAndT_fz ρ⟩
theorem PT_fAndT {t u : FT} {ρ : List D} [FzT t] [FzT u] : PT (fAndT t u) ρ = (PT t ρ).bind fun b => if b = true then PT u ρ else some false := PT_of (fAndT_fz ρ)
theorem fOrT_fz {t u : FT} [FzT t] [FzT u] (ρ : List D) : fOrT t u (fz ρ) = ((PT t ρ).bind fun b => if b = true then some true else PT u ρ).map fun b => (fz ρ, b) := by
  unfold fOrT
  rw [FzT.eq t ρ]
  rcases PT t ρ with _ | b
  · rfl
  · cases b
    · simp [FzT.eq u ρ]
    · rfl
instance {t u : FT} [FzT t] [FzT u] : FzT (fOrT t u) := FzT.mk' fun ρ => ⟨_, fOrT_fz ρ⟩
theorem PT_fOrT {t u : FT} {ρ : List D} [FzT t] [FzT u] : PT (fOrT t u) ρ = (PT t ρ).bind fun b => if b = true then some true else PT u ρ := PT_of (fOrT_fz ρ)
instance : FzT tYesE := FzT.mk' fun ρ => ⟨some true, rfl⟩
theorem PT_yes {ρ : List D} : PT tYesE ρ = some true := rfl
theorem fPureT_fz {t : FT} [FzT t] (ρ : List D) : fPureT t (fz ρ) = (PT t ρ).map fun b => (fz ρ, b) := by
  unfold fPureT
  rw [frz_fz, FzT.eq t ρ]
  rcases PT t ρ with _ | b <;> rfl
instance {t : FT} [FzT t] : FzT (fPureT t) := FzT.mk' fun ρ => ⟨_, fPureT_fz ρ⟩
theorem PT_pure {t : FT} {ρ : List D} [FzT t] : PT (fPureT t) ρ = PT t ρ := PT_of (fPureT_fz ρ)
theorem fIf_fz {t : FT} {f g : FE} [FzT t] [Fz f] [Fz g] (ρ : List D) : fIf t f g (fz ρ) = ((PT t ρ).bind fun b => if b = true then Pw f ρ else Pw g ρ).map fun w => (fz ρ, R.val w) := by
  unfold fIf
  rw [FzT.eq t ρ]
  rcases PT t ρ with _ | b
  · rfl
  · cases b
    · simp [Fz.eq g ρ]
    · simp [Fz.eq f ρ]
instance {t : FT} {f g : FE} [FzT t] [Fz f] [Fz g] : Fz (fIf t f g) := Fz.mk' fun ρ => ⟨_, fIf_fz ρ⟩
theorem P_fIf {t : FT} {f g : FE} {ρ : List D} [FzT t] [Fz f] [Fz g] : P (fIf t f g) ρ = (PT t ρ).bind fun b => if b = true then P f ρ else P g ρ := by
  rw [P, Pw_of (fIf_fz ρ)]
  rcases PT t ρ with _ | b
  · rfl
  · cases b <;> rfl
theorem fOrV_fz {f g : FE} [Fz f] [Fz g] (ρ : List D) : fOrV f g (fz ρ) = ((Pw f ρ).bind fun w => (truthD w.d).bind fun b => if b = true then some w else Pw g ρ).map fun w => (fz ρ, R.val w) := by
  unfold fOrV
  rw [Fz.eq f ρ]
  rcases Pw f ρ with _ | w
  · rfl
  · simp only [Option.map_some, R.d, Option.bind_some]
    rcases truthD w.d with _ | b
    · rfl
    · cases b
      · simp [Fz.eq g ρ]
      · rfl
instance {f g : FE} [Fz f] [Fz g] : Fz (fOrV f g) := Fz.mk' fun ρ => ⟨_, fOrV_fz ρ⟩
theorem P_fOrV {f g : FE} {ρ : List D} [Fz f] [Fz g] : P (fOrV f g) ρ = (P f ρ).bind fun d => (truthD d).bind fun b => if b = true then some d else P g ρ := by
  rw [P, Pw_of (fOrV_fz ρ), P]
  rcases Pw f ρ with _ | w
  · rfl
  · simp only [Option.bind_some, Option.map_some]
    rcases truthD w.d with _ | b
    · rfl
    · cases b <;> rfl
theorem fAndV_fz {f g : FE} [Fz f] [Fz g] (ρ : List D) : fAndV f g (fz ρ) = ((Pw f ρ).bind fun w => (truthD w.d).bind fun b => if b = true then Pw g ρ else some w).map fun w => (fz ρ, R.val w) := by
  unfold fAndV
  rw [Fz.eq f ρ]
  rcases Pw f ρ with _ | w
  · rfl
  · simp only [Option.map_some, R.d, Option.bind_some]
    rcases truthD w.d with _ | b
    · rfl
    · cases b
      · rfl
      · simp [Fz.eq g ρ]
instance {f g : FE} [Fz f] [Fz g] : Fz (fAndV f g) := Fz.mk' fun ρ => ⟨_, fAndV_fz ρ⟩
theorem P_fAndV {f g : FE} {ρ : List D} [Fz f] [Fz g] : P (fAndV f g) ρ = (P f ρ).bind fun d => (truthD d).bind fun b => if b = true then P g ρ else some d := by
  rw [P, Pw_of (fAndV_fz ρ), P]
  rcases Pw f ρ with _ | w
  · rfl
  · simp only [Option.bind_some, Option.map_some]
    rcases truthD w.d with _ | b
    · rfl
    · cases b <;> rfl
end Pu
namespace Pu
variable [TabN]
open PySem PySem.Spec PyProof.Rows L2
instance {a b : FE} [Fz a] [Fz b] : Fz (fSub a b) := inferInstanceAs (Fz (fN (gS oSub) [a, b]))
instance {a b : FE} [Fz a] [Fz b] : Fz (fMul a b) := inferInstanceAs (Fz (fN (gS oMul) [a, b]))
instance {a b : FE} [Fz a] [Fz b] : Fz (fDiv a b) := inferInstanceAs (Fz (fN (gS oDiv) [a, b]))
instance {a b : FE} [Fz a] [Fz b] : Fz (fMod a b) := inferInstanceAs (Fz (fN (gS oMod) [a, b]))
instance {a b : FE} [Fz a] [Fz b] : Fz (fPow a b) := inferInstanceAs (Fz (fN (gS oPow) [a, b]))
instance {a : FE} [Fz a] : Fz (fNeg a) := inferInstanceAs (Fz (fN (gS oNeg) [a]))
instance {fs : List FE} [FzLs fs] : Fz (fTup fs) := inferInstanceAs (Fz (fN gTupD fs))
instance {fs : List FE} [FzLs fs] : Fz (fLst fs) := inferInstanceAs (Fz (fN gLstD fs))
instance {a b : FE} [Fz a] [Fz b] : Fz (fIx a b) := inferInstanceAs (Fz (fN gIx [a, b]))
def pIn : List D → Option D := por oInS (por oInF oIn)
def pNotIn : List D → Option D := por oNotInS (por oNotInF oNotIn)
def pLt : List D → Option D := por oLtI oLtS
def pAdd : List D → Option D := por oAddI (por oAddS (por pCatL pCatT))
instance : OpP gIn pIn := inferInstanceAs (OpP (gOr (gS oInS) (gOr (gS oInF) (gS oIn))) _)
instance : OpP gNotIn pNotIn := inferInstanceAs (OpP (gOr (gS oNotInS) (gOr (gS oNotInF) (gS oNotIn))) _)
instance : OpP gLt pLt := inferInstanceAs (OpP (gOr (gS oLtI) (gS oLtS)) _)
instance : OpP gAdd pAdd := inferInstanceAs (OpP (gOr (gS oAddI) (gOr (gS oAddS) (gOr gCatL gCatT))) _)
instance {a b : FE} [Fz a] [Fz b] : Fz (fAdd a b) := inferInstanceAs (Fz (fN gAdd [a, b]))
theorem P_two {g : En → List R → Option (En × R)} {op : List D → Option D} {a b : FE} {ρ : List D} [OpP g op] [Fz a] [Fz b] : P (fN g [a, b]) ρ = (P a ρ).bind fun x => (P b ρ).bind fun y => op [x, y] := by
  rw [P_fN, PL_cons, PL_cons, PL_nil]
  rcases P a ρ with _ | x
  · rfl
  · rcases P b ρ with _ | y <;> rfl
theorem P_one {g : En → List R → Option (En × R)} {op : List D → Option D} {a : FE} {ρ : List D} [OpP g op] [Fz a] : P (fN g [a]) ρ = (P a ρ).bind fun x => op [x] := by
  rw [P_fN, PL_cons, PL_nil]
  rcases P a ρ with _ | x <;> rfl
section
variable {a b : FE} {ρ : List D} [Fz a] [Fz b]
theorem P_fSub : P (fSub a b) ρ = (P a ρ).bind fun x => (P b ρ).bind fun y => oSub [x, y] := P_two
theorem P_fMul : P (fMul a b) ρ = (P a ρ).bind fun x => (P b ρ).bind fun y => oMul [x, y] := P_two
theorem P_fDiv : P (fDiv a b) ρ = (P a ρ).bind fun x => (P b ρ).bind fun y => oDiv [x, y] := P_two
theorem P_fMod : P (fMod a b) ρ = (P a ρ).bind fun x => (P b ρ).bind fun y => oMod [x, y] := P_two
theorem P_fPow : P (fPow a b) ρ = (P a ρ).bind fun x => (P b ρ).bind fun y => oPow [x, y] := P_two
theorem P_fAdd : P (fAdd a b) ρ = (P a ρ).bind fun x => (P b ρ).bind fun y => pAdd [x, y] := P_two
theorem P_fIx : P (fIx a b) ρ = (P a ρ).bind fun x => (P b ρ).bind fun y => pIx [x, y] := P_two
theorem P_fNeg : P (fNeg a) ρ = (P a ρ).bind fun x => oNeg [x] := P_one
end
theorem P_fTup {fs : List FE} {ρ : List D} [FzLs fs] : P (fTup fs) ρ = (PL fs ρ).bind pTup := P_fN
theorem P_fLst {fs : List FE} {ρ : List D} [FzLs fs] : P (fLst fs) ρ = (PL fs ρ).bind pLst := P_fN
section
variable {f : FE} {ρ : List D} [Fz f]
instance : Fz (fLen f) := inferInstanceAs (Fz (fU (gS1 oLen) f))
instance : Fz (fAbs f) := inferInstanceAs (Fz (fU (gS1 oAbs) f))
instance : Fz (fInt f) := inferInstanceAs (Fz (fU (gS1 oInt) f))
instance : Fz (fAll f) := inferInstanceAs (Fz (fU (gS1 oAll) f))
instance : Fz (fAny f) := inferInstanceAs (Fz (fU (gS1 oAny) f))
instance : Fz (fSum f) := inferInstanceAs (Fz (fU (gS1 oSum) f))
instance : Fz (fList f) := inferInstanceAs (Fz (fU gList f))
instance : Fz (fTuple f) := inferInstanceAs (Fz (fU gTuple f))
instance : Fz (fSorted f) := inferInstanceAs (Fz (fU gSort f))
instance : Fz (fSortX f) := inferInstanceAs (Fz (fU gSortX f))
instance : Fz (fListT f) := inferInstanceAs (Fz (fU gListT f))
instance {cs : List String} : Fz (fIsi cs f) := inferInstanceAs (Fz (fU (gS1 (oIsi cs)) f))
instance : Fz (fNotV f) := inferInstanceAs (Fz (fU (gS1 oNotV) f))
instance : Fz (fMin1 f) := inferInstanceAs (Fz (fU (gMM false) f))
instance : Fz (fMax1 f) := inferInstanceAs (Fz (fU (gMM true) f))
instance : Fz (fMinX f) := inferInstanceAs (Fz (fU (gMX false) f))
instance : Fz (fMaxX f) := inferInstanceAs (Fz (fU (gMX true) f))
instance : Fz (fLenSet f) := inferInstanceAs (Fz (fU gLenSet f))
instance : Fz (fSortSet f) := inferInstanceAs (Fz (fU gSortSet f))
theorem P_fLen : P (fLen f) ρ = (P f ρ).bind oLen := P_fU
theorem P_fAbs : P (fAbs f) ρ = (P f ρ).bind oAbs := P_fU
theorem P_fInt : P (fInt f) ρ = (P f ρ).bind oInt := P_fU
theorem P_fAll : P (fAll f) ρ = (P f ρ).bind oAll := P_fU
theorem P_fAny : P (fAny f) ρ = (P f ρ).bind oAny := P_fU
theorem P_fSum : P (fSum f) ρ = (P f ρ).bind oSum := P_fU
theorem P_fList : P (fList f) ρ = (P f ρ).bind pList := P_fU
theorem P_fTuple : P (fTuple f) ρ = (P f ρ).bind pTuple := P_fU
theorem P_fSorted : P (fSorted f) ρ = (P f ρ).bind pSort := P_fU
theorem P_fSortX : P (fSortX f) ρ = (P f ρ).bind pSortX := P_fU
theorem P_fListT : P (fListT f) ρ = (P f ρ).bind pListT := P_fU
theorem P_fIsi {cs : List String} : P (fIsi cs f) ρ = (P f ρ).bind (oIsi cs) := P_fU
theorem P_fNotV : P (fNotV f) ρ = (P f ρ).bind oNotV := P_fU
theorem P_fMin1 : P (fMin1 f) ρ = (P f ρ).bind (pMM false) := P_fU
theorem P_fMax1 : P (fMax1 f) ρ = (P f ρ).bind (pMM true) := P_fU
theorem P_fMinX : P (fMinX f) ρ = (P f ρ).bind (pMX false) := P_fU
theorem P_fMaxX : P (fMaxX f) ρ = (P f ρ).bind (pMX true) := P_fU
theorem P_fLenSet : P (fLenSet f) ρ = (P f ρ).bind pLenSet := P_fU
theorem P_fSortSet : P (fSortSet f) ρ = (P f ρ).bind pSortSet := P_fU
end
def pCall (g : PF) (ds : List D) : Option D := match g (ds.map W.sh) with
  | some (w, _) => if w.clean = true then some w.d else none
  | none => none
theorem fCallP_fz {g : PF} {fs : List FE} [FzLs fs] (ρ : List D) : ∃ o : Option W, fCallP g fs (fz ρ) = o.map (fun w => (fz ρ, R.val w)) ∧ o.map W.d = (PL fs ρ).bind (pCall g) ∧ ∀ w, o = some w → w.clean = true := by
  unfold fCallP PL
  rw [FzLs.eq fs ρ]
  rcases PLw fs ρ with _ | ws
  · exact ⟨none, rfl, rfl, fun _ h => by cases h⟩
  · simp only [Option.map_some, rds_val, Option.bind_some, pCall]
    rcases g ((W.ds ws).map W.sh) with _ | ⟨w, ws'⟩
    · exact ⟨none, rfl, rfl, fun _ h => by cases h⟩
    · simp only
      by_cases hc : w.clean = true
      · rw [if_pos hc, if_pos hc]
        exact ⟨some w, rfl, rfl, fun _ h => by cases h; exact hc⟩
      · rw [if_neg hc, if_neg hc]
        exact ⟨none, rfl, rfl, fun _ h => by cases h⟩
instance {g : PF} {fs : List FE} [FzLs fs] : Fz (fCallP g fs) := Fz.mk' fun ρ => by
  obtain ⟨o, h1, _⟩ := fCallP_fz (g := g) (fs := fs) ρ
  exact ⟨o, h1⟩
theorem P_fCallP {g : PF} {fs : List FE} {ρ : List D} [FzLs fs] : P (fCallP g fs) ρ = (PL fs ρ).bind (pCall g) := by
  obtain ⟨o, h1, h2, _⟩ := fCallP_fz (g := g) (fs := fs) ρ
  rw [P, Pw_of h1, h2]
theorem fCallKP_fz {g : PF} {is : List Nat} {m : Nat} {fs : List FE} [FzLs fs] (ρ : List D) : ∃ o : Option W, fCallKP g is m fs (fz ρ) = o.map (fun w => (fz ρ, R.val w)) ∧ o.map W.d = ((PL fs ρ).bind fun ds => if ds.length = m then pCall g (pick is ds) else none) ∧ ∀ w, o = some w → w.clean = true := by
  unfold fCallKP PL
  rw [FzLs.eq fs ρ]
  rcases PLw fs ρ with _ | ws
  · exact ⟨none, rfl, rfl, fun _ h => by cases h⟩
  · simp only [Option.map_some, rds_val, Option.bind_some, pCall]
    by_cases hm : (W.ds ws).length = m
    · rw [if_pos hm, if_pos hm]
      rcases g ((pick is (W.ds ws)).map W.sh) with _ | ⟨w, ws'⟩
      · exact ⟨none, rfl, rfl, fun _ h => by cases h⟩
      · simp only
        by_cases hc : w.clean = true
        · rw [if_pos hc, if_pos hc]
          exact ⟨some w, rfl, rfl, fun _ h => by cases h; exact hc⟩
        · rw [if_neg hc, if_neg hc]
          exact ⟨none, rfl, rfl, fun _ h => by cases h⟩
    · rw [if_neg hm, if_neg hm]
      exact ⟨none, rfl, rfl, fun _ h => by cases h⟩
instance {g : PF} {is : List Nat} {m : Nat} {fs : List FE} [FzLs fs] : Fz (fCallKP g is m fs) := Fz.mk' fun ρ => by
  obtain ⟨o, h1, _⟩ := fCallKP_fz (g := g) (is := is) (m := m) (fs := fs) ρ
  exact ⟨o, h1⟩
theorem P_fCallKP {g : PF} {is : List Nat} {m : Nat} {fs : List FE} {ρ : List D} [FzLs fs] : P (fCallKP g is m fs) ρ = (PL fs ρ).bind fun ds => if ds.length = m then pCall g (pick is ds) else none := by
  obtain ⟨o, h1, h2, _⟩ := fCallKP_fz (g := g) (is := is) (m := m) (fs := fs) ρ
  rw [P, Pw_of h1, h2]
def dcls : D → Option Str
  | .ins c _ => some c
  | _ => none
theorem cls_val (en : En) (w : W) : R.cls en (.val w) = dcls w.d := by
  cases w with
  | sh d => cases d <;> rfl
  | _ => rfl
theorem fCk_fz {c : Str} {f : FE} [Fz f] (ρ : List D) : fCk c f (fz ρ) = ((Pw f ρ).bind fun w => if dcls w.d = some c then some w else none).map fun w => (fz ρ, R.val w) := by
  unfold fCk
  rw [Fz.eq f ρ]
  rcases Pw f ρ with _ | w
  · rfl
  · simp only [Option.map_some, cls_val, Option.bind_some]
    split <;> rfl
instance {c : Str} {f : FE} [Fz f] : Fz (fCk c f) := Fz.mk' fun ρ => ⟨_, fCk_fz ρ⟩
theorem P_fCk {c : Str} {f : FE} {ρ : List D} [Fz f] : P (fCk c f) ρ = (P f ρ).bind fun d => if dcls d = some c then some d else none := by
  rw [P, Pw_of (fCk_fz ρ), P]
  rcases Pw f ρ with _ | w
  · rfl
  · simp only [Option.bind_some, Option.map_some]
    split <;> rfl
instance {c : Str} {g : PF} {f : FE} {fs : List FE} [Fz f] [FzLs fs] : Fz (fMethP c g f fs) := inferInstanceAs (Fz (fCallP g (fCk c f :: fs)))
theorem P_fMethP {c : Str} {g : PF} {f : FE} {fs : List FE} {ρ : List D} [Fz f] [FzLs fs] : P (fMethP c g f fs) ρ = (P f ρ).bind fun d => if dcls d = some c then (PL fs ρ).bind fun ds => pCall g (d :: ds) else none := by
  unfold fMethP
  rw [P_fCallP, PL_cons, P_fCk]
  rcases P f ρ with _ | d
  · rfl
  · simp only [Option.bind_some]
    split
    · simp only [Option.bind_some]
      rcases PL fs ρ with _ | ds <;> rfl
    · rfl
def pChain (o1 o2 : List D → Option D) (d1 d2 : D) (c : Option D) : Option D := match o1 [d1, d2], d2.v with
  | some (.bl true), some _ => c.bind fun d3 => o2 [d2, d3]
  | some (.bl false), some _ => some (.bl false)
  | _, _ => none
theorem fChain_fz {o1 o2 : List D → Option D} {a b c : FE} [Fz a] [Fz b] [Fz c] (ρ : List D) : ∃ o : Option W, fChain o1 o2 a b c (fz ρ) = o.map (fun w => (fz ρ, R.val w)) ∧ o.map W.d = (P a ρ).bind fun d1 => (P b ρ).bind fun d2 => pChain o1 o2 d1 d2 (P c ρ) := by
  unfold fChain P
  rw [FzLs.eq [a, b] ρ]
  simp only [PLw]
  rcases Pw a ρ with _ | w
  · exact ⟨none, rfl, rfl⟩
  · rcases Pw b ρ with _ | u
    · exact ⟨none, rfl, rfl⟩
    · simp only [Option.bind_some, Option.map_some, List.map_cons, List.map_nil, R.d, pChain]
      rcases o1 [w.d, u.d] with _ | x
      · exact ⟨none, rfl, rfl⟩
      · rcases u.d.v with _ | y
        · cases x <;> first | exact ⟨none, rfl, rfl⟩ | (rename_i z; cases z <;> exact ⟨none, rfl, rfl⟩)
        · cases x <;> try exact ⟨none, rfl, rfl⟩
          rename_i z
          cases z
          · exact ⟨some (.sh (.bl false)), rfl, rfl⟩
          · simp only
            rw [Fz.eq c ρ]
            rcases Pw c ρ with _ | v
            · exact ⟨none, rfl, rfl⟩
            · simp only [Option.map_some, R.d, Option.bind_some]
              rcases o2 [u.d, v.d] with _ | t
              · exact ⟨none, rfl, rfl⟩
              · exact ⟨some (.sh t), rfl, rfl⟩
instance {o1 o2 : List D → Option D} {a b c : FE} [Fz a] [Fz b] [Fz c] : Fz (fChain o1 o2 a b c) := Fz.mk' fun ρ => by
  obtain ⟨o, h1, _⟩ := fChain_fz (o1 := o1) (o2 := o2) (a := a) (b := b) (c := c) ρ
  exact ⟨o, h1⟩
theorem P_fChain {o1 o2 : List D → Option D} {a b c : FE} {ρ : List D} [Fz a] [Fz b] [Fz c] : P (fChain o1 o2 a b c) ρ = (P a ρ).bind fun d1 => (P b ρ).bind fun d2 => pChain o1 o2 d1 d2 (P c ρ) := by
  obtain ⟨o, h1, h2⟩ := fChain_fz (o1 := o1) (o2 := o2) (a := a) (b := b) (c := c) ρ
  rw [P, Pw_of h1, h2]
class Shy (f : FE) : Prop where
  ok : ∀ {ρ w}, Pw f ρ = some w → ∃ d, w = .sh d
instance {i : Nat} : Shy (fVar i) := ⟨fun {ρ w} h => by
  rw [Pw_fVar] at h
  rcases e : ρ[i]?.bind un with _ | d
  · rw [e] at h; cases h
  · rw [e] at h; cases h; exact ⟨d, rfl⟩⟩
def pFld (c : Str) (k : Nat) (d : D) : Option D := match d with
  | .ins c' ds => if c' = c then (ds[k]?).bind un else none
  | _ => none
theorem fFld_fz {c : Str} {k : Nat} {f : FE} [Fz f] [h : Shy f] (ρ : List D) : fFld c k f (fz ρ) = ((P f ρ).bind (pFld c k)).map (fun d => (fz ρ, R.val (.sh d))) := by
  unfold fFld P
  rw [Fz.eq f ρ]
  cases e : Pw f ρ with
  | none => rfl
  | some w =>
    obtain ⟨d, rfl⟩ := h.ok e
    simp only [Option.map_some, Option.bind_some, W.d]
    cases d
    case ins c' ds =>
      simp only [pFld]
      by_cases hc : c' = c
      · simp only [hc, if_true]
        cases ds[k]? with
        | none => rfl
        | some x => cases x <;> rfl
      · simp only [hc, if_false]; rfl
    all_goals rfl
instance {c : Str} {k : Nat} {f : FE} [Fz f] [Shy f] : Fz (fFld c k f) := Fz.mk' fun ρ => ⟨((P f ρ).bind (pFld c k)).map W.sh, by rw [fFld_fz, Option.map_map]; rfl⟩
theorem Pw_fFld {c : Str} {k : Nat} {f : FE} {ρ : List D} [Fz f] [Shy f] : Pw (fFld c k f) ρ = ((P f ρ).bind (pFld c k)).map W.sh := Pw_of (by rw [fFld_fz, Option.map_map]; rfl)
theorem P_fFld {c : Str} {k : Nat} {f : FE} {ρ : List D} [Fz f] [Shy f] : P (fFld c k f) ρ = (P f ρ).bind (pFld c k) := by
  rw [P, Pw_fFld, Option.map_map]
  rcases (P f ρ).bind (pFld c k) with _ | d <;> rfl
instance {c : Str} {k : Nat} {f : FE} [Fz f] [Shy f] : Shy (fFld c k f) := ⟨fun {ρ w} h => by
  rw [Pw_fFld] at h
  rcases e : (P f ρ).bind (pFld c k) with _ | d
  · rw [e] at h; cases h
  · rw [e] at h; cases h; exact ⟨d, rfl⟩⟩
end Pu
namespace Pu
variable [TabN]
open PySem PySem.Spec PyProof.Rows L2
theorem iSeq_fz {f : FE} [Fz f] (ρ : List D) : iSeq f (fz ρ) = ((P f ρ).bind D.walk).map fun ds => (fz ρ, ds) := by
  unfold iSeq P
  rw [Fz.eq f ρ]
  rcases Pw f ρ with _ | w
  · rfl
  · simp only [Option.map_some, R.fz, Option.bind_some]
    rcases w.d.walk with _ | ds <;> rfl
instance {f : FE} [Fz f] : FzI (iSeq f) := FzI.mk' fun ρ => ⟨_, iSeq_fz ρ⟩
theorem PI_iSeq {f : FE} {ρ : List D} [Fz f] : PI (iSeq f) ρ = (P f ρ).bind D.walk := PI_of (iSeq_fz ρ)
def pRange1 (d : D) : Option (List D) := (dint d).bind fun n => if -(2 ^ 62) ≤ n ∧ n < 2 ^ 62 then some ((List.range n.toNat).map fun (k : Nat) => D.int (k : Int)) else none
theorem iRange1_fz {f : FE} [Fz f] (ρ : List D) : iRange1 f (fz ρ) = ((P f ρ).bind pRange1).map fun ds => (fz ρ, ds) := by
  unfold iRange1 P
  rw [FzLs.eq [f] ρ]
  simp only [PLw]
  rcases Pw f ρ with _ | w
  · rfl
  · simp only [Option.bind_some, Option.map_some, List.map_cons, List.map_nil, R.d, pRange1]
    cases w.d <;> simp only [dint, Option.bind_some, Option.bind_none, Option.map_none]
    split <;> rfl
instance {f : FE} [Fz f] : FzI (iRange1 f) := FzI.mk' fun ρ => ⟨_, iRange1_fz ρ⟩
theorem PI_iRange1 {f : FE} {ρ : List D} [Fz f] : PI (iRange1 f) ρ = (P f ρ).bind pRange1 := PI_of (iRange1_fz ρ)
def pRange2 (d e : D) : Option (List D) := (dint d).bind fun a => (dint e).bind fun b => if -(2 ^ 62) ≤ a ∧ a < 2 ^ 62 ∧ -(2 ^ 62) ≤ b ∧ b < 2 ^ 62 then some ((List.range (b - a).toNat).map fun (k : Nat) => D.int (a + (k : Int))) else none
theorem iRange2_fz {f g : FE} [Fz f] [Fz g] (ρ : List D) : iRange2 f g (fz ρ) = ((P f ρ).bind fun d => (P g ρ).bind fun e => pRange2 d e).map fun ds => (fz ρ, ds) := by
  unfold iRange2 P
  rw [FzLs.eq [f, g] ρ]
  simp only [PLw]
  rcases Pw f ρ with _ | w
  · rfl
  · rcases Pw g ρ with _ | u
    · rfl
    · simp only [Option.bind_some, Option.map_some, List.map_cons, List.map_nil, R.d, pRange2]
      cases w.d <;> try rfl
      cases u.d <;> simp only [dint, Option.bind_some, Option.bind_none, Option.map_none]
      split <;> rfl
instance {f g : FE} [Fz f] [Fz g] : FzI (iRange2 f g) := FzI.mk' fun ρ => ⟨_, iRange2_fz ρ⟩
theorem PI_iRange2 {f g : FE} {ρ : List D} [Fz f] [Fz g] : PI (iRange2 f g) ρ = (P f ρ).bind fun d => (P g ρ).bind fun e => pRange2 d e := PI_of (iRange2_fz ρ)
def pEnum (d : D) : Option (List D) := match d with
  | .tup ds => some (enumD 0 ds)
  | .lst ds => some (enumD 0 ds)
  | .frl ds => some (enumD 0 ds)
  | _ => none
theorem iEnumA_fz {f : FE} [Fz f] (ρ : List D) : iEnumA f (fz ρ) = ((P f ρ).bind pEnum).map fun ds => (fz ρ, ds) := by
  unfold iEnumA P
  rw [Fz.eq f ρ]
  rcases Pw f ρ with _ | w
  · rfl
  · simp only [Option.map_some, R.fz, Option.bind_some]
    cases w.d <;> rfl
instance {f : FE} [Fz f] : FzI (iEnumA f) := FzI.mk' fun ρ => ⟨_, iEnumA_fz ρ⟩
theorem PI_iEnumA {f : FE} {ρ : List D} [Fz f] : PI (iEnumA f) ρ = (P f ρ).bind pEnum := PI_of (iEnumA_fz ρ)
def pZip (a b : D) : Option (List D) := match a.its, b.its with
  | some (.t, ds), some (.t, es) => some (zipD ds es)
  | some (.l, ds), some (.l, es) => some (zipD ds es)
  | some (.l, ds), some (.f, es) => some (zipD ds es)
  | some (.f, ds), some (.l, es) => some (zipD ds es)
  | some (.f, ds), some (.f, es) => some (zipD ds es)
  | _, _ => none
theorem iZipL_fz {f g : FE} [Fz f] [Fz g] (ρ : List D) : iZipL f g (fz ρ) = ((P f ρ).bind fun d => (P g ρ).bind fun e => pZip d e).map fun ds => (fz ρ, ds) := by
  unfold iZipL P
  rw [FzLs.eq [f, g] ρ]
  simp only [PLw]
  rcases Pw f ρ with _ | w
  · rfl
  · rcases Pw g ρ with _ | u
    · rfl
    · simp only [Option.bind_some, Option.map_some, rfz_val, W.ds, pZip]
      rcases w.d.its with _ | ⟨k, ds⟩
      · rfl
      · rcases u.d.its with _ | ⟨k2, ds2⟩
        · cases k <;> rfl
        · cases k <;> cases k2 <;> rfl
instance {f g : FE} [Fz f] [Fz g] : FzI (iZipL f g) := FzI.mk' fun ρ => ⟨_, iZipL_fz ρ⟩
theorem PI_iZipL {f g : FE} {ρ : List D} [Fz f] [Fz g] : PI (iZipL f g) ρ = (P f ρ).bind fun d => (P g ρ).bind fun e => pZip d e := PI_of (iZipL_fz ρ)
def pKeys (d : D) : Option (List D) := match d with
  | .lT ks _ => some (ks.map tkeyD)
  | _ => none
theorem iKeys_fz {f : FE} [Fz f] [h : Shy f] (ρ : List D) : iKeys f (fz ρ) = ((P f ρ).bind pKeys).map fun ds => (fz ρ, ds) := by
  unfold iKeys P
  rw [Fz.eq f ρ]
  cases e : Pw f ρ with
  | none => rfl
  | some w =>
    obtain ⟨d, rfl⟩ := h.ok e
    simp only [Option.map_some, Option.bind_some, W.d]
    cases d <;> rfl
instance {f : FE} [Fz f] [Shy f] : FzI (iKeys f) := FzI.mk' fun ρ => ⟨_, iKeys_fz ρ⟩
theorem PI_iKeys {f : FE} {ρ : List D} [Fz f] [Shy f] : PI (iKeys f) ρ = (P f ρ).bind pKeys := PI_of (iKeys_fz ρ)
def wipeD (ρ : List D) : List Nat → List D
  | [] => ρ
  | k :: ks => (wipeD ρ ks).set k .any
theorem wipe_fz (ρ : List D) : ∀ vs : List Nat, wipeE (fz ρ) vs = fz (wipeD ρ vs)
  | [] => rfl
  | k :: ks => by
    have := wipe_fz ρ ks
    simp only [wipeE, wipeD, this]
    simp only [fz, List.map_set]
theorem wipe_len (ρ : List D) : ∀ vs : List Nat, (wipeD ρ vs).length = ρ.length
  | [] => rfl
  | k :: ks => by simp only [wipeD, List.length_set, wipe_len ρ ks]
theorem wipe_get (ρ : List D) {j : Nat} : ∀ vs : List Nat, j ∉ vs → (wipeD ρ vs)[j]? = ρ[j]?
  | [], _ => rfl
  | k :: ks, h => by
    simp only [List.mem_cons, not_or] at h
    simp only [wipeD]
    rw [List.getElem?_set_ne (fun e => h.1 e.symm), wipe_get ρ ks h.2]
class Wr (g : FG) (us : outParam (List Nat)) : Prop where
  ok : ∀ {ρ d en1}, g (fz ρ) (.sh d) = some en1 → ∃ ρ1, en1 = fz ρ1 ∧ ρ1.length = ρ.length ∧ ∀ k, k ∉ us → ρ1[k]? = ρ[k]?
class WrL (g : En → List W → Option En) (us : outParam (List Nat)) : Prop where
  ok : ∀ {ρ} {ds : List D} {en1}, g (fz ρ) (ds.map W.sh) = some en1 → ∃ ρ1, en1 = fz ρ1 ∧ ρ1.length = ρ.length ∧ ∀ k, k ∉ us → ρ1[k]? = ρ[k]?
instance {i : Nat} : Wr (gN i) [i] := ⟨fun {ρ d en1} h => by
  unfold gN at h
  split at h
  · cases h
    refine ⟨ρ.set i d, by simp [fz], by simp, fun k hk => List.getElem?_set_ne (fun e => hk (by simp [e]))⟩
  · cases h⟩
instance : WrL gsNil [] := ⟨fun {ρ ds en1} h => by
  cases ds with
  | nil => simp only [List.map_nil, gsNil] at h; cases h; exact ⟨ρ, rfl, rfl, fun _ _ => rfl⟩
  | cons d ds => simp only [List.map_cons, gsNil] at h; cases h⟩
instance {g : FG} {gs : En → List W → Option En} {us us' : List Nat} [h1 : Wr g us] [h2 : WrL gs us'] : WrL (gsCons g gs) (us ++ us') := ⟨fun {ρ ds en1} h => by
  cases ds with
  | nil => simp only [List.map_nil, gsCons] at h; cases h
  | cons d ds =>
    simp only [List.map_cons, gsCons] at h
    split at h
    · cases h
    · rename_i en2 e2
      obtain ⟨ρ1, rfl, l1, k1⟩ := h1.ok e2
      obtain ⟨ρ2, rfl, l2, k2⟩ := h2.ok h
      refine ⟨ρ2, rfl, l2.trans l1, fun k hk => ?_⟩
      simp only [List.mem_append, not_or] at hk
      rw [k2 k hk.2, k1 k hk.1]⟩
instance {n : Nat} {gs : En → List W → Option En} {us : List Nat} [h2 : WrL gs us] : Wr (gTupT n gs) us := ⟨fun {ρ d en1} h => by
  unfold gTupT at h
  split at h
  · rename_i ds e
    split at h
    · exact h2.ok h
    · cases h
  · rename_i ds e
    split at h
    · exact h2.ok h
    · cases h
  · cases h⟩
def PG (g : FG) (ρ : List D) (d : D) : Option (List D) := (g (fz ρ) (.sh d)).map fun en => en.map W.d
def PGs (g : En → List W → Option En) (ρ : List D) (ds : List D) : Option (List D) := (g (fz ρ) (ds.map W.sh)).map fun en => en.map W.d
theorem PG_gN {i : Nat} {ρ : List D} {d : D} : PG (gN i) ρ d = if i < ρ.length then some (ρ.set i d) else none := by
  unfold PG gN
  rw [fz_len]
  split
  · simp only [Option.map_some, Option.some.injEq]
    have := fz_d (ρ.set i d)
    rw [← this]
    congr 1
    simp [fz]
  · rfl
theorem PGs_nil {ρ : List D} : PGs gsNil ρ [] = some ρ := by simp [PGs, gsNil, fz_d]
theorem PGs_cons {g : FG} {gs : En → List W → Option En} {us : List Nat} {ρ : List D} {d : D} {ds : List D} [h : Wr g us] : PGs (gsCons g gs) ρ (d :: ds) = (PG g ρ d).bind fun ρ1 => PGs gs ρ1 ds := by
  unfold PGs PG
  simp only [List.map_cons, gsCons]
  cases e : g (fz ρ) (.sh d) with
  | none => rfl
  | some en1 =>
    obtain ⟨ρ1, rfl, _, _⟩ := h.ok e
    simp only [Option.map_some, Option.bind_some, fz_d]
theorem PG_tup {n : Nat} {gs : En → List W → Option En} {ρ ds : List D} : PG (gTupT n gs) ρ (.tup ds) = if ds.length = n then PGs gs ρ ds else none := by
  unfold PG PGs gTupT
  simp only
  split <;> rfl
theorem PG_lst {n : Nat} {gs : En → List W → Option En} {ρ ds : List D} : PG (gTupT n gs) ρ (.lst ds) = if ds.length = n then PGs gs ρ ds else none := by
  unfold PG PGs gTupT
  simp only
  split <;> rfl
def compQ {α β : Type} (T : α → Option Bool) (E : α → Option β) : List α → Nat → Option (List β)
  | [], _ => some []
  | x :: xs, n => match T x with
    | none => none
    | some false => compQ T E xs n
    | some true => match E x with
      | none => none
      | some e => if n < sizeLine then (compQ T E xs (n + 1)).map fun es => e :: es else none
theorem rest_get {eb en : En} (hl : eb.length = en.length) {j : Nat} : ∀ vs : List Nat, (∀ k ∈ vs, k < en.length) → (restE eb en vs)[j]? = (if j ∈ vs then en[j]? else eb[j]?) ∧ (restE eb en vs).length = en.length
  | [], _ => ⟨by simp [restE], by simp [restE, hl]⟩
  | k :: ks, h => by
    obtain ⟨h1, h2⟩ := rest_get hl (j := j) ks fun x hx => h x (by simp [hx])
    have hk : k < en.length := h k (by simp)
    obtain ⟨w, hw⟩ : ∃ w, en[k]? = some w := ⟨en[k], List.getElem?_eq_getElem hk⟩
    simp only [restE, hw]
    refine ⟨?_, by rw [List.length_set]; exact h2⟩
    by_cases e : j = k
    · subst e
      rw [List.getElem?_set_self (by rw [h2]; exact hk), if_pos (by simp), hw]
    · rw [List.getElem?_set_ne (fun z => e z.symm), h1]
      simp [e]
theorem rest_fz {ρ ρ1 : List D} {vs us : List Nat} (hl : ρ1.length = ρ.length) (hv : ∀ k ∈ vs, k < ρ.length) (hu : ∀ k ∈ us, k ∈ vs) (hk : ∀ k, k ∉ us → ρ1[k]? = (wipeD ρ vs)[k]?) : restE (fz ρ1) (fz ρ) vs = fz ρ := by
  apply List.ext_getElem?
  intro j
  have h := (rest_get (eb := fz ρ1) (en := fz ρ) (by simp [fz_len, hl]) (j := j) vs (by simpa [fz_len] using hv)).1
  rw [h]
  split
  · rfl
  · rename_i hj
    rw [fz_get, fz_get, hk j (fun z => hj (hu j z)), wipe_get ρ vs hj]
theorem okV_fz {ρ : List D} {vs : List Nat} (hv : ∀ k ∈ vs, k < ρ.length) : okV (fz ρ) vs = true := by
  unfold okV
  rw [List.all_eq_true]
  intro k hk
  have : ρ[k]? = some (ρ[k]'(hv k hk)) := List.getElem?_eq_getElem (hv k hk)
  simp only [fz_get, this, Option.map_some, W.isSh]
theorem compD_fz {vs us : List Nat} {g : FG} {t : FT} {f : FE} [hg : Wr g us] [ht : FzT t] [hf : Fz f] {ρ : List D} (hv : ∀ k ∈ vs, k < ρ.length) (hu : ∀ k ∈ us, k ∈ vs) : ∀ (ds : List D) (ws : List W),
    compD vs g t f ds (fz ρ) ws = (compQ (fun d => (PG g (wipeD ρ vs) d).bind (PT t)) (fun d => (PG g (wipeD ρ vs) d).bind (Pw f)) ds ws.length).map fun us => (fz ρ, ws ++ us)
  | [], ws => by simp [compD, compQ]
  | d :: ds, ws => by
    have ih := compD_fz (g := g) (t := t) (f := f) hv hu ds
    simp only [compD, okV_fz hv, if_true, compQ, wipe_fz]
    cases e : g (fz (wipeD ρ vs)) (.sh d) with
    | none => simp [PG, e]
    | some en1 =>
      obtain ⟨ρ1, rfl, l1, k1⟩ := hg.ok e
      have pg : PG g (wipeD ρ vs) d = some ρ1 := by simp [PG, e, fz_d]
      have ll : ρ1.length = ρ.length := l1.trans (wipe_len ρ vs)
      have ll2 : (fz ρ1).length = (fz ρ).length := by simp [fz_len, ll]
      simp only [pg, Option.bind_some, ll2, if_true]
      rw [FzT.eq t ρ1]
      cases PT t ρ1 with
      | none => rfl
      | some b =>
        cases b with
        | false => simp only [Option.map_some, ll2, if_true, rest_fz ll hv hu k1, ih]
        | true =>
          simp only [Option.map_some]
          rw [Fz.eq f ρ1]
          cases Pw f ρ1 with
          | none => rfl
          | some w =>
            simp only [Option.map_some, R.tk, ll2, true_and, rest_fz ll hv hu k1]
            split
            · rw [ih (ws ++ [w]), List.length_append, List.length_singleton, Option.map_map]
              congr 1
              funext x
              simp
            · rfl
theorem compQ_mapE {α β γ : Type} {T : α → Option Bool} {E : α → Option β} (h : β → γ) : ∀ (xs : List α) (n : Nat), (compQ T E xs n).map (List.map h) = compQ T (fun x => (E x).map h) xs n
  | [], n => rfl
  | x :: xs, n => by
    simp only [compQ]
    rcases T x with _ | b
    · rfl
    · cases b
      · exact compQ_mapE h xs n
      · rcases E x with _ | e
        · rfl
        · simp only [Option.map_some]
          split
          · rw [← compQ_mapE h xs (n + 1), Option.map_map, Option.map_map]; rfl
          · rfl
theorem fComp_fz {vs us : List Nat} {fi : FI} {g : FG} {t : FT} {f : FE} [FzI fi] [Wr g us] [FzT t] [Fz f] {ρ : List D} (hv : ∀ k ∈ vs, k < ρ.length) (hu : ∀ k ∈ us, k ∈ vs) : fComp vs fi g t f (fz ρ) = (((PI fi ρ).bind fun ds => compQ (fun d => (PG g (wipeD ρ vs) d).bind (PT t)) (fun d => (PG g (wipeD ρ vs) d).bind (Pw f)) ds 0).map W.lst).map fun w => (fz ρ, R.val w) := by
  unfold fComp
  rw [FzI.eq fi ρ]
  rcases PI fi ρ with _ | ds
  · rfl
  · simp only [Option.map_some, Option.bind_some, compD_fz hv hu ds [], List.length_nil]
    rcases compQ _ _ ds 0 with _ | ws <;> rfl
theorem compD_none {vs us : List Nat} {g : FG} {t : FT} {f : FE} {ρ : List D} (hv : ¬ ∀ k ∈ vs, k < ρ.length) {d : D} {ds : List D} {ws : List W} : compD vs g t f (d :: ds) (fz ρ) ws = none := by
  have : okV (fz ρ) vs = false := by
    unfold okV
    rw [List.all_eq_false]
    obtain ⟨k, hk⟩ := Classical.not_forall.mp hv
    obtain ⟨h1, h2⟩ := Classical.not_imp.mp hk
    refine ⟨k, h1, ?_⟩
    rw [fz_get, List.getElem?_eq_none (by omega)]
    simp
  simp [compD, this]
class SubV (us vs : List Nat) : Prop where
  ok : ∀ k ∈ us, k ∈ vs
instance {vs : List Nat} : SubV [] vs := ⟨fun _ h => by cases h⟩
class MemV (u : Nat) (vs : List Nat) : Prop where
  ok : u ∈ vs
instance {u : Nat} {vs : List Nat} : MemV u (u :: vs) := ⟨by simp⟩
instance (priority := low) {u w : Nat} {vs : List Nat} [h : MemV u vs] : MemV u (w :: vs) := ⟨by simp [h.ok]⟩
instance {u : Nat} {us vs : List Nat} [h1 : MemV u vs] [h : SubV us vs] : SubV (u :: us) vs := ⟨fun k hk => by
  rcases List.mem_cons.mp hk with rfl | hk
  · exact h1.ok
  · exact h.ok k hk⟩
instance {us us' vs : List Nat} [h1 : SubV us vs] [h : SubV us' vs] : SubV (us ++ us') vs := ⟨fun k hk => by
  rcases List.mem_append.mp hk with hk | hk
  · exact h1.ok k hk
  · exact h.ok k hk⟩
instance {fi : FI} {vs us : List Nat} {g : FG} {t : FT} {f : FE} [FzI fi] [Wr g us] [FzT t] [Fz f] [hs : SubV us vs] : Fz (fComp vs fi g t f) := ⟨fun {ρ en' r} e => by
  by_cases hv : ∀ k ∈ vs, k < ρ.length
  · rw [fComp_fz hv hs.ok, Option.map_eq_some_iff] at e
    obtain ⟨w, _, e⟩ := e
    cases e; exact ⟨rfl, _, rfl⟩
  · unfold fComp at e
    rw [FzI.eq fi ρ] at e
    cases ep : PI fi ρ with
    | none => rw [ep] at e; cases e
    | some ds =>
      rw [ep] at e
      simp only [Option.map_some] at e
      cases ds with
      | nil => simp only [compD] at e; cases e; exact ⟨rfl, _, rfl⟩
      | cons d ds => rw [compD_none (us := us) hv] at e; cases e⟩
theorem P_fComp {vs us : List Nat} {fi : FI} {g : FG} {t : FT} {f : FE} {ρ : List D} [FzI fi] [Wr g us] [FzT t] [Fz f] [hs : SubV us vs] (hv : vs.all (fun k => decide (k < ρ.length)) = true) : P (fComp vs fi g t f) ρ = ((PI fi ρ).bind fun ds => compQ (fun d => (PG g (wipeD ρ vs) d).bind (PT t)) (fun d => (PG g (wipeD ρ vs) d).bind (P f)) ds 0).map D.lst := by
  have hv' : ∀ k ∈ vs, k < ρ.length := fun k hk => by simpa using List.all_eq_true.mp hv k hk
  rw [P, Pw_of (fComp_fz hv' hs.ok)]
  rcases PI fi ρ with _ | ds
  · rfl
  · simp only [Option.bind_some, Option.map_map]
    have := compQ_mapE (T := fun d => (PG g (wipeD ρ vs) d).bind (PT t)) (E := fun d => (PG g (wipeD ρ vs) d).bind (Pw f)) W.d ds 0
    rw [show (fun d => (PG g (wipeD ρ vs) d).bind (P f)) = fun d => ((PG g (wipeD ρ vs) d).bind (Pw f)).map W.d from funext fun d => by rcases PG g (wipeD ρ vs) d with _ | ρ1 <;> rfl, ← this, Option.map_map]
    congr 1
    funext ws
    simp [W.d, ds_map]
def cl : Nat → D → Bool
  | 0, d => d.tdat
  | n + 1, .lst ds => ds.all (cl n)
  | _ + 1, d => d.tdat
theorem clean_of_tdat : ∀ {w : W}, w.d.tdat = true → w.clean = true
  | .sh d, h => by simpa only [W.clean, W.d] using h
  | .lst ws, h => by simp only [W.d, D.tdat] at h; cases h
  | .dT _ _, h => by simp only [W.d, D.tdat] at h; cases h
  | .dK _ _, h => by simp only [W.d, D.tdat] at h; cases h
  | .ins _ _, h => by simp only [W.d, D.tdat] at h; cases h
theorem cl_tdat {d : D} (h : d.tdat = true) : ∀ {n : Nat}, cl n d = true
  | 0 => h
  | n + 1 => by cases d <;> first | exact h | (simp only [D.tdat] at h; cases h)
theorem cl_mono {d : D} : ∀ {n m : Nat}, n ≤ m → cl n d = true → cl m d = true := fun {n} => by
  induction n generalizing d with
  | zero => intro m _ h; exact cl_tdat h
  | succ n ih =>
    intro m hm h
    cases m with
    | zero => omega
    | succ m =>
      cases d <;> simp only [cl] at h ⊢ <;> first | exact h | skip
      rw [List.all_eq_true] at h ⊢
      exact fun x hx => ih (by omega) (h x hx)
class Ow (n : outParam Nat) (f : FE) : Prop where
  ok : ∀ {ρ w}, Pw f ρ = some w → cl n w.d = true → w.clean = true
instance (priority := low) {f : FE} : Ow 0 f := ⟨fun _ h => clean_of_tdat h⟩
theorem clean_one {w : W} (h : ∀ ds, w.d = .lst ds → w = .lst (ds.map W.sh)) (hc : cl 1 w.d = true) : w.clean = true := by
  cases e : w.d
  case lst ds =>
    rw [h ds e]
    rw [e] at hc
    simp only [cl] at hc
    exact cleans_all fun x hx => by
      obtain ⟨d, hd, rfl⟩ := List.mem_map.mp hx
      simpa [W.clean] using List.all_eq_true.mp hc d hd
  all_goals exact clean_of_tdat (by rw [e] at hc ⊢; simpa only [cl] using hc)
where cleans_all : ∀ {ws : List W}, (∀ w ∈ ws, w.clean = true) → W.cleans ws = true
  | [], _ => rfl
  | w :: ws, h => by
    have z := cleans_all (ws := ws) fun x hx => h x (by simp [hx])
    simp only [W.cleans, h w (by simp), z, Bool.and_self]
/-- an operation that tells a list of its own -/
class OwG (g : En → List R → Option (En × R)) : Prop where
  ok : ∀ {en : En} {ws : List W} {en' : En} {w : W}, g en (ws.map R.val) = some (en', .val w) → ∀ ds, w.d = .lst ds → w = .lst (ds.map W.sh)
class OwU (g : En → R → Option (En × R)) : Prop where
  ok : ∀ {en u en' w}, g en (.val u) = some (en', .val w) → ∀ ds, w.d = .lst ds → w = .lst (ds.map W.sh)
instance {g : En → List R → Option (En × R)} {fs : List FE} [h : OwG g] [FzLs fs] : Ow 1 (fN g fs) := ⟨fun {ρ w} e hc => by
  unfold Pw fN at e
  rw [FzLs.eq fs ρ] at e
  cases ep : PLw fs ρ with
  | none => rw [ep] at e; cases e
  | some ws =>
    rw [ep] at e
    simp only [Option.map_some] at e
    split at e
    · rename_i en' w' e2
      cases e
      exact clean_one (h.ok e2) hc
    · cases e⟩
instance {g : En → R → Option (En × R)} {f : FE} [h : OwU g] [Fz f] : Ow 1 (fU g f) := ⟨fun {ρ w} e hc => by
  unfold Pw fU at e
  rw [Fz.eq f ρ] at e
  cases ep : Pw f ρ with
  | none => rw [ep] at e; cases e
  | some ws =>
    rw [ep] at e
    simp only [Option.map_some] at e
    split at e
    · rename_i en' w' e2
      cases e
      exact clean_one (h.ok e2) hc
    · cases e⟩
end Pu
namespace Pu
variable [TabN]
open PySem PySem.Spec PyProof.Rows L2
theorem OwU.els {g : En → R → Option (En × R)} (F : Kd → List D → Option W) (h : ∀ en r, g en r = match R.els en r with
    | some (en', k, ds) => (F k ds).map fun w => (en', R.val w)
    | none => none) (h2 : ∀ k ds w es, F k ds = some w → w.d = .lst es → w = .lst (es.map W.sh)) : OwU g := ⟨fun {en u en' w} e ds hd => by
  rw [h, els_val] at e
  cases hi : u.d.its with
  | none => rw [hi] at e; cases e
  | some x =>
    obtain ⟨k, es⟩ := x
    rw [hi] at e
    simp only [Option.map_some] at e
    rw [Option.map_eq_some_iff] at e
    obtain ⟨w', e1, e2⟩ := e
    cases e2
    exact h2 k es w ds e1 hd⟩
theorem own_row {ds es : List D} {w : W} (h : some (W.lst (ds.map W.sh)) = some w) (e : w.d = .lst es) : w = .lst (es.map W.sh) := by
  cases h
  simp only [W.d, sh_ds, D.lst.injEq] at e
  subst e
  rfl
instance : OwU gList := OwU.els (fun _ ds => some (.lst (ds.map W.sh))) (fun en r => by unfold gList; rcases R.els en r with _ | ⟨en', k, ds⟩ <;> rfl) fun k ds w es h e => own_row h e
instance : OwU gSort := OwU.els (fun k ds => if k = .t then none else (oSort ds).map fun es => .lst (es.map W.sh)) (fun en r => by
    unfold gSort
    rcases R.els en r with _ | ⟨en', k, ds⟩
    · rfl
    · simp only
      split
      · rfl
      · cases oSort ds <;> rfl) fun k ds w es h e => by
  split at h
  · cases h
  · cases ho : oSort ds with
    | none => rw [ho] at h; cases h
    | some xs => rw [ho] at h; exact own_row h e
instance : OwU gSortSet := OwU.els (fun _ ds => match dkeys ds with
  | some ks => if ks.length < 4000 ∧ alikeB ((ddK ks).map kPy) = true then some (.lst ((srt leD ((ddK ks).map keyD)).map W.sh)) else none
  | none => none) (fun en r => by
    unfold gSortSet
    rcases R.els en r with _ | ⟨en', k, ds⟩
    · rfl
    · simp only
      cases dkeys ds with
      | none => rfl
      | some ks => simp only; split <;> rfl) fun k ds w es h e => by
  split at h
  · split at h
    · exact own_row h e
    · cases h
  · cases h
instance : OwU gSortX := ⟨fun {en u en' w} e ds hd => by
  unfold gSortX at e
  rw [dT_val, els_val] at e
  split at e
  · split at e
    · cases e; exact own_row rfl hd
    · cases e
  · cases hi : u.d.its with
    | none => rw [hi] at e; cases e
    | some x =>
      obtain ⟨k, es⟩ := x
      rw [hi] at e
      simp only [Option.map_some] at e
      split at e
      · cases e; exact own_row rfl hd
      · cases e⟩
instance : OwU gListT := ⟨fun {en u en' w} e ds hd => by
  unfold gListT at e
  rw [dT_val] at e
  split at e
  · cases e; exact own_row rfl hd
  · cases e⟩
theorem slOf_own {en en' : En} {u w : W} {lo hi : Option Int} {ds : List D} (e : slOf en (.val u) lo hi = some (en', .val w)) (hd : w.d = .lst ds) : w = .lst (ds.map W.sh) := by
  unfold slOf at e
  rw [els_val] at e
  split at e
  · split at e
    · cases e; cases hd
    · cases e
  · cases hi2 : u.d.its with
    | none => rw [hi2] at e; cases e
    | some x =>
      obtain ⟨k, es⟩ := x
      rw [hi2] at e
      cases k <;> (simp only [Option.map_some] at e; cases e)
      · cases hd
      · exact own_row rfl hd
      · exact own_row rfl hd
instance : OwU gSl0 := ⟨fun e ds hd => slOf_own e hd⟩
instance : OwG gSlLo := ⟨fun {en ws en' w} e ds hd => by
  rcases two_or (ws := ws) with ⟨a, b, rfl⟩ | hn
  · change (match R.d en (.val b) with
      | some (.int i) => slOf en (.val a) (some i) none
      | _ => none) = some (en', R.val w) at e
    split at e
    · exact slOf_own e hd
    · cases e
  · match ws, hn with
    | [], _ => cases e
    | [_], _ => cases e
    | [a, b], hn => exact absurd rfl (hn a b)
    | _ :: _ :: _ :: _, _ => cases e⟩
instance : OwG gSlHi := ⟨fun {en ws en' w} e ds hd => by
  rcases two_or (ws := ws) with ⟨a, b, rfl⟩ | hn
  · change (match R.d en (.val b) with
      | some (.int i) => slOf en (.val a) none (some i)
      | _ => none) = some (en', R.val w) at e
    split at e
    · exact slOf_own e hd
    · cases e
  · match ws, hn with
    | [], _ => cases e
    | [_], _ => cases e
    | [a, b], hn => exact absurd rfl (hn a b)
    | _ :: _ :: _ :: _, _ => cases e⟩
instance {fe fl fh : FE} [Fz fe] [Fz fl] [Fz fh] : Ow 1 (fSl2 fe fl fh) := ⟨fun {ρ w} e hc => by
  refine clean_one (fun ds hd => ?_) hc
  unfold Pw fSl2 at e
  rw [FzLs.eq [fe, fl] ρ] at e
  cases h1 : PLw [fe, fl] ρ with
  | none => rw [h1] at e; cases e
  | some ws =>
    rw [h1] at e
    simp only [Option.map_some] at e
    rcases two_or (ws := ws) with ⟨a, b, rfl⟩ | hn
    · simp only [List.map_cons, List.map_nil] at e
      split at e
      · rename_i z1 w1 he
        rw [Fz.eq fh ρ] at he
        cases h2 : Pw fh ρ with
        | none =>
          rw [h2] at he
          simp only [Option.map_none] at he
          split at he <;> cases he
        | some c =>
          rw [h2] at he
          simp only [Option.map_some] at he
          cases e
          split at he
          · split at he
            · exact slOf_own he hd
            · cases he
          · cases he
      · cases e
    · match ws, hn with
      | [], _ => cases e
      | [_], _ => cases e
      | [a, b], hn => exact absurd rfl (hn a b)
      | _ :: _ :: _ :: _, _ => cases e⟩
theorem notrow {op : List D → Option D} (h : ∀ ds es, op ds ≠ some (.lst es)) : OwG (gS op) := ⟨fun {en ws en' w} e ds hd => by
  simp only [gS, rds_val] at e
  split at e
  · cases e
  · rename_i d e2
    cases e
    simp only [W.d] at hd
    subst hd
    exact absurd e2 (h _ _)⟩
instance {g g' : En → List R → Option (En × R)} [h : OwG g] [h' : OwG g'] : OwG (gOr g g') := ⟨fun {en ws en' w} e ds hd => by
  unfold gOr at e
  split at e
  · rename_i x e2
    cases e
    exact h.ok e2 ds hd
  · exact h'.ok e ds hd⟩
theorem oII_row {C : Int → Int → Bool} {g : Int → Int → D} (h : ∀ i j es, g i j ≠ .lst es) : ∀ ds es, oII C g ds ≠ some (.lst es) := fun ds es e => by
  unfold oII at e
  split at e
  · split at e
    · exact h _ _ _ (Option.some.inj e)
    · cases e
  · cases e
instance : OwG (gS oAddI) := notrow (oII_row fun _ _ _ h => by cases h)
instance : OwG (gS oMul) := notrow (oII_row fun _ _ _ h => by cases h)
instance : OwG (gS oAddS) := notrow fun ds es h => by
  unfold oAddS at h
  split at h
  · first | cases h | (split at h <;> cases h)
  · cases h
instance : OwG gCatL := ⟨fun {en ws en' w} e ds hd => by
  rcases two_or (ws := ws) with ⟨a, b, rfl⟩ | hn
  · simp only [List.map_cons, List.map_nil, gCatL, els2_val] at e
    split at e
    · split at e
      · cases e; exact own_row rfl hd
      · cases e
    · cases e
  · match ws, hn with
    | [], _ => cases e
    | [_], _ => cases e
    | [a, b], hn => exact absurd rfl (hn a b)
    | _ :: _ :: _ :: _, _ => cases e⟩
instance : OwG gCatT := ⟨fun {en ws en' w} e ds hd => by
  rcases two_or (ws := ws) with ⟨a, b, rfl⟩ | hn
  · simp only [List.map_cons, List.map_nil, gCatT, els2_val] at e
    split at e
    · split at e
      · cases e; cases hd
      · cases e
    · cases e
  · match ws, hn with
    | [], _ => cases e
    | [_], _ => cases e
    | [a, b], hn => exact absurd rfl (hn a b)
    | _ :: _ :: _ :: _, _ => cases e⟩
instance : OwG gAdd := inferInstanceAs (OwG (gOr (gS oAddI) (gOr (gS oAddS) (gOr gCatL gCatT))))
section
variable {f a b : FE} [Fz f] [Fz a] [Fz b]
instance : Ow 1 (fAdd a b) := inferInstanceAs (Ow 1 (fN gAdd [a, b]))
instance : Ow 1 (fList f) := inferInstanceAs (Ow 1 (fU gList f))
instance : Ow 1 (fSorted f) := inferInstanceAs (Ow 1 (fU gSort f))
instance : Ow 1 (fSortX f) := inferInstanceAs (Ow 1 (fU gSortX f))
instance : Ow 1 (fListT f) := inferInstanceAs (Ow 1 (fU gListT f))
instance : Ow 1 (fSortSet f) := inferInstanceAs (Ow 1 (fU gSortSet f))
end
theorem cleans_all' : ∀ {ws : List W}, (∀ w ∈ ws, w.clean = true) → W.cleans ws = true
  | [], _ => rfl
  | w :: ws, h => by
    have z := cleans_all' (ws := ws) fun x hx => h x (by simp [hx])
    simp only [W.cleans, h w (by simp), z, Bool.and_self]
theorem compQ_mem {α β : Type} {T : α → Option Bool} {E : α → Option β} : ∀ {xs : List α} {n : Nat} {es : List β}, compQ T E xs n = some es → ∀ e ∈ es, ∃ x ∈ xs, E x = some e
  | [], n, es, h, e, he => by simp only [compQ] at h; cases h; cases he
  | x :: xs, n, es, h, e, he => by
    simp only [compQ] at h
    split at h
    · cases h
    · obtain ⟨y, hy, e2⟩ := compQ_mem h e he
      exact ⟨y, by simp [hy], e2⟩
    · split at h
      · cases h
      · rename_i z e1
        split at h
        · rw [Option.map_eq_some_iff] at h
          obtain ⟨es', h1, rfl⟩ := h
          rcases List.mem_cons.mp he with rfl | he
          · exact ⟨x, by simp, e1⟩
          · obtain ⟨y, hy, e2⟩ := compQ_mem h1 e he
            exact ⟨y, by simp [hy], e2⟩
        · cases h
theorem ds_mem {ws : List W} {w : W} (h : w ∈ ws) : w.d ∈ W.ds ws := by rw [ds_map]; exact List.mem_map.mpr ⟨w, h, rfl⟩
instance {fi : FI} {vs us : List Nat} {g : FG} {t : FT} {f : FE} {n : Nat} [FzI fi] [hg : Wr g us] [FzT t] [Fz f] [hs : SubV us vs] [ho : Ow n f] : Ow (n + 1) (fComp vs fi g t f) := ⟨fun {ρ w} e hc => by
  by_cases hv : ∀ k ∈ vs, k < ρ.length
  · rw [Pw_of (fComp_fz hv hs.ok), Option.map_eq_some_iff] at e
    obtain ⟨ws, e1, rfl⟩ := e
    rw [Option.bind_eq_some_iff] at e1
    obtain ⟨ds, _, e2⟩ := e1
    simp only [W.clean]
    refine cleans_all' fun w hw => ?_
    obtain ⟨d, _, e3⟩ := compQ_mem e2 w hw
    rw [Option.bind_eq_some_iff] at e3
    obtain ⟨ρ1, _, e4⟩ := e3
    refine ho.ok e4 ?_
    simp only [W.d, cl, List.all_eq_true] at hc
    exact hc _ (ds_mem hw)
  · unfold Pw fComp at e
    rw [FzI.eq fi ρ] at e
    cases ep : PI fi ρ with
    | none => rw [ep] at e; cases e
    | some ds =>
      rw [ep] at e
      simp only [Option.map_some] at e
      cases ds with
      | nil => simp only [compD] at e; cases e; rfl
      | cons d ds => rw [compD_none (us := us) hv] at e; cases e⟩
instance {g : PF} {fs : List FE} [FzLs fs] : Ow 60 (fCallP g fs) := ⟨fun {ρ w} e _ => by
  obtain ⟨o, h1, _, h3⟩ := fCallP_fz (g := g) (fs := fs) ρ
  rw [Pw_of h1] at e
  exact h3 w e⟩
instance {g : PF} {is : List Nat} {m : Nat} {fs : List FE} [FzLs fs] : Ow 60 (fCallKP g is m fs) := ⟨fun {ρ w} e _ => by
  obtain ⟨o, h1, _, h3⟩ := fCallKP_fz (g := g) (is := is) (m := m) (fs := fs) ρ
  rw [Pw_of h1] at e
  exact h3 w e⟩
instance {c : Str} {g : PF} {f : FE} {fs : List FE} [Fz f] [FzLs fs] : Ow 60 (fMethP c g f fs) := inferInstanceAs (Ow 60 (fCallP g (fCk c f :: fs)))
class OwL (n : outParam Nat) (fs : List FE) : Prop where
  ok : ∀ {ρ ws}, PLw fs ρ = some ws → ∀ w ∈ ws, cl n w.d = true → w.clean = true
instance : OwL 60 [] := ⟨fun {ρ ws} e w hw => by cases e; cases hw⟩
instance {n m : Nat} {f : FE} {fs : List FE} [h : Ow n f] [hs : OwL m fs] : OwL (min n m) (f :: fs) := ⟨fun {ρ ws} e w hw hc => by
  simp only [PLw] at e
  rw [Option.bind_eq_some_iff] at e
  obtain ⟨w1, e1, e2⟩ := e
  rw [Option.map_eq_some_iff] at e2
  obtain ⟨ws1, e2, rfl⟩ := e2
  rcases List.mem_cons.mp hw with rfl | hw
  · exact h.ok e1 (cl_mono (Nat.min_le_left _ _) hc)
  · exact hs.ok e2 w hw (cl_mono (Nat.min_le_right _ _) hc)⟩
instance {n : Nat} {fs : List FE} [FzLs fs] [h : OwL n fs] : Ow (n + 1) (fLst fs) := ⟨fun {ρ w} e hc => by
  unfold Pw fLst fN at e
  rw [FzLs.eq fs ρ] at e
  cases ep : PLw fs ρ with
  | none => rw [ep] at e; cases e
  | some ws =>
    rw [ep] at e
    simp only [Option.map_some, gLstD, rtk_val] at e
    split at e
    · rename_i z1 w1 he
      split at he
      · cases he
        cases e
        simp only [W.clean]
        simp only [W.d, cl, List.all_eq_true] at hc
        exact cleans_all' fun w hw => h.ok ep w hw (hc _ (ds_mem hw))
      · cases he
    · cases e⟩
instance {t : FT} {f g : FE} {n m : Nat} [FzT t] [Fz f] [Fz g] [h1 : Ow n f] [h2 : Ow m g] : Ow (min n m) (fIf t f g) := ⟨fun {ρ w} e hc => by
  rw [Pw_of (fIf_fz ρ), Option.bind_eq_some_iff] at e
  obtain ⟨b, _, e⟩ := e
  cases b
  · exact h2.ok (by simpa using e) (cl_mono (Nat.min_le_right _ _) hc)
  · exact h1.ok (by simpa using e) (cl_mono (Nat.min_le_left _ _) hc)⟩
mutual
def up : D → W
  | .lst ds => .lst (ups ds)
  | .non => .sh .non
  | .any => .sh .any
  | .bl b => .sh (.bl b)
  | .int i => .sh (.int i)
  | .str x => .sh (.str x)
  | .tup ds => .sh (.tup ds)
  | .frl ds => .sh (.frl ds)
  | .dT ks ds => .sh (.dT ks ds)
  | .dK ks ds => .sh (.dK ks ds)
  | .lT ks ds => .sh (.lT ks ds)
  | .ins c ds => .sh (.ins c ds)
def ups : List D → List W
  | [] => []
  | d :: ds => up d :: ups ds
end
theorem ups_map : ∀ ds : List D, ups ds = ds.map up
  | [] => by simp [ups]
  | d :: ds => by simp [ups, ups_map ds]
theorem up_tdat {d : D} (h : d.tdat = true) : up d = .sh d := by
  cases d
  case lst ds => simp only [D.tdat] at h; cases h
  all_goals simp only [up]
mutual
theorem clean_up : ∀ {w : W}, w.clean = true → w = up w.d
  | .sh d, h => by rw [W.d, up_tdat (by simpa [W.clean] using h)]
  | .lst ws, h => by
    simp only [W.clean] at h
    simp only [W.d, up]
    rw [← cleans_ups h]
  | .dT _ _, h => by cases h
  | .dK _ _, h => by cases h
  | .ins _ _, h => by cases h
theorem cleans_ups : ∀ {ws : List W}, W.cleans ws = true → ws = ups (W.ds ws)
  | [], _ => rfl
  | w :: ws, h => by
    simp only [W.cleans, Bool.and_eq_true] at h
    simp only [W.ds, ups]
    rw [← clean_up h.1, ← cleans_ups h.2]
end
mutual
theorem up_d : ∀ d : D, (up d).d = d
  | .lst ds => by simp only [up, W.d, ups_ds ds]
  | .non => rfl
  | .any => rfl
  | .bl b => rfl
  | .int i => rfl
  | .str x => rfl
  | .tup ds => rfl
  | .frl ds => rfl
  | .dT ks ds => rfl
  | .dK ks ds => rfl
  | .lT ks ds => rfl
  | .ins c ds => rfl
theorem ups_ds : ∀ ds : List D, W.ds (ups ds) = ds
  | [] => rfl
  | d :: ds => by simp only [ups, W.ds, up_d d, ups_ds ds]
end
theorem pure_up {n : Nat} {f : FE} [h : Ow n f] {en : En} {d : D} (e : P f (en.map W.d) = some d) (hc : cl n d = true) : fPure f en = some (en, .val (up d)) := by
  unfold P at e
  rw [Option.map_eq_some_iff] at e
  obtain ⟨w, e1, rfl⟩ := e
  have cw := h.ok e1 hc
  unfold Pw at e1
  unfold fPure
  rw [frzE_fz]
  split at e1
  · rename_i en1 w1 e2
    cases e1
    simp only [e2, cw, if_true]
    rw [← clean_up cw]
  · cases e1
theorem pureT_eq {t : FT} {en : En} : fPureT t en = (PT t (en.map W.d)).map fun b => (en, b) := by
  unfold fPureT PT
  rw [frzE_fz]
  rcases t (fz (en.map W.d)) with _ | ⟨en1, b⟩ <;> rfl
/-- a def's answer by what its body tells on frozen things -/
theorem pCall_of {g : PF} {ds : List D} {w : W} {ws : List W} {d : D} (h : g (ds.map W.sh) = some (w, ws)) (hd : w.d = d) (hc : w.clean = true) : pCall g ds = some d := by
  unfold pCall
  rw [h]
  simp only [hc, if_true, hd]
class FzS (fs : List (Bool × FE)) : Prop where
  all : ∀ x ∈ fs, Fz x.2
instance : FzS [] := ⟨fun _ h => by cases h⟩
instance {b : Bool} {f : FE} {fs : List (Bool × FE)} [h : Fz f] [hs : FzS fs] : FzS ((b, f) :: fs) := ⟨fun g hg => by
  rcases List.mem_cons.mp hg with rfl | hg
  · exact h
  · exact hs.all g hg⟩
def PSt : List (Bool × FE) → List D → Option (List D)
  | [], _ => some []
  | (b, f) :: fs, ρ => (P f ρ).bind fun d => if b = true then (d.its).bind fun x => (PSt fs ρ).map fun ds => x.2 ++ ds else (PSt fs ρ).map fun ds => d :: ds
theorem evS_fz : ∀ {fs : List (Bool × FE)} (h : ∀ x ∈ fs, Fz x.2) {ρ : List D}, evS fs (fz ρ) = (PSt fs ρ).map fun ds => (fz ρ, ds)
  | [], _, ρ => rfl
  | (b, f) :: fs, h, ρ => by
    have hf : Fz f := h _ (List.mem_cons_self)
    have ih := evS_fz (fs := fs) (fun x hx => h x (by simp [hx])) (ρ := ρ)
    simp only [evS, PSt, P]
    rw [Fz.eq f ρ]
    cases Pw f ρ with
    | none => rfl
    | some w =>
      simp only [Option.map_some, Option.bind_some]
      cases b with
      | true =>
        simp only [if_true, els_val]
        cases w.d.its with
        | none => rfl
        | some x =>
          simp only [Option.map_some, Option.bind_some, ih]
          cases PSt fs ρ <;> rfl
      | false =>
        simp only [Bool.false_eq_true, if_false, R.fz, ih]
        cases PSt fs ρ <;> rfl
theorem fLstS_fz {fs : List (Bool × FE)} [h : FzS fs] (ρ : List D) : fLstS fs (fz ρ) = ((PSt fs ρ).bind fun ds => if ds.length ≤ sizeLine then some (W.lst (ds.map W.sh)) else none).map fun w => (fz ρ, R.val w) := by
  unfold fLstS
  rw [evS_fz h.all]
  cases PSt fs ρ with
  | none => rfl
  | some ds => simp only [Option.map_some, Option.bind_some]; split <;> rfl
theorem fTupS_fz {fs : List (Bool × FE)} [h : FzS fs] (ρ : List D) : fTupS fs (fz ρ) = ((PSt fs ρ).bind fun ds => if ds.length ≤ sizeLine then some (W.sh (.tup ds)) else none).map fun w => (fz ρ, R.val w) := by
  unfold fTupS
  rw [evS_fz h.all]
  cases PSt fs ρ with
  | none => rfl
  | some ds => simp only [Option.map_some, Option.bind_some]; split <;> rfl
instance {fs : List (Bool × FE)} [FzS fs] : Fz (fLstS fs) := Fz.mk' fun ρ => ⟨_, fLstS_fz ρ⟩
instance {fs : List (Bool × FE)} [FzS fs] : Fz (fTupS fs) := Fz.mk' fun ρ => ⟨_, fTupS_fz ρ⟩
theorem P_fLstS {fs : List (Bool × FE)} {ρ : List D} [FzS fs] : P (fLstS fs) ρ = (PSt fs ρ).bind pLst := by
  rw [P, Pw_of (fLstS_fz ρ)]
  cases PSt fs ρ with
  | none => rfl
  | some ds => simp only [Option.bind_some, pLst]; split <;> simp [W.d, sh_ds]
theorem P_fTupS {fs : List (Bool × FE)} {ρ : List D} [FzS fs] : P (fTupS fs) ρ = (PSt fs ρ).bind pTup := by
  rw [P, Pw_of (fTupS_fz ρ)]
  cases PSt fs ρ with
  | none => rfl
  | some ds => simp only [Option.bind_some, pTup]; split <;> simp [W.d]
instance {fs : List (Bool × FE)} [FzS fs] : Ow 1 (fLstS fs) := ⟨fun {ρ w} e hc => by
  refine clean_one (fun ds hd => ?_) hc
  rw [Pw_of (fLstS_fz ρ), Option.bind_eq_some_iff] at e
  obtain ⟨es, _, e⟩ := e
  split at e
  · exact own_row e hd
  · cases e⟩
theorem fIdx_fz {f : FE} {fa : En → Option D} [Fz f] (ρ : List D) : fIdx f fa (fz ρ) = (((P f ρ).bind fun d => match d with
    | .lst ds => (fa (fz ρ)).bind fun x => (ixF x ds).map fun j => D.int (j : Nat)
    | _ => none).map W.sh).map fun w => (fz ρ, R.val w) := by
  unfold fIdx P
  rw [Fz.eq f ρ]
  cases Pw f ρ with
  | none => rfl
  | some w =>
    simp only [Option.map_some, R.d, Option.bind_some]
    cases w.d <;> try rfl
    rename_i ds
    simp only
    cases fa (fz ρ) with
    | none => rfl
    | some d => simp only [Option.bind_some]; cases ixF d ds <;> rfl
instance {f : FE} {fa : En → Option D} [Fz f] : Fz (fIdx f fa) := Fz.mk' fun ρ => ⟨_, fIdx_fz ρ⟩
def pIdx (d : D) (a : Option D) : Option D := match d with
  | .lst ds => a.bind fun x => (ixF x ds).map fun j => D.int (j : Nat)
  | _ => none
theorem P_fIdx {f : FE} {fa : En → Option D} {ρ : List D} [Fz f] : P (fIdx f fa) ρ = (P f ρ).bind fun d => pIdx d (fa (fz ρ)) := by
  rw [P, Pw_of (fIdx_fz ρ), Option.map_map]
  unfold pIdx
  cases P f ρ with
  | none => rfl
  | some d => cases d <;> first | rfl | (simp only [Option.bind_some]; cases fa (fz ρ) with
    | none => rfl
    | some x => simp only [Option.bind_some]; rename_i ds; cases ixF x ds <;> rfl)
theorem qV_fz {i : Nat} {ρ : List D} : qV i (fz ρ) = ρ[i]?.bind un := by
  unfold qV
  rw [fz_get]
  cases ρ[i]? with
  | none => rfl
  | some d => cases d <;> rfl
theorem qC_fz {d : D} {en : En} : qC d en = some d := rfl
end Pu
namespace Pu
variable [TabN]
open PySem PySem.Spec PyProof.Rows L2
class ShyL (fs : List FE) : Prop where
  all : ∀ f ∈ fs, Shy f
instance : ShyL [] := ⟨fun _ h => by cases h⟩
instance {f : FE} {fs : List FE} [h : Shy f] [hs : ShyL fs] : ShyL (f :: fs) := ⟨fun g hg => by
  rcases List.mem_cons.mp hg with rfl | hg
  · exact h
  · exact hs.all g hg⟩
instance {d : D} : Shy (fC d) := ⟨fun {ρ w} h => by
  rw [Pw_of (fC_fz ρ)] at h
  cases h; exact ⟨d, rfl⟩⟩
theorem shyL_ws : ∀ {fs : List FE} (h : ∀ f ∈ fs, Shy f) {ρ : List D} {ws : List W}, PLw fs ρ = some ws → ws = (W.ds ws).map W.sh
  | [], _, ρ, ws, e => by simp only [PLw] at e; cases e; rfl
  | f :: fs, h, ρ, ws, e => by
    simp only [PLw] at e
    rw [Option.bind_eq_some_iff] at e
    obtain ⟨w, e1, e2⟩ := e
    rw [Option.map_eq_some_iff] at e2
    obtain ⟨us, e2, rfl⟩ := e2
    obtain ⟨d, rfl⟩ := (h f (by simp)).ok e1
    simp only [W.ds, W.d, List.map_cons]
    rw [← shyL_ws (fs := fs) (fun g hg => h g (by simp [hg])) e2]
theorem argsOf_val (en : En) : ∀ ws : List W, argsOf en (ws.map R.val) = some (en, ws, ws.map fun _ => none)
  | [] => rfl
  | w :: ws => by simp only [List.map_cons, argsOf, argsOf_val en ws]
theorem putB_none : ∀ (en : En) (us ws : List W), putB en (us.map fun _ => none) ws = en
  | en, [], ws => by cases ws <;> rfl
  | en, u :: us, [] => rfl
  | en, u :: us, w :: ws => by simp only [List.map_cons, putB, putB_none en us ws]
theorem fCall_fz {g : PF} {fs : List FE} [FzLs fs] (ρ : List D) : fCall g fs (fz ρ) = ((PLw fs ρ).bind fun ws => match g ws with
    | some (w, ws') => if ws'.length = ws.length then some w else none
    | none => none).map fun w => (fz ρ, R.val w) := by
  unfold fCall
  rw [FzLs.eq fs ρ]
  cases PLw fs ρ with
  | none => rfl
  | some ws =>
    simp only [Option.map_some, argsOf_val, Option.bind_some]
    cases g ws with
    | none => rfl
    | some x =>
      obtain ⟨w, ws'⟩ := x
      simp only
      split
      · rw [putB_none]; rfl
      · rfl
instance {g : PF} {fs : List FE} [FzLs fs] : Fz (fCall g fs) := Fz.mk' fun ρ => ⟨_, fCall_fz ρ⟩
/-- what a call tells that may take what it is given -/
def pTake (g : PF) (ds : List D) : Option D := match g (ds.map W.sh) with
  | some (w, ws') => if ws'.length = ds.length then some w.d else none
  | none => none
theorem P_fCall {g : PF} {fs : List FE} {ρ : List D} [FzLs fs] [hs : ShyL fs] : P (fCall g fs) ρ = (PL fs ρ).bind (pTake g) := by
  rw [P, Pw_of (fCall_fz ρ), PL]
  cases e : PLw fs ρ with
  | none => rfl
  | some ws =>
    have hw := shyL_ws hs.all e
    have hl : (W.ds ws).length = ws.length := ds_len ws
    simp only [Option.bind_some, Option.map_some, pTake]
    rw [← hw, hl]
    cases g ws with
    | none => rfl
    | some x =>
      obtain ⟨w, ws'⟩ := x
      simp only
      split <;> rfl
def mkRes (n : Nat) : Option (W × List W) → Option W
  | some (.sh .non, wi :: ws') => if ws'.length = n then some wi else none
  | _ => none
theorem mkRes_eq {n : Nat} {en : En} (o : Option (W × List W)) (F : List W → En) (hF : ∀ ws', F ws' = en) : (match o with
    | some (.sh .non, wi :: ws') => if ws'.length = n then some (F ws', R.val wi) else none
    | _ => none) = (mkRes n o).map fun w => (en, R.val w) := by
  rcases o with _ | ⟨w, _ | ⟨wi, ws'⟩⟩
  · rfl
  · cases w with
    | sh d => cases d <;> rfl
    | _ => rfl
  · cases w with
    | sh d =>
      cases d
      case non =>
        simp only [mkRes, hF]
        split <;> rfl
      all_goals rfl
    | _ => rfl
theorem fMake_fz {c : Str} {g : PF} {fs : List FE} [FzLs fs] (ρ : List D) : fMake c g fs (fz ρ) = ((PLw fs ρ).bind fun ws => mkRes ws.length (g (.ins c [] :: ws))).map fun w => (fz ρ, R.val w) := by
  unfold fMake
  rw [FzLs.eq fs ρ]
  cases PLw fs ρ with
  | none => rfl
  | some ws =>
    simp only [Option.map_some, argsOf_val, Option.bind_some]
    exact mkRes_eq _ (fun ws' => putB (fz ρ) (ws.map fun _ => none) ws') fun ws' => putB_none _ _ _
instance {c : Str} {g : PF} {fs : List FE} [FzLs fs] : Fz (fMake c g fs) := Fz.mk' fun ρ => ⟨_, fMake_fz ρ⟩
def pMake (c : Str) (g : PF) (ds : List D) : Option D := (mkRes ds.length (g (.ins c [] :: ds.map W.sh))).map W.d
theorem P_fMake {c : Str} {g : PF} {fs : List FE} {ρ : List D} [FzLs fs] [hs : ShyL fs] : P (fMake c g fs) ρ = (PL fs ρ).bind (pMake c g) := by
  rw [P, Pw_of (fMake_fz ρ), PL]
  cases e : PLw fs ρ with
  | none => rfl
  | some ws =>
    have hw := shyL_ws hs.all e
    have hl : (W.ds ws).length = ws.length := ds_len ws
    simp only [Option.bind_some, Option.map_some, pMake]
    rw [← hw, hl]
theorem fPure_fz {f : FE} [Fz f] (ρ : List D) : fPure f (fz ρ) = ((Pw f ρ).bind fun w => if w.clean = true then some w else none).map fun w => (fz ρ, R.val w) := by
  unfold fPure
  rw [frz_fz, Fz.eq f ρ]
  cases Pw f ρ with
  | none => rfl
  | some w =>
    simp only [Option.map_some, Option.bind_some]
    split <;> rfl
instance {f : FE} [Fz f] : Fz (fPure f) := Fz.mk' fun ρ => ⟨_, fPure_fz ρ⟩
instance {f : FE} [Fz f] : Ow 60 (fPure f) := ⟨fun {ρ w} e _ => by
  rw [Pw_of (fPure_fz ρ), Option.bind_eq_some_iff] at e
  obtain ⟨u, _, e⟩ := e
  split at e
  · rename_i h; cases e; exact h
  · cases e⟩
section
variable {X : Cx} {elt tg iter : Expr} {ifs : List Expr} {scope : Scope} {own : List (Str × Nat)} {pos : Pos} {fi : FI} {g : FG} {t : FT} {f : FE} {n : Nat}
end
theorem asg_p {n : Nat} {f : FE} [Ow n f] {i : Nat} {en : En} {d : D} {rest : FS} {r : Option (En × Fl)} (e : P f (en.map W.d) = some d) (hc : cl n d = true) (hi : i < en.length) (h : rest (en.set i (up d)) = r) : sSeq (sAsg (fPure f) (gN i)) rest en = r := by
  simp only [sSeq, sAsg, pure_up e hc, R.tk, gN, hi, if_true, h]
theorem asg_p1 {n : Nat} {f : FE} [Ow n f] {i : Nat} {en : En} {d : D} (e : P f (en.map W.d) = some d) (hc : cl n d = true) (hi : i < en.length) : sAsg (fPure f) (gN i) en = some (en.set i (up d), .nx) := by
  simp only [sAsg, pure_up e hc, R.tk, gN, hi, if_true]
theorem ret_p {n : Nat} {f : FE} [Ow n f] {en : En} {d : D} {fix : List Nat} (e : P f (en.map W.d) = some d) (hc : cl n d = true) : sRet fix (fPure f) en = some (en, .ret (up d)) := by
  simp only [sRet, pure_up e hc, R.out]
theorem if_p {t : FT} {a b : FS} {en : En} {x : Bool} {r : Option (En × Fl)} (e : PT t (en.map W.d) = some x) (h : (if x = true then a en else b en) = r) : sIf (fPureT t) a b en = r := by
  simp only [sIf, pureT_eq, e, Option.map_some, h]
theorem seq_if {t : FT} {a b c : FS} {en : En} {x : Bool} {r : Option (En × Fl)} (e : PT t (en.map W.d) = some x) (h : sSeq (if x = true then a else b) c en = r) : sSeq (sIf (fPureT t) a b) c en = r := by
  rw [← h]
  unfold sSeq
  rw [if_p e rfl]
  cases x <;> rfl
/-- a test that is false: nothing is done -/
theorem seq_no {t : FT} {a c : FS} {en : En} {r : Option (En × Fl)} (e : PT t (en.map W.d) = some false) (h : c en = r) : sSeq (sIf (fPureT t) a sNil) c en = r := by
  simp only [sSeq, sIf, pureT_eq, e, Option.map_some, Bool.false_eq_true, if_false, sNil, h]
theorem iSeq_p {n : Nat} {f : FE} [Ow n f] {en : En} {d : D} {ds : List D} (e : P f (en.map W.d) = some d) (hc : cl n d = true) (hw : d.walk = some ds) : iSeq (fPure f) en = some (en, ds) := by
  simp only [iSeq, pure_up e hc, R.fz, up_d, hw]
class Sm {α : Type} (xs : List α) : Prop where
  le : xs.length ≤ 1000000
instance {α : Type} : Sm ([] : List α) := ⟨by simp⟩
instance {α : Type} {p : α → Bool} {xs : List α} [h : Sm xs] : Sm (xs.filter p) := ⟨Nat.le_trans (List.length_filter_le p xs) h.le⟩
instance {α β : Type} {f : α → β} {xs : List α} [h : Sm xs] : Sm (xs.map f) := ⟨by simpa using h.le⟩
instance {α : Type} {n : Nat} {xs : List α} [h : Sm xs] : Sm (xs.take n) := ⟨by have := h.le; simp only [List.length_take]; omega⟩
instance {α : Type} {n : Nat} {xs : List α} [h : Sm xs] : Sm (xs.drop n) := ⟨by have := h.le; simp only [List.length_drop]; omega⟩
theorem Sm.of {α : Type} {xs : List α} {n : Nat} (h : xs.length ≤ n) (hn : n ≤ 1000000) : Sm xs := ⟨by omega⟩
theorem Sm.line {α : Type} {xs : List α} [h : Sm xs] : xs.length ≤ sizeLine := Nat.le_trans h.le (by decide)
theorem compQ_on {α β : Type} {T : α → Option Bool} {E : α → Option β} {p : α → Bool} {o : α → β} : ∀ {xs : List α} {n : Nat}, n + xs.length ≤ 1000000 → (∀ x ∈ xs, T x = some (p x)) → (∀ x ∈ xs, p x = true → E x = some (o x)) → compQ T E xs n = some ((xs.filter p).map o)
  | [], n, _, _, _ => rfl
  | x :: xs, n, hn, hT, hE => by
    simp only [List.length_cons] at hn
    have ih0 := compQ_on (T := T) (E := E) (p := p) (o := o) (xs := xs) (n := n) (by omega) (fun y hy => hT y (by simp [hy])) fun y hy => hE y (by simp [hy])
    have ih1 := compQ_on (T := T) (E := E) (p := p) (o := o) (xs := xs) (n := n + 1) (by omega) (fun y hy => hT y (by simp [hy])) fun y hy => hE y (by simp [hy])
    have hs : n < sizeLine := Nat.lt_of_le_of_lt (by omega : n ≤ 1000000) (by decide)
    simp only [compQ, hT x (by simp)]
    cases hp : p x with
    | false => simp [ih0, hp]
    | true => simp [hE x (by simp) hp, hs, ih1, hp]
theorem compQ_map {α β γ : Type} {T : α → Option Bool} {E : α → Option β} {enc : γ → α} : ∀ {xs : List γ} {n : Nat}, compQ T E (xs.map enc) n = compQ (fun x => T (enc x)) (fun x => E (enc x)) xs n
  | [], n => rfl
  | x :: xs, n => by
    simp only [List.map_cons, compQ, compQ_map (xs := xs)]
theorem compQ_some {α β : Type} {p : α → Bool} {o : α → β} {xs : List α} [h : Sm xs] : compQ (fun x => some (p x)) (fun x => some (o x)) xs 0 = some ((xs.filter p).map o) :=
  compQ_on (by simpa using h.le) (fun _ _ => rfl) fun _ _ _ => rfl
theorem compQ_all {α β : Type} {o : α → β} {xs : List α} [h : Sm xs] : compQ (fun _ => some true) (fun x => some (o x)) xs 0 = some (xs.map o) := by
  have := compQ_some (p := fun _ => true) (o := o) (xs := xs)
  rwa [show xs.filter (fun _ => true) = xs from List.filter_eq_self.mpr fun _ _ => rfl] at this
theorem compQ_nil {α β : Type} {T : α → Option Bool} {E : α → Option β} {n : Nat} : compQ T E [] n = some [] := rfl
theorem oEq_two {a b : D} : oEq [a, b] = (eqD a b).map D.bl := by
  simp only [oEq]
  cases eqD a b <;> rfl
theorem oNe_two {a b : D} : oNe [a, b] = (eqD a b).map fun x => D.bl (!x) := by
  simp only [oNe]
  cases eqD a b <;> rfl
theorem pAdd_int {a b : Int} : pAdd [.int a, .int b] = some (.int (a + b)) := rfl
theorem pAdd_lst {a b : List D} : pAdd [.lst a, .lst b] = if a.length + b.length ≤ sizeLine then some (.lst (a ++ b)) else none := by
  have h : pAdd [.lst a, .lst b] = match (if a.length + b.length ≤ sizeLine then some (D.lst (a ++ b)) else none) with
    | some d => some d
    | none => none := rfl
  rw [h]
  by_cases z : a.length + b.length ≤ sizeLine
  · rw [if_pos z]
  · rw [if_neg z]
theorem pAdd_tup {a b : List D} : pAdd [.tup a, .tup b] = if a.length + b.length ≤ sizeLine then some (.tup (a ++ b)) else none := rfl
theorem pIx_tup {ds : List D} {k : Int} : pIx [.tup ds, .int k] = atI ds k := rfl
theorem pIx_lst {ds : List D} {k : Int} : pIx [.lst ds, .int k] = atI ds k := rfl
theorem pIx_frl {ds : List D} {k : Int} : pIx [.frl ds, .int k] = atI ds k := rfl
theorem pLt_int {a b : Int} : pLt [.int a, .int b] = some (.bl (decide (a < b))) := rfl
theorem oSub_int {a b : Int} : oSub [.int a, .int b] = some (.int (a - b)) := rfl
theorem oLe_int {a b : Int} : oLeI [.int a, .int b] = some (.bl (decide (a ≤ b))) := rfl
theorem oLt_int {a b : Int} : oLtI [.int a, .int b] = some (.bl (decide (a < b))) := rfl
theorem oGt_int {a b : Int} : oGtI [.int a, .int b] = some (.bl (decide (b < a))) := rfl
theorem oGe_int {a b : Int} : oGeI [.int a, .int b] = some (.bl (decide (b ≤ a))) := rfl
theorem oMax_int {a b : Int} : oMax2 [.int a, .int b] = some (.int (if b > a then b else a)) := rfl
theorem oMin_int {a b : Int} : oMin2 [.int a, .int b] = some (.int (if b < a then b else a)) := rfl
theorem bls_map' {α : Type} {p : α → Bool} : ∀ {xs : List α}, D.bls (xs.map fun x => D.bl (p x)) = some (xs.map p)
  | [] => rfl
  | x :: xs => by simp only [List.map_cons, D.bls, bls_map' (xs := xs)]
theorem oAll_map {α : Type} {p : α → Bool} {xs : List α} : oAll (.lst (xs.map fun x => D.bl (p x))) = some (.bl (xs.all p)) := by
  simp [oAll, D.litems, bls_map', Function.comp_def]
theorem oAny_map {α : Type} {p : α → Bool} {xs : List α} : oAny (.lst (xs.map fun x => D.bl (p x))) = some (.bl (xs.any p)) := by
  simp [oAny, D.litems, bls_map', Function.comp_def]
theorem oLen_lst {ds : List D} : oLen (.lst ds) = some (.int ds.length) := rfl
theorem oLen_tup {ds : List D} : oLen (.tup ds) = some (.int ds.length) := rfl
theorem pTuple_lst {ds : List D} : pTuple (.lst ds) = some (.tup ds) := rfl
theorem pTuple_tup {ds : List D} : pTuple (.tup ds) = some (.tup ds) := rfl
theorem pList_lst {ds : List D} : pList (.lst ds) = some (.lst ds) := rfl
theorem pList_tup {ds : List D} : pList (.tup ds) = some (.lst ds) := rfl
theorem pTup_le {ds : List D} (h : ds.length ≤ 1000000) : pTup ds = some (.tup ds) := if_pos (Nat.le_trans h (by decide))
theorem pLst_le {ds : List D} (h : ds.length ≤ 1000000) : pLst ds = some (.lst ds) := if_pos (Nat.le_trans h (by decide))
theorem walk_lst {ds : List D} : (D.lst ds).walk = some ds := rfl
theorem walk_tup {ds : List D} : (D.tup ds).walk = some ds := rfl
theorem sortX_lst {ds : List D} : pSortX (.lst ds) = (oSortX ds).map .lst := rfl
theorem sortX_tup {ds : List D} : pSortX (.tup ds) = (oSortX ds).map .lst := rfl
theorem sortX_lT {ks : List (List Key)} {ds : List D} : pSortX (.lT ks ds) = (oSortX (ks.map tkeyD)).map .lst := rfl
theorem cl_lst {n : Nat} {ds : List D} : cl (n + 1) (.lst ds) = ds.all (cl n) := rfl
theorem cl_map {α : Type} {n : Nat} {enc : α → D} {xs : List α} (h : ∀ x, (enc x).tdat = true) : cl (n + 1) (.lst (xs.map enc)) = true := by
  rw [cl_lst, List.all_eq_true]
  intro d hd
  obtain ⟨x, _, rfl⟩ := List.mem_map.mp hd
  exact cl_tdat (h x)
theorem up_lst {ds : List D} : up (.lst ds) = .lst (ds.map up) := by simp only [up, ups_map]
theorem up_map {α : Type} {enc : α → D} {xs : List α} (h : ∀ x, (enc x).tdat = true) : up (.lst (xs.map enc)) = .lst ((xs.map enc).map W.sh) := by
  rw [up_lst, List.map_map, List.map_map]
  congr 1
  exact List.map_congr_left fun x _ => up_tdat (h x)
end Pu
namespace Pu
variable [TabN]
open PySem PySem.Spec PyProof.Rows L2 RZ
section
variable {prog : Program} {w : World} {A : Around} {E : Value → Shared → Prop} {s : Shared} {z TI TO i1 i2 l1 l2 : Addr} {k1 k2 : Nat} {xs ys : Array Value} {a b : Value} {A1 A2 : Nat → Heap → Prop}
end
end Pu
namespace Pu
variable [TabN]
open PySem PySem.Spec PyProof.Rows L2 RZ
/-- a walker over a tuple (true) or a list (false) -/
def ItAt (t : Bool) (i l : Addr) (k : Nat) (h : Heap) : Prop := if t then h.IsTupleIter i l k else h.IsListIter i l k
def RowAt (t : Bool) (l : Addr) (vs : Array Value) (h : Heap) : Prop := if t then h.IsTuple l vs else h.IsList l vs
def SqB (K : PySem.W.Frag) (t : Bool) (H : Hp) (l : Addr) (xs : List V) : Prop := if t then SqT K H l xs else SqL K H l xs
theorem ItAt.get {t : Bool} {i l : Addr} {k : Nat} {h : Heap} (x : ItAt t i l k h) : ∃ o, h.get? i = some o ∧ ∀ v, o.data ≠ .cell v := by
  cases t
  · obtain ⟨o, e, _, d⟩ := x
    exact ⟨o, e, fun v q => by rw [d] at q; cases q⟩
  · obtain ⟨o, e, _, d⟩ := x
    exact ⟨o, e, fun v q => by rw [d] at q; cases q⟩
theorem ItAt.to {t : Bool} {i l : Addr} {k : Nat} {h h' : Heap} (x : ItAt t i l k h) (e : ∀ o, h.get? i = some o → h'.get? i = some o) : ItAt t i l k h' := by
  cases t
  · exact Heap.IsListIter.at x e
  · exact Heap.IsTupleIter.at x e
section
variable {X : Cx} {pins : List (Addr × Obj)} {s : Shared} {σ : L2.St} {H : Hp}
theorem SqB.row {t : Bool} {l : Addr} {xs : List V} (I : Inv X pins σ H s) (h : SqB X.K t H l xs) : ∃ its : List Value, Vals xs its ∧ RowAt t l its.toArray s.heap := by
  cases t
  · obtain ⟨its, rv, p, _⟩ := I.list h
    exact ⟨its, rv, p.isList⟩
  · obtain ⟨its, rv, p, _⟩ := I.tuple h
    exact ⟨its, rv, p⟩
theorem SqB.inj {t : Bool} {l : Addr} {xs ys : List V} (I : Inv X pins σ H s) (h : SqB X.K t H l xs) (h' : SqB X.K t H l ys) : xs = ys := by
  cases t
  · exact I.list_inj h h'
  · exact I.tuple_inj h h'
end
def walker (t : Bool) (l : Addr) : Obj := { cls := .type (if t then "tuple_iterator" else "list_iterator"), data := .fields #[.ref l, .int 0 0] }
end Pu
namespace Pu
variable [TabN]
open PySem PySem.Spec PyProof.Rows L2
def iZipM (f g : FE) : FI := fun en => match evs [f, g] en with
  | some (en1, rs) => match rfz en1 rs with
    | some (en2, [a, b]) => match a.its, b.its with
      | some (.t, ds), some (.l, es) => some (en2, zipD ds es)
      | some (.t, ds), some (.f, es) => some (en2, zipD ds es)
      | some (.l, ds), some (.t, es) => some (en2, zipD ds es)
      | some (.f, ds), some (.t, es) => some (en2, zipD ds es)
      | _, _ => none
    | _ => none
  | none => none
section
variable {X : Cx} {a b : Expr} {fa fb : FE} {p pos tpos : Pos} {elts : List Expr} {kk : Nat}
theorem SqB.mono {K : PySem.W.Frag} {t : Bool} {F G : Hp} {l : Addr} {xs : List V} (s : Same F G) (h : SqB K t F l xs) : SqB K t G l xs := by
  cases t
  · exact s.seq h
  · exact seqT s h
end
def pZipM (a b : D) : Option (List D) := match a.its, b.its with
  | some (.t, ds), some (.l, es) => some (zipD ds es)
  | some (.t, ds), some (.f, es) => some (zipD ds es)
  | some (.l, ds), some (.t, es) => some (zipD ds es)
  | some (.f, ds), some (.t, es) => some (zipD ds es)
  | _, _ => none
theorem iZipM_fz {f g : FE} [Fz f] [Fz g] (ρ : List D) : iZipM f g (fz ρ) = ((P f ρ).bind fun d => (P g ρ).bind fun e => pZipM d e).map fun ds => (fz ρ, ds) := by
  unfold iZipM P
  rw [FzLs.eq [f, g] ρ]
  simp only [PLw]
  rcases Pw f ρ with _ | w
  · rfl
  · rcases Pw g ρ with _ | u
    · rfl
    · simp only [Option.bind_some, Option.map_some, rfz_val, W.ds, pZipM]
      rcases w.d.its with _ | ⟨k, ds⟩
      · rfl
      · rcases u.d.its with _ | ⟨k2, ds2⟩
        · cases k <;> rfl
        · cases k <;> cases k2 <;> rfl
instance {f g : FE} [Fz f] [Fz g] : FzI (iZipM f g) := FzI.mk' fun ρ => ⟨_, iZipM_fz ρ⟩
theorem PI_iZipM {f g : FE} {ρ : List D} [Fz f] [Fz g] : PI (iZipM f g) ρ = (P f ρ).bind fun d => (P g ρ).bind fun e => pZipM d e := PI_of (iZipM_fz ρ)
end Pu
namespace Pu
variable [TabN]
open PySem PySem.Spec PyProof.Rows L2
def gRevL : En → R → Option (En × R) := fun en r => match r.els en with
  | some (en', .l, ds) => some (en', .val (.lst (ds.reverse.map W.sh)))
  | _ => none
def gListRg : En → R → Option (En × R) := fun en r => match r.d en with
  | some (.int n) => if -(2 ^ 62) ≤ n ∧ n < 2 ^ 62 ∧ n.toNat ≤ 2 ^ 24 then some (en, .val (.lst (((List.range n.toNat).map fun (k : Nat) => D.int (k : Int)).map W.sh))) else none
  | _ => none
section
variable {K : PySem.W.Frag} {mg : Str → Option Value}
theorem reps_rev {F : Hp} : ∀ {ds : List D} {vs : List V}, Reps K mg F ds vs → Reps K mg F ds.reverse vs.reverse
  | [], [], _ => by simp only [List.reverse_nil, Reps]
  | [], _ :: _, h => by simp only [Reps] at h
  | _ :: _, [], h => by simp only [Reps] at h
  | d :: ds, v :: vs, h => by
    simp only [Reps] at h
    rw [List.reverse_cons, List.reverse_cons]
    exact (reps_rev h.2).append (by simp only [Reps, and_true]; exact h.1)
end
section
variable {X : Cx} {e : Expr} {f : FE} {p p1 p2 p3 pos q : Pos} {k : Nat}
def fRevL (f : FE) : FE := fU gRevL f
def fListRg (f : FE) : FE := fU gListRg f
end
end Pu
namespace Pu
variable [TabN]
open PySem PySem.Spec PyProof.Rows L2
def pRevL : D → Option D := pIts fun k ds => if k = .l then some (.lst ds.reverse) else none
theorem gRevL_els (en : En) (r : R) : gRevL en r = match R.els en r with
    | some (en', k, ds) => (if k = .l then some (W.lst (ds.reverse.map W.sh)) else none).map fun w => (en', R.val w)
    | none => none := by
  unfold gRevL
  rcases R.els en r with _ | ⟨en', k, ds⟩
  · rfl
  · cases k <;> rfl
instance : OpU1 gRevL pRevL := OpU1.els (fun k ds => if k = .l then some (.lst (ds.reverse.map W.sh)) else none) (fun en r => by
    rw [gRevL_els]
    all_goals (rcases R.els en r with _ | ⟨en', k, ds⟩ <;> rfl)) fun d => by
  unfold pRevL pIts
  rcases d.its with _ | ⟨k, ds⟩
  · rfl
  · simp only
    split
    · simp only [Option.map_some, W.d, sh_ds]
    · rfl
instance : OwU gRevL := OwU.els (fun k ds => if k = .l then some (.lst (ds.reverse.map W.sh)) else none) (fun en r => by
    rw [gRevL_els]
    all_goals (rcases R.els en r with _ | ⟨en', k, ds⟩ <;> rfl)) fun k ds w es h e => by
  split at h
  · exact own_row h e
  · cases h
def pListRg : D → Option D
  | .int n => if -(2 ^ 62) ≤ n ∧ n < 2 ^ 62 ∧ n.toNat ≤ 2 ^ 24 then some (.lst ((List.range n.toNat).map fun (k : Nat) => D.int (k : Int))) else none
  | _ => none
instance : OpU1 gListRg pListRg := ⟨fun en w => by
  unfold gListRg
  rw [show R.d en (.val w) = some w.d from rfl]
  unfold pListRg
  cases w.d
  case int n =>
    simp only
    split
    · exact ⟨some (.lst _), rfl, by simp only [Option.map_some, W.d, sh_ds]⟩
    · exact ⟨none, rfl, rfl⟩
  all_goals exact ⟨none, rfl, rfl⟩⟩
instance : OwU gListRg := ⟨fun {en u en' w} e ds hd => by
  unfold gListRg at e
  split at e
  · split at e
    · cases e
      simp only [W.d, sh_ds, D.lst.injEq] at hd
      rw [hd]
    · cases e
  · cases e⟩
section
variable {f : FE} {ρ : List D} [Fz f]
instance : Fz (fRevL f) := inferInstanceAs (Fz (fU gRevL f))
instance : Fz (fListRg f) := inferInstanceAs (Fz (fU gListRg f))
instance : Ow 1 (fRevL f) := inferInstanceAs (Ow 1 (fU gRevL f))
instance : Ow 1 (fListRg f) := inferInstanceAs (Ow 1 (fU gListRg f))
theorem P_fRevL : P (fRevL f) ρ = (P f ρ).bind pRevL := P_fU
theorem P_fListRg : P (fListRg f) ρ = (P f ρ).bind pListRg := P_fU
end
end Pu
namespace Pu
variable [TabN]
open PySem PySem.Spec PyProof.Rows L2
section
variable {K : PySem.W.Frag} {mg : Str → Option Value}
variable {P : Program} {w : World} {base : Heap}
end
/-- g, asked with further values behind -/
def gdf (dd : List D) (g : PF) : PF := fun ws => match g (ws ++ dd.map W.sh) with
  | some (w, _) => some (w, ws)
  | none => none
theorem pCall_gdf {dd ds : List D} {g : PF} : pCall (gdf dd g) ds = pCall g (ds ++ dd) := by
  unfold pCall gdf
  rw [List.map_append]
  rcases g (ds.map W.sh ++ dd.map W.sh) with _ | ⟨w, ws⟩ <;> rfl
section
variable {X : Cx} {k n m : Nat} {f : Addr} {fd : FuncData} {ps ks : List Str} {x : Str} {p pos : Pos} {e : Expr} {es : List Expr} {kws : List Keyword} {fs gs : List FE} {g : PF} {is : List Nat} {E : XK} {dd : List D} {dvs : List V}
end
end Pu
namespace Pu
variable [TabN]
open PySem PySem.Spec PyProof.Rows L2
section
variable {K : PySem.W.Frag} {mg : Str → Option Value} {F H F1 H1 F2 H2 : Hp}
theorem Stay.then {L : List Addr} (a : Stay F H F1 H1 L) (b : Stay F1 H1 F2 H2 L) : Stay F H F2 H2 L := ⟨a.sub.trans b.sub, b.out, fun c hc => (b.eq c hc).trans (a.eq c hc)⟩
theorem PartO.stays {σ : L2.St} {en : En} {L : List Addr} {i : Nat} {p : List Nat} {w : W} {v : V} {La Lm Lb : List Addr} (P : PartO K mg F H σ en L i p w v La Lm Lb) (s : Stay F H F1 H1 L) : PartO K mg F1 H1 σ en L i p w v La Lm Lb := by
  obtain ⟨g, e, o, k⟩ := P
  subst e
  refine ⟨g, rfl, o.stay (s.less fun b hb => by simp [hb]), fun F' H' w' Lm' s' o' => k F' H' w' Lm' (Stay.then (s.less fun b hb => ?_) s') o'⟩
  simp only [List.mem_append] at hb ⊢
  rcases hb with z | z <;> simp [z]
end
section
variable {X : Cx} {o e : Expr} {fo f : FE} {apos cpos : Pos} {r : V → List V → Hp → VK → Prop} {m : FM}
end
end Pu
namespace Pu
variable [TabN]
open PySem PySem.Spec PyProof.Rows L2
def oLtD : List D → Option D
  | [a, b] => match a.py, b.py with
    | some p, some q => if PySem.W.alike p q && (notNone p && decide (p.depth ≤ 60)) then some (.bl (PySem.W.dataLt p q)) else none
    | _, _ => none
  | _ => none
section
variable {K : PySem.W.Frag} {mg : Str → Option Value}
end
def gLtX : En → List R → Option (En × R) := gOr gLt (gS oLtD)
section
variable {X : Cx} {a b : Expr} {fa fb : FE} {pos : Pos}
end
def pLtX : List D → Option D := por pLt oLtD
instance : OpP gLtX pLtX := inferInstanceAs (OpP (gOr gLt (gS oLtD)) _)
theorem pLtX_int {a b : Int} : pLtX [.int a, .int b] = some (.bl (decide (a < b))) := rfl
theorem pLtX_str {a b : Str} : pLtX [.str a, .str b] = some (.bl (decide (a.cps.toList < b.cps.toList))) := rfl
end Pu
namespace Pu
variable [TabN]
open PySem PySem.Spec PyProof.Rows L2
def c2Q {α β : Type} (T : α → Option Bool) (I : α → Option (List D)) (T1 : α → D → Option Bool) (E1 : α → D → Option β) : List α → Nat → Option (List β)
  | [], _ => some []
  | d :: ds, n => (T d).bind fun b => if b = true then (I d).bind fun ds1 => (compQ (T1 d) (E1 d) ds1 n).bind fun es => (c2Q T I T1 E1 ds (n + es.length)).map fun r => es ++ r else c2Q T I T1 E1 ds n
theorem fz_allSh (ρ : List D) : (fz ρ).all W.isSh = true := by
  unfold fz
  rw [List.all_eq_true]
  intro w hw
  obtain ⟨d, _, rfl⟩ := List.mem_map.mp hw
  rfl
theorem cIn_fz {vs1 us1 : List Nat} {g1 : FG} {t1 : FT} {f : FE} [hg : Wr g1 us1] [FzT t1] [Fz f] [hf : Shy f] {ρ : List D} : ∀ (ds acc : List D),
    cIn vs1 g1 t1 f (fz ρ) ds acc = (compQ (fun d => (PG g1 (wipeD ρ vs1) d).bind (PT t1)) (fun d => (PG g1 (wipeD ρ vs1) d).bind (P f)) ds acc.length).map fun es => acc ++ es
  | [], acc => by simp [cIn, compQ]
  | d :: ds, acc => by
    simp only [cIn, compQ, wipe_fz]
    cases e : g1 (fz (wipeD ρ vs1)) (.sh d) with
    | none => simp [PG, e]
    | some en1 =>
      obtain ⟨ρ1, rfl, l1, k1⟩ := hg.ok e
      have pg : PG g1 (wipeD ρ vs1) d = some ρ1 := by simp [PG, e, fz_d]
      have ll : ρ1.length = ρ.length := l1.trans (wipe_len ρ vs1)
      have ll2 : (fz ρ1).length = (fz ρ).length := by simp [fz_len, ll]
      have hc : (fz ρ1).length = (fz ρ).length ∧ (fz ρ1).all W.isSh = true := ⟨ll2, fz_allSh ρ1⟩
      simp only [pg, Option.bind_some, if_pos hc]
      rw [FzT.eq t1 ρ1]
      cases PT t1 ρ1 with
      | none => rfl
      | some b =>
        cases b with
        | false => simp only [Option.map_some]; exact cIn_fz ds acc
        | true =>
          simp only [Option.map_some, P]
          rw [Fz.eq f ρ1]
          cases ew : Pw f ρ1 with
          | none => rfl
          | some w =>
            obtain ⟨y, rfl⟩ := hf.ok ew
            simp only [Option.map_some, W.d]
            split
            · rw [cIn_fz ds (acc ++ [y]), List.length_append, List.length_singleton, Option.map_map]
              congr 1
              funext x
              simp
            · rfl
theorem cOut_fz {vs vs1 us us1 : List Nat} {g g1 : FG} {t t1 : FT} {fi1 : FI} {f : FE} [hg : Wr g us] [FzT t] [FzI fi1] [Wr g1 us1] [FzT t1] [Fz f] [Shy f] {ρ : List D} : ∀ (ds acc : List D),
    cOut vs vs1 g t fi1 g1 t1 f (fz ρ) ds acc = (c2Q (fun d => (PG g (wipeD ρ vs) d).bind (PT t)) (fun d => (PG g (wipeD ρ vs) d).bind (PI fi1)) (fun d d1 => (PG g (wipeD ρ vs) d).bind fun ρo => (PG g1 (wipeD ρo vs1) d1).bind (PT t1)) (fun d d1 => (PG g (wipeD ρ vs) d).bind fun ρo => (PG g1 (wipeD ρo vs1) d1).bind (P f)) ds acc.length).map fun es => acc ++ es
  | [], acc => by simp [cOut, c2Q]
  | d :: ds, acc => by
    simp only [cOut, c2Q, wipe_fz]
    cases e : g (fz (wipeD ρ vs)) (.sh d) with
    | none => simp [PG, e]
    | some en1 =>
      obtain ⟨ρ1, rfl, l1, k1⟩ := hg.ok e
      have pg : PG g (wipeD ρ vs) d = some ρ1 := by simp [PG, e, fz_d]
      have ll : ρ1.length = ρ.length := l1.trans (wipe_len ρ vs)
      have ll2 : (fz ρ1).length = (fz ρ).length := by simp [fz_len, ll]
      have hc : (fz ρ1).length = (fz ρ).length ∧ (fz ρ1).all W.isSh = true := ⟨ll2, fz_allSh ρ1⟩
      simp only [pg, Option.bind_some, if_pos hc]
      rw [FzT.eq t ρ1]
      cases PT t ρ1 with
      | none => rfl
      | some b =>
        cases b with
        | false => simp only [Option.map_some, Option.bind_some, Bool.false_eq_true, if_false]; exact cOut_fz ds acc
        | true =>
          simp only [Option.map_some, Option.bind_some, if_true]
          rw [FzI.eq fi1 ρ1]
          cases PI fi1 ρ1 with
          | none => rfl
          | some ds1 =>
            simp only [Option.map_some, Option.bind_some, cIn_fz]
            cases compQ (fun d => (PG g1 (wipeD ρ1 vs1) d).bind (PT t1)) (fun d => (PG g1 (wipeD ρ1 vs1) d).bind (P f)) ds1 acc.length with
            | none => rfl
            | some es =>
              simp only [Option.map_some, Option.bind_some]
              rw [cOut_fz ds (acc ++ es), List.length_append, Option.map_map]
              congr 1
              funext x
              simp
theorem fC2_fz {vs vs1 us us1 : List Nat} {fi fi1 : FI} {g g1 : FG} {t t1 : FT} {f : FE} [FzI fi] [Wr g us] [FzT t] [FzI fi1] [Wr g1 us1] [FzT t1] [Fz f] [Shy f] (ρ : List D) :
    fC2 vs vs1 fi g t fi1 g1 t1 f (fz ρ) = (if (∀ k ∈ vs, k < ρ.length) ∧ ∀ k ∈ vs1, k < ρ.length then (PI fi ρ).bind fun ds => c2Q (fun d => (PG g (wipeD ρ vs) d).bind (PT t)) (fun d => (PG g (wipeD ρ vs) d).bind (PI fi1)) (fun d d1 => (PG g (wipeD ρ vs) d).bind fun ρo => (PG g1 (wipeD ρo vs1) d1).bind (PT t1)) (fun d d1 => (PG g (wipeD ρ vs) d).bind fun ρo => (PG g1 (wipeD ρo vs1) d1).bind (P f)) ds 0 else none).map fun ys => (fz ρ, R.val (.lst (ys.map W.sh))) := by
  unfold fC2
  rw [fz_len]
  by_cases h : (∀ k ∈ vs, k < ρ.length) ∧ ∀ k ∈ vs1, k < ρ.length
  · rw [if_pos ⟨fz_allSh ρ, h⟩, if_pos h, FzI.eq fi ρ]
    cases PI fi ρ with
    | none => rfl
    | some ds =>
      simp only [Option.map_some, Option.bind_some, cOut_fz, List.length_nil, List.nil_append]
      cases c2Q (fun d => (PG g (wipeD ρ vs) d).bind (PT t)) (fun d => (PG g (wipeD ρ vs) d).bind (PI fi1)) (fun d d1 => (PG g (wipeD ρ vs) d).bind fun ρo => (PG g1 (wipeD ρo vs1) d1).bind (PT t1)) (fun d d1 => (PG g (wipeD ρ vs) d).bind fun ρo => (PG g1 (wipeD ρo vs1) d1).bind (P f)) ds 0 <;> rfl
  · rw [if_neg fun z => h z.2, if_neg h]
    rfl
theorem fC2_fzW {vs vs1 us us1 : List Nat} {fi fi1 : FI} {g g1 : FG} {t t1 : FT} {f : FE} [FzI fi] [hg : Wr g us] [FzT t] [FzI fi1] [hg1 : Wr g1 us1] [FzT t1] [Fz f] [Shy f] (ρ : List D) :
    fC2 vs vs1 fi g t fi1 g1 t1 f (fz ρ) = ((if (∀ k ∈ vs, k < ρ.length) ∧ ∀ k ∈ vs1, k < ρ.length then (PI fi ρ).bind fun ds => c2Q (fun d => (PG g (wipeD ρ vs) d).bind (PT t)) (fun d => (PG g (wipeD ρ vs) d).bind (PI fi1)) (fun d d1 => (PG g (wipeD ρ vs) d).bind fun ρo => (PG g1 (wipeD ρo vs1) d1).bind (PT t1)) (fun d d1 => (PG g (wipeD ρ vs) d).bind fun ρo => (PG g1 (wipeD ρo vs1) d1).bind (P f)) ds 0 else none).map fun ys => W.lst (ys.map W.sh)).map fun w => (fz ρ, R.val w) := by
  rw [fC2_fz ρ, Option.map_map]
  rfl
instance {vs vs1 us us1 : List Nat} {fi fi1 : FI} {g g1 : FG} {t t1 : FT} {f : FE} [FzI fi] [hg : Wr g us] [FzT t] [FzI fi1] [hg1 : Wr g1 us1] [FzT t1] [Fz f] [Shy f] : Fz (fC2 vs vs1 fi g t fi1 g1 t1 f) := Fz.mk' fun ρ => ⟨_, fC2_fzW ρ⟩
theorem P_fC2 {vs vs1 us us1 : List Nat} {fi fi1 : FI} {g g1 : FG} {t t1 : FT} {f : FE} [FzI fi] [hg : Wr g us] [FzT t] [FzI fi1] [hg1 : Wr g1 us1] [FzT t1] [Fz f] [Shy f] {ρ : List D} (hv : vs.all (fun k => decide (k < ρ.length)) = true) (hv1 : vs1.all (fun k => decide (k < ρ.length)) = true) : P (fC2 vs vs1 fi g t fi1 g1 t1 f) ρ = ((PI fi ρ).bind fun ds => c2Q (fun d => (PG g (wipeD ρ vs) d).bind (PT t)) (fun d => (PG g (wipeD ρ vs) d).bind (PI fi1)) (fun d d1 => (PG g (wipeD ρ vs) d).bind fun ρo => (PG g1 (wipeD ρo vs1) d1).bind (PT t1)) (fun d d1 => (PG g (wipeD ρ vs) d).bind fun ρo => (PG g1 (wipeD ρo vs1) d1).bind (P f)) ds 0).map D.lst := by
  have h1 : ∀ k ∈ vs, k < ρ.length := fun k hk => by simpa using List.all_eq_true.mp hv k hk
  have h2 : ∀ k ∈ vs1, k < ρ.length := fun k hk => by simpa using List.all_eq_true.mp hv1 k hk
  rw [P, Pw_of (fC2_fzW ρ), if_pos ⟨h1, h2⟩, Option.map_map]
  congr 1
  funext ys
  simp only [Function.comp_apply, W.d, sh_ds]
instance {vs vs1 us us1 : List Nat} {fi fi1 : FI} {g g1 : FG} {t t1 : FT} {f : FE} [FzI fi] [hg : Wr g us] [FzT t] [FzI fi1] [hg1 : Wr g1 us1] [FzT t1] [Fz f] [Shy f] : Ow 1 (fC2 vs vs1 fi g t fi1 g1 t1 f) := ⟨fun {ρ w} e hc => by
  rw [Pw_of (fC2_fzW ρ), Option.map_eq_some_iff] at e
  obtain ⟨ys, _, rfl⟩ := e
  simp only [W.d, sh_ds, cl, List.all_eq_true] at hc
  simp only [W.clean]
  exact cleans_all' fun w hw => by
    obtain ⟨d, hd, rfl⟩ := List.mem_map.mp hw
    exact hc d hd⟩
end Pu
namespace Pu
variable [TabN]
open PySem PySem.Spec PyProof.Rows L2
def oInT : List D → Option D
  | [a, .tup ds] => match ins a ds with
    | some k => some (.bl k)
    | none => none
  | _ => none
def oNotInT : List D → Option D
  | [a, .tup ds] => match ins a ds with
    | some k => some (.bl (!k))
    | none => none
  | _ => none
section
variable {K : PySem.W.Frag} {mg : Str → Option Value}
end
def gInX : En → List R → Option (En × R) := gOr gIn (gS oInT)
def gNinX : En → List R → Option (En × R) := gOr gNotIn (gS oNotInT)
section
variable {X : Cx} {a b : Expr} {fa fb : FE} {pos : Pos} (hu : X.A.units + 65 < cLine)
include hu
end
def pInX : List D → Option D := por pIn oInT
def pNinX : List D → Option D := por pNotIn oNotInT
instance : OpP gInX pInX := inferInstanceAs (OpP (gOr gIn (gS oInT)) _)
instance : OpP gNinX pNinX := inferInstanceAs (OpP (gOr gNotIn (gS oNotInT)) _)
end Pu
namespace Pu
variable [TabN]
open PySem PySem.Spec PyProof.Rows L2
def pRepL : List D → Option D
  | [a, b] => match b with
    | .int k => match a.its with
      | some (.l, ds) => if -(2 ^ 63) ≤ k ∧ k < 2 ^ 63 ∧ ds.length * k.toNat ≤ sizeLine then some (.lst (List.replicate k.toNat ds).flatten) else none
      | _ => none
    | _ => none
  | _ => none
def pRepT : List D → Option D
  | [a, b] => match b with
    | .int k => match a.its with
      | some (.t, ds) => if ds ≠ [] ∧ 2 ≤ k ∧ k ≤ 1000 ∧ ds.length ≤ 1000 then some (.tup (List.replicate k.toNat ds).flatten) else none
      | _ => none
    | _ => none
  | _ => none
instance : OpP gRepL pRepL := OpP.of2 (fun en rs h => by
    match rs, h with
    | [], _ => rfl
    | [_], _ => rfl
    | [a, b], h => exact absurd rfl (h a b)
    | _ :: _ :: _ :: _, _ => rfl) (fun ds h => by
    match ds, h with
    | [], _ => rfl
    | [_], _ => rfl
    | [a, b], h => exact absurd rfl (h a b)
    | _ :: _ :: _ :: _, _ => rfl) fun en a b => by
  simp only [gRepL, R.d, els_val, pRepL]
  cases h2 : b.d with
  | int k =>
    cases h1 : a.d.its with
    | none => exact ⟨none, rfl, rfl⟩
    | some x =>
      obtain ⟨q, ds⟩ := x
      cases q <;> first
        | exact ⟨none, rfl, rfl⟩
        | (simp only [Option.map_some]
           split
           · exact ⟨some (.lst ((List.replicate k.toNat ds).flatten.map W.sh)), rfl, by simp only [Option.map_some, W.d, sh_ds]⟩
           · exact ⟨none, rfl, rfl⟩)
  | _ => exact ⟨none, rfl, rfl⟩
instance : OpP gRepT pRepT := OpP.of2 (fun en rs h => by
    match rs, h with
    | [], _ => rfl
    | [_], _ => rfl
    | [a, b], h => exact absurd rfl (h a b)
    | _ :: _ :: _ :: _, _ => rfl) (fun ds h => by
    match ds, h with
    | [], _ => rfl
    | [_], _ => rfl
    | [a, b], h => exact absurd rfl (h a b)
    | _ :: _ :: _ :: _, _ => rfl) fun en a b => by
  simp only [gRepT, R.d, els_val, pRepT]
  cases h2 : b.d with
  | int k =>
    cases h1 : a.d.its with
    | none => exact ⟨none, rfl, rfl⟩
    | some x =>
      obtain ⟨q, ds⟩ := x
      cases q <;> first
        | exact ⟨none, rfl, rfl⟩
        | (simp only [Option.map_some]
           split
           · exact ⟨some (.sh (.tup (List.replicate k.toNat ds).flatten)), rfl, rfl⟩
           · exact ⟨none, rfl, rfl⟩)
  | _ => exact ⟨none, rfl, rfl⟩
def pMulL : List D → Option D := por oMul (por pRepL pRepT)
section
variable {a b : FE} {ρ : List D} [Fz a] [Fz b]
instance : Fz (fMulL a b) := inferInstanceAs (Fz (fN (gOr (gS oMul) (gOr gRepL gRepT)) [a, b]))
theorem P_fMulL : P (fMulL a b) ρ = (P a ρ).bind fun x => (P b ρ).bind fun y => pMulL [x, y] := P_two
end
end Pu
namespace Pu
variable [TabN]
open PySem PySem.Spec PyProof.Rows L2
section
variable {K : PySem.W.Frag} {mg : Str → Option Value}
end
section
variable {X : Cx} {o : Expr} {fo : FE} {apos cpos : Pos}
end
section
variable {K : PySem.W.Frag} {mg : Str → Option Value} {F H : Hp}
theorem PartO.rr {σ : L2.St} {en : En} {L : List Addr} {i : Nat} {p : List Nat} {j : Nat} {w : W} {v : V} {La Lm Lb : List Addr} (P : PartO K mg F H σ en L i (p ++ [j]) w v La Lm Lb) : RR K mg F H σ en L (.pl i (p ++ [j])) v [] := by
  cases p with
  | nil => exact ⟨rfl, w, La, Lm, Lb, P⟩
  | cons k q => exact ⟨rfl, w, La, Lm, Lb, P⟩
end
section
variable {K : PySem.W.Frag} {mg : Str → Option Value} {F H : Hp}
end
section
variable {X : Cx} {o e : Expr} {fo f : FE} {apos cpos : Pos}
end
end Pu
namespace Pu
variable [TabN]
open PySem PySem.Spec PyProof.Rows L2
section
variable {X : Cx} {o e : Expr} {fo : FE} {fa : En → Option D} {apos cpos : Pos} {r : V → List V → Hp → VK → Prop} {m : FM}
end
end Pu
namespace Pu
variable [TabN]
open PySem PySem.Spec PyProof.Rows L2
section
variable {prog : Program} {w : World} {A : Around} {R : Result → Shared → Prop} {s : Shared} {e : Expr} {gs : List Comprehension} {em : Value → Env → Sem Unit} {it acc : Value} {env : Env} {d : Nat} {g : Comprehension}
end
structure Cls where
  wi : TI
  g : TG
  tt : TT
  vs : List Nat
section
variable {X : Cx}
end
end Pu
namespace Pu
variable [TabN]
open PySem PySem.Spec PyProof.Rows L2
structure ClM where
  vs : List Nat
  fi : FI
  g : FG
  t : FT
def ClM.cls (K : PySem.W.Frag) (mg : Str → Option Value) (n : Nat) (c : ClM) : Cls := ⟨tI K mg c.fi, tG K mg (others n c.vs) c.g, tT K mg c.t, c.vs⟩
section
variable {α : Type}
def cIt (vs : List Nat) (g : FG) (t : FT) (k : En → α → Option α) (eo : En) : List D → α → Option α
  | [], a => some a
  | d :: ds, a => match g (wipeE eo vs) (.sh d) with
    | none => none
    | some e1 => if e1.length = eo.length ∧ e1.all W.isSh = true then (match t e1 with
      | none => none
      | some (_, false) => cIt vs g t k eo ds a
      | some (_, true) => match k e1 a with
        | none => none
        | some a' => cIt vs g t k eo ds a') else none
def cNs (k : En → α → Option α) : List ClM → En → α → Option α
  | [] => k
  | c :: cs => fun eo a => if ∀ j ∈ c.vs, j < eo.length then (match c.fi eo with
    | none => none
    | some (_, ds) => cIt c.vs c.g c.t (cNs k cs) eo ds a) else none
def SameT (F H : Hp) : Prop := Same F H ∧ TbOk F H
theorem StOk.st {K : PySem.W.Frag} {mg : Str → Option Value} {F H : Hp} {σ : L2.St} {en : En} {L : List Addr} (st : StOk K mg F H σ en L) : SameT F H := ⟨st.sub, st.tb⟩
theorem StOk.more {K : PySem.W.Frag} {mg : Str → Option Value} {F H F' H' : Hp} {σ : L2.St} {en : En} (st : StOk K mg F H σ en []) (x : Same F F') (s : SameT F' H') : StOk K mg F' H' σ en [] :=
  ⟨s.1, List.nodup_nil, st.own.stay ⟨x, fun b hb => (by cases hb), fun b hb => (by cases hb)⟩, s.2⟩
theorem Ext.nil {F H F' H' : Hp} {L' : List Addr} (x : Ext F H [] F' H' L') : Ext F H [] F' H' [] := x.mem (fun a h => h) fun a h => by cases h
def fCN (vs : List Nat) (fi : FI) (g : FG) (t : FT) (cs : List ClM) (k : En → α → Option α) (a0 : α) (res : α → W) : FE := fun en =>
  if en.all W.isSh = true then (match cNs k (⟨vs, fi, g, t⟩ :: cs) en a0 with
  | none => none
  | some a => some (en, .val (res a))) else none
end
end Pu
namespace Pu
variable [TabN]
open PySem PySem.Spec PyProof.Rows L2
def kL (f : FE) : En → List D → Option (List D) := fun en a => match f en with
  | some (_, .val (.sh y)) => if a.length < sizeLine then some (a ++ [y]) else none
  | _ => none
def lW (a : List D) : W := .lst (a.map W.sh)
section
variable {X : Cx} {elt tg iter : Expr} {ifs : List Expr} {rest : List Comprehension} {scope : Scope} {own : List (Str × Nat)} {pos : Pos} {fi : FI} {g : FG} {t : FT} {cs : List ClM} {f : FE} {n : Nat}
end
class FzCls (cs : List ClM) : Prop where
  all : ∀ c ∈ cs, FzI c.fi ∧ (∃ us, Wr c.g us) ∧ FzT c.t
instance : FzCls [] := ⟨fun _ h => by cases h⟩
instance {vs us : List Nat} {fi : FI} {g : FG} {t : FT} {cs : List ClM} [h1 : FzI fi] [h2 : Wr g us] [h3 : FzT t] [hs : FzCls cs] : FzCls (⟨vs, fi, g, t⟩ :: cs) := ⟨fun c hc => by
  rcases List.mem_cons.mp hc with rfl | hc
  · exact ⟨h1, ⟨us, h2⟩, h3⟩
  · exact hs.all c hc⟩
class FzK {α : Type} (k : En → α → Option α) (kQ : outParam (List D → α → Option α)) : Prop where
  ok : ∀ ρ a, k (fz ρ) a = kQ ρ a
section
variable {α : Type}
def cItQ (T : D → Option Bool) (K : D → α → Option α) : List D → α → Option α
  | [], a => some a
  | d :: ds, a => (T d).bind fun b => if b = true then (K d a).bind fun a' => cItQ T K ds a' else cItQ T K ds a
def cNQ (kQ : List D → α → Option α) : List ClM → List D → α → Option α
  | [] => kQ
  | c :: cs => fun ρ a => if c.vs.all (fun j => decide (j < ρ.length)) = true then (PI c.fi ρ).bind fun ds => cItQ (fun d => (PG c.g (wipeD ρ c.vs) d).bind (PT c.t)) (fun d a => (PG c.g (wipeD ρ c.vs) d).bind fun ρ' => cNQ kQ cs ρ' a) ds a else none
theorem cIt_fz {vs us : List Nat} {g : FG} {t : FT} {k : En → α → Option α} {kQ : List D → α → Option α} [hg : Wr g us] [FzT t] (hk : ∀ ρ a, k (fz ρ) a = kQ ρ a) {ρ : List D} : ∀ (ds : List D) (a : α),
    cIt vs g t k (fz ρ) ds a = cItQ (fun d => (PG g (wipeD ρ vs) d).bind (PT t)) (fun d a => (PG g (wipeD ρ vs) d).bind fun ρ' => kQ ρ' a) ds a
  | [], a => rfl
  | d :: ds, a => by
    simp only [cIt, cItQ, wipe_fz]
    cases e : g (fz (wipeD ρ vs)) (.sh d) with
    | none => simp [PG, e]
    | some en1 =>
      obtain ⟨ρ1, rfl, l1, k1⟩ := hg.ok e
      have pg : PG g (wipeD ρ vs) d = some ρ1 := by simp [PG, e, fz_d]
      have ll2 : (fz ρ1).length = (fz ρ).length := by simp [fz_len, l1.trans (wipe_len ρ vs)]
      simp only [pg, Option.bind_some, if_pos (And.intro ll2 (fz_allSh ρ1))]
      rw [FzT.eq t ρ1]
      cases PT t ρ1 with
      | none => rfl
      | some b =>
        cases b with
        | false => simp only [Option.map_some, Option.bind_some, Bool.false_eq_true, if_false]; exact cIt_fz hk ds a
        | true =>
          simp only [Option.map_some, Option.bind_some, if_true, hk]
          cases kQ ρ1 a with
          | none => rfl
          | some a' => simp only [Option.bind_some]; exact cIt_fz hk ds a'
theorem cNs_fz {k : En → α → Option α} {kQ : List D → α → Option α} (hk : ∀ ρ a, k (fz ρ) a = kQ ρ a) : ∀ {cs : List ClM} (h : ∀ c ∈ cs, FzI c.fi ∧ (∃ us, Wr c.g us) ∧ FzT c.t) (ρ : List D) (a : α), cNs k cs (fz ρ) a = cNQ kQ cs ρ a
  | [], _, ρ, a => hk ρ a
  | c :: cs, h, ρ, a => by
    obtain ⟨h1, ⟨us, h2⟩, h3⟩ := h c (by simp)
    have ih := cNs_fz hk (cs := cs) fun c' hc => h c' (by simp [hc])
    simp only [cNs, cNQ, fz_len]
    by_cases hv : ∀ j ∈ c.vs, j < ρ.length
    · have hv2 : c.vs.all (fun j => decide (j < ρ.length)) = true := by simpa using hv
      rw [if_pos hv, if_pos hv2, FzI.eq c.fi ρ]
      cases PI c.fi ρ with
      | none => rfl
      | some ds => simp only [Option.map_some, Option.bind_some]; exact cIt_fz ih ds a
    · have hv2 : ¬ c.vs.all (fun j => decide (j < ρ.length)) = true := by simpa using hv
      rw [if_neg hv, if_neg hv2]
theorem fCN_fz {vs us : List Nat} {fi : FI} {g : FG} {t : FT} {cs : List ClM} {k : En → α → Option α} {kQ : List D → α → Option α} {a0 : α} {res : α → W} [h1 : FzI fi] [h2 : Wr g us] [h3 : FzT t] [hs : FzCls cs] [hk : FzK k kQ] (ρ : List D) :
    fCN vs fi g t cs k a0 res (fz ρ) = ((cNQ kQ (⟨vs, fi, g, t⟩ :: cs) ρ a0).map res).map fun w => (fz ρ, R.val w) := by
  have hall : FzCls (⟨vs, fi, g, t⟩ :: cs) := inferInstance
  unfold fCN
  rw [if_pos (fz_allSh ρ), cNs_fz hk.ok hall.all]
  cases cNQ kQ (⟨vs, fi, g, t⟩ :: cs) ρ a0 <;> rfl
instance {vs us : List Nat} {fi : FI} {g : FG} {t : FT} {cs : List ClM} {k : En → α → Option α} {kQ : List D → α → Option α} {a0 : α} {res : α → W} [h1 : FzI fi] [h2 : Wr g us] [h3 : FzT t] [hs : FzCls cs] [hk : FzK k kQ] : Fz (fCN vs fi g t cs k a0 res) := Fz.mk' fun ρ => ⟨_, fCN_fz ρ⟩
theorem P_fCN {vs us : List Nat} {fi : FI} {g : FG} {t : FT} {cs : List ClM} {k : En → α → Option α} {kQ : List D → α → Option α} {a0 : α} {res : α → W} {ρ : List D} [h1 : FzI fi] [h2 : Wr g us] [h3 : FzT t] [hs : FzCls cs] [hk : FzK k kQ] :
    P (fCN vs fi g t cs k a0 res) ρ = (cNQ kQ (⟨vs, fi, g, t⟩ :: cs) ρ a0).map fun a => (res a).d := by
  rw [P, Pw_of (fCN_fz ρ), Option.map_map]
  rfl
end
def kLQ (f : FE) : List D → List D → Option (List D) := fun ρ a => (P f ρ).bind fun y => if a.length < sizeLine then some (a ++ [y]) else none
instance {f : FE} [Fz f] [hs : Shy f] : FzK (kL f) (kLQ f) := ⟨fun ρ a => by
  unfold kL kLQ P
  rw [Fz.eq f ρ]
  cases e : Pw f ρ with
  | none => rfl
  | some w =>
    obtain ⟨y, rfl⟩ := hs.ok e
    rfl⟩
theorem lW_d (a : List D) : (lW a).d = .lst a := by simp only [lW, W.d, sh_ds]
instance {vs us : List Nat} {fi : FI} {g : FG} {t : FT} {cs : List ClM} {f : FE} {a0 : List D} [h1 : FzI fi] [h2 : Wr g us] [h3 : FzT t] [hs : FzCls cs] [Fz f] [Shy f] : Ow 1 (fCN vs fi g t cs (kL f) a0 lW) := ⟨fun {ρ w} e hc => by
  rw [Pw_of (fCN_fz ρ), Option.map_eq_some_iff] at e
  obtain ⟨ys, _, rfl⟩ := e
  rw [lW_d] at hc
  simp only [cl, List.all_eq_true] at hc
  simp only [lW, W.clean]
  exact cleans_all' fun w hw => by
    obtain ⟨d, hd, rfl⟩ := List.mem_map.mp hw
    exact hc d hd⟩
end Pu
namespace Pu
variable [TabN]
open PySem PySem.Spec PyProof.Rows L2
mutual
def D.noD : D → Bool
  | .tup ds => D.noDs ds
  | .lst ds => D.noDs ds
  | .frl ds => D.noDs ds
  | .dT _ _ => false
  | .dK _ _ => false
  | .lT _ _ => false
  | .ins _ _ => false
  | .any => true
  | .non => true
  | .bl _ => true
  | .int _ => true
  | .str _ => true
def D.noDs : List D → Bool
  | [] => true
  | d :: ds => D.noD d && D.noDs ds
end
mutual
theorem noD_tdat : ∀ {d : D}, d.tdat = true → d.noD = true
  | .non, _ => rfl
  | .bl _, _ => rfl
  | .int _, _ => rfl
  | .str _, _ => rfl
  | .tup ds, h => by simp only [D.tdat] at h; simp only [D.noD]; exact noDs_tdats h
  | .any, h => by simp [D.tdat] at h
  | .lst _, h => by simp [D.tdat] at h
  | .frl _, h => by simp [D.tdat] at h
  | .dT _ _, h => by simp [D.tdat] at h
  | .dK _ _, h => by simp [D.tdat] at h
  | .lT _ _, h => by simp [D.tdat] at h
  | .ins _ _, h => by simp [D.tdat] at h
theorem noDs_tdats : ∀ {ds : List D}, D.tdats ds = true → D.noDs ds = true
  | [], _ => rfl
  | d :: ds, h => by
    simp only [D.tdats, Bool.and_eq_true] at h
    simp only [D.noDs, Bool.and_eq_true]
    exact ⟨noD_tdat h.1, noDs_tdats h.2⟩
end
def dicty (o : HO) : Prop := (∃ kws, o = .dT kws) ∨ ∃ od kws, o = .frz od (.dT kws)
section
variable {K : PySem.W.Frag} {mg : Str → Option Value} {F H : Hp} {a : Addr} {o u : HO}
theorem ne_dicty {F : Hp} {b : Addr} {q : HO} (h : F a = some o) (hd : dicty o) (hb : F b = some q) (n : ¬ dicty q) : b ≠ a := fun z => by
  subst z
  rw [h] at hb
  cases hb
  exact n hd
theorem nd_lst {xs : List V} : ¬ dicty (.lst xs) := fun h => by rcases h with ⟨_, z⟩ | ⟨_, _, z⟩ <;> cases z
theorem nd_tup {xs : List V} : ¬ dicty (.tup xs) := fun h => by rcases h with ⟨_, z⟩ | ⟨_, _, z⟩ <;> cases z
theorem nd_flst {od : Obj} {xs : List V} : ¬ dicty (.frz od (.lst xs)) := fun h => by rcases h with ⟨_, z⟩ | ⟨_, _, z⟩ <;> cases z
theorem nd_ftup {od : Obj} {xs : List V} : ¬ dicty (.frz od (.tup xs)) := fun h => by rcases h with ⟨_, z⟩ | ⟨_, _, z⟩ <;> cases z
mutual
theorem Rep.swap (h : F a = some o) (hd : dicty o) : ∀ {d : D} {v : V}, d.noD = true → Rep K mg F d v → Rep K mg (upd F a u) d v
  | .any, v, _, r => by simp only [Rep]
  | .non, v, _, r => by simpa only [Rep] using r
  | .bl _, v, _, r => by simpa only [Rep] using r
  | .int _, v, _, r => by simpa only [Rep] using r
  | .str _, v, _, r => by simpa only [Rep] using r
  | .tup ds, v, c, r => by
    simp only [D.noD] at c
    simp only [Rep] at r ⊢
    obtain ⟨b, vs, rfl, h1, h2⟩ := r
    have e : ∀ {q : HO}, F b = some q → ¬ dicty q → upd F a u b = some q := fun {q} hq n => by rw [upd_ne (ne_dicty h hd hq n)]; exact hq
    refine ⟨b, vs, rfl, ⟨?_, ?_⟩, Reps.swap h hd c h2⟩
    · rcases h1.1 with (z | ⟨q, z⟩) | z
      · exact .inl (.inl (e z nd_tup))
      · exact .inl (.inr ⟨q, e z nd_ftup⟩)
      · exact .inr z
    · rcases h1.2 with z | z
      · exact .inl (e z nd_tup)
      · exact .inr z
  | .lst ds, v, c, r => by
    simp only [D.noD] at c
    simp only [Rep] at r ⊢
    obtain ⟨b, vs, rfl, h1, h2⟩ := r
    exact ⟨b, vs, rfl, by rw [upd_ne (ne_dicty h hd h1 nd_lst)]; exact h1, Reps.swap h hd c h2⟩
  | .frl ds, v, c, r => by
    simp only [D.noD] at c
    simp only [Rep] at r ⊢
    obtain ⟨b, vs, rfl, h1, h2⟩ := r
    have e : ∀ {q : HO}, F b = some q → ¬ dicty q → upd F a u b = some q := fun {q} hq n => by rw [upd_ne (ne_dicty h hd hq n)]; exact hq
    refine ⟨b, vs, rfl, ?_, Reps.swap h hd c h2⟩
    rcases h1 with (z | ⟨q, z⟩) | z
    · exact .inl (.inl (e z nd_lst))
    · exact .inl (.inr ⟨q, e z nd_flst⟩)
    · exact .inr z
  | .dT _ _, v, c, r => by simp [D.noD] at c
  | .dK _ _, v, c, r => by simp [D.noD] at c
  | .lT _ _, v, c, r => by simp [D.noD] at c
  | .ins _ _, v, c, r => by simp [D.noD] at c
theorem Reps.swap (h : F a = some o) (hd : dicty o) : ∀ {ds : List D} {vs : List V}, D.noDs ds = true → Reps K mg F ds vs → Reps K mg (upd F a u) ds vs
  | [], [], _, _ => by simp only [Reps]
  | d :: ds, v :: vs, c, r => by
    simp only [D.noDs, Bool.and_eq_true] at c
    simp only [Reps] at r ⊢
    exact ⟨Rep.swap h hd c.1 r.1, Reps.swap h hd c.2 r.2⟩
  | [], _ :: _, _, r => by simp only [Reps] at r
  | _ :: _, [], _, r => by simp only [Reps] at r
end
theorem upd_out {b : Addr} (h : F a = some o) (hb : F b = none) : upd F a u b = none := by
  rw [upd_ne (fun z => by rw [z, h] at hb; cases hb)]; exact hb
mutual
theorem Own.swap {o' : HO} (h : F a = some o) (hd : dicty o) (h' : H a = some o') (hd' : dicty o') : ∀ {w : W} {v : V} {L : List Addr}, w.clean = true → Own K mg F H w v L → Own K mg (upd F a u) (upd H a u) w v L
  | .sh d, v, L, c, r => by
    simp only [W.clean] at c
    simp only [Own] at r ⊢
    exact ⟨r.1.swap h hd (noD_tdat c), r.2⟩
  | .lst ws, v, L, c, r => by
    simp only [W.clean] at c
    simp only [Own] at r ⊢
    obtain ⟨b, vs, L', h1, h2, h3, h4, h5⟩ := r
    exact ⟨b, vs, L', h1, by rw [upd_ne (ne_dicty h' hd' h2 nd_lst)]; exact h2, upd_out h h3, h4, Owns.swap h hd h' hd' c h5⟩
  | .dT _ _, v, L, c, r => by simp [W.clean] at c
  | .dK _ _, v, L, c, r => by simp [W.clean] at c
  | .ins _ _, v, L, c, r => by simp [W.clean] at c
theorem Owns.swap {o' : HO} (h : F a = some o) (hd : dicty o) (h' : H a = some o') (hd' : dicty o') : ∀ {ws : List W} {vs : List V} {L : List Addr}, W.cleans ws = true → Owns K mg F H ws vs L → Owns K mg (upd F a u) (upd H a u) ws vs L
  | [], [], L, _, r => by simpa only [Owns] using r
  | w :: ws, v :: vs, L, c, r => by
    simp only [W.cleans, Bool.and_eq_true] at c
    simp only [Owns] at r ⊢
    obtain ⟨L1, L2, e, h1, h2⟩ := r
    exact ⟨L1, L2, e, h1.swap h hd h' hd' c.1, Owns.swap h hd h' hd' c.2 h2⟩
  | [], _ :: _, _, _, r => by simp only [Owns] at r
  | _ :: _, [], _, _, r => by simp only [Owns] at r
end
end
/-- everything frozen: the dict at the place i is locked -/
def lkD : List D → Nat → Option (List D)
  | .dT ks ds :: ρ, 0 => if D.noDs ds && D.noDs ρ then some (.lT ks ds :: ρ) else none
  | .lT ks ds :: ρ, 0 => some (.lT ks ds :: ρ)
  | d :: ρ, i + 1 => if d.noD then (lkD ρ i).map fun ρ' => d :: ρ' else none
  | _, _ => none
def fLk (i : Nat) (f : FE) : FE := fun en => if en.all W.isSh = true then (match lkD (en.map W.d) i with
  | some ρ => match f (fz ρ) with
    | some (_, .val w) => if w.clean then some (en, .val w) else none
    | _ => none
  | none => none) else none
section
variable {K : PySem.W.Frag} {mg : Str → Option Value} {F H : Hp}
end
theorem fLk_fz {f : FE} {i : Nat} [Fz f] (ρ : List D) : fLk i f (fz ρ) = ((lkD ρ i).bind fun ρ' => (Pw f ρ').bind fun w => if w.clean = true then some w else none).map fun w => (fz ρ, R.val w) := by
  unfold fLk
  rw [if_pos (fz_allSh ρ), fz_d]
  cases lkD ρ i with
  | none => rfl
  | some ρ' =>
    simp only [Option.bind_some]
    rw [Fz.eq f ρ']
    cases Pw f ρ' with
    | none => rfl
    | some w =>
      simp only [Option.map_some, Option.bind_some]
      split <;> rfl
instance {f : FE} {i : Nat} [Fz f] : Fz (fLk i f) := Fz.mk' fun ρ => ⟨_, fLk_fz ρ⟩
instance {f : FE} {i : Nat} [Fz f] : Ow 4 (fLk i f) := ⟨fun {ρ w} e _ => by
  rw [Pw_of (fLk_fz ρ), Option.bind_eq_some_iff] at e
  obtain ⟨ρ', _, e⟩ := e
  rw [Option.bind_eq_some_iff] at e
  obtain ⟨w', _, e⟩ := e
  split at e
  · rename_i h; cases e; exact h
  · cases e⟩
end Pu
namespace Pu
variable [TabN]
open PySem PySem.Spec PyProof.Rows L2
def putD : List (Key × D) → Key → D → List (Key × D)
  | [], k, d => [(k, d)]
  | p :: ps, k, d => if p.1 = k then (k, d) :: ps else p :: putD ps k d
def kD (fk fv : FE) : En → List (Key × D) → Option (List (Key × D)) := fun en a => match fk en with
  | some (_, .val (.sh kd)) => match dkey kd with
    | some k => match fv en with
      | some (_, .val (.sh y)) => if a.length < sizeLine then some (putD a k y) else none
      | _ => none
    | none => none
  | _ => none
section
variable {X : Cx} {kx vx tg iter : Expr} {ifs : List Expr} {rest : List Comprehension} {scope : Scope} {own : List (Str × Nat)} {pos : Pos} {fi : FI} {g : FG} {t : FT} {cs : List ClM} {fk fv : FE} {n : Nat}
end
end Pu
namespace Pu
variable [TabN]
open PySem PySem.Spec PyProof.Rows L2
def strsK : List Key → Option (List Str)
  | [] => some []
  | .inr x :: ks => (strsK ks).map fun xs => x :: xs
  | .inl _ :: _ => none
def oSortK : D → Option (List D)
  | .dK ks _ => match strsK ks with
    | some xs => if xs.length < 64 then some ((srt leS xs).map .str) else none
    | none => none
  | _ => none
def gSortK : En → R → Option (En × R) := fun en r => match r.d en with
  | some d => match oSortK d with
    | some es => some (en, .val (.lst (es.map W.sh)))
    | none => none
  | none => none
section
variable {K : PySem.W.Frag} {mg : Str → Option Value} {σ : L2.St}
theorem RR.dK {F H : Hp} {en : En} {L Lr : List Addr} {r : R} {v : V} {ks : List Key} {ds : List D} (st : StOk K mg F H σ en L) (h : RR K mg F H σ en L r v Lr) (e : r.d en = some (.dK ks ds)) : ∃ a kws, v = .ref a ∧ Rd H a (.dK kws) ∧ kws.map (·.1) = ks := by
  have one : ∀ {w : W} {M : List Addr}, Own K mg F H w v M → w.d = .dK ks ds → ∃ a kws, v = .ref a ∧ Rd H a (.dK kws) ∧ kws.map (·.1) = ks := by
    intro w M o hw
    cases w with
    | sh d =>
      simp only [W.d] at hw
      subst hw
      simp only [Own, Rep] at o
      obtain ⟨⟨a, kws, e1, h1, h2, _⟩, _⟩ := o
      exact ⟨a, kws, e1, .inl (st.sub _ _ h1), h2⟩
    | dK ks' ds' =>
      simp only [W.d, D.dK.injEq] at hw
      obtain ⟨rfl, rfl⟩ := hw
      simp only [Own] at o
      obtain ⟨a, kws, e1, h1, _, _, h2, _⟩ := o
      exact ⟨a, kws, e1, .inl h1, h2⟩
    | lst ws => simp [W.d] at hw
    | dT ks ds => simp [W.d] at hw
    | ins c ws => simp [W.d] at hw
  cases r with
  | val w =>
    simp only [RR] at h
    simp only [R.d, Option.some.injEq] at e
    exact one h e
  | pl i p =>
    obtain ⟨_, w, La, Lm, Lb, P⟩ := RR.part st h
    have g := P.1
    simp only [R.d, g, Option.map_some, Option.some.injEq] at e
    exact one P.2.2.1 e
end
section
variable {X : Cx} {e : Expr} {f : FE} {p pos : Pos}
def fSortK (f : FE) : FE := fU gSortK f
end
def pSortK (d : D) : Option D := (oSortK d).map .lst
instance : OpU1 gSortK pSortK := ⟨fun en w => by
  unfold gSortK pSortK
  simp only [R.d]
  cases oSortK w.d with
  | none => exact ⟨none, rfl, rfl⟩
  | some es => exact ⟨some (.lst (es.map W.sh)), rfl, by simp only [Option.map_some, W.d, sh_ds]⟩⟩
instance {f : FE} [Fz f] : Fz (fSortK f) := by unfold fSortK; infer_instance
theorem P_fSortK {f : FE} {ρ : List D} [Fz f] : P (fSortK f) ρ = (P f ρ).bind pSortK := P_fU
instance {f : FE} [Fz f] : Ow 1 (fSortK f) := ⟨fun {ρ w} e hc => by
  obtain ⟨o, h1, _⟩ := fU_fz (g := gSortK) (f := f) ρ
  have h3 := Pw_of (f := fSortK f) h1
  refine clean_one (fun ds hd => ?_) hc
  unfold fU at h1
  rw [Fz.eq f ρ] at h1
  rw [e] at h3
  subst h3
  cases ew : Pw f ρ with
  | none => rw [ew] at h1; cases h1
  | some u =>
    rw [ew] at h1
    simp only [Option.map_some, gSortK, R.d] at h1
    cases eo : oSortK u.d with
    | none => rw [eo] at h1; cases h1
    | some es =>
      rw [eo] at h1
      simp only [Option.some.injEq, Prod.mk.injEq, R.val.injEq] at h1
      rw [← h1.2] at hd ⊢
      simp only [W.d, sh_ds, D.lst.injEq] at hd
      rw [hd]⟩
def kDQ (fk fv : FE) : List D → List (Key × D) → Option (List (Key × D)) := fun ρ a => (P fk ρ).bind fun kd => (dkey kd).bind fun k => (P fv ρ).bind fun y => if a.length < sizeLine then some (putD a k y) else none
instance {fk fv : FE} [Fz fk] [hk : Shy fk] [Fz fv] [hv : Shy fv] : FzK (kD fk fv) (kDQ fk fv) := ⟨fun ρ a => by
  unfold kD kDQ P
  rw [Fz.eq fk ρ]
  cases e : Pw fk ρ with
  | none => rfl
  | some w =>
    obtain ⟨kd, rfl⟩ := hk.ok e
    simp only [Option.map_some, Option.bind_some, W.d]
    cases dkey kd with
    | none => rfl
    | some k =>
      simp only [Option.bind_some]
      rw [Fz.eq fv ρ]
      cases e2 : Pw fv ρ with
      | none => rfl
      | some w2 =>
        obtain ⟨y, rfl⟩ := hv.ok e2
        rfl⟩
end Pu
namespace Pu
variable [TabN]
open PySem PySem.Spec PyProof.Rows L2
section
variable {K : PySem.W.Frag} {mg : Str → Option Value}
end
end Pu
namespace Pu
variable [TabN]
open PySem PySem.Spec PyProof.Rows L2
section
variable {prog : Program} {w : World} {A : Around} {E : Value → Shared → Prop} {s : Shared}
theorem adj_rev (n : Nat) : Builtin.Slice.sliceAdjust none none (-1) (n : Int) = ((n : Int) - 1, -1) := by
  unfold Builtin.Slice.sliceAdjust
  simp
theorem places_rev (n : Nat) : Builtin.Slice.slicePlaces ((n : Int) - 1) (-1) (-1) = n := by
  unfold Builtin.Slice.slicePlaces
  simp
  omega
theorem applied_rev {b : Addr} {x y z : Value} {n : Nat} {Q : Int × Int × Nat → Shared → Prop} (hb : s.heap.IsSliceOf b x y z) (px : IsPart x none) (py : IsPart y none) (pz : IsPart z (some (-1))) (q : Q ((n : Int) - 1, -1, n) s) :
    wpAny (model prog w) A (Builtin.Slice.sliceApplied (.ref b) (pure (n : Int))) Q E s := by
  obtain ⟨o, ho, hc, hd⟩ := hb
  unfold Builtin.Slice.sliceApplied Builtin.Slice.sliceFields
  refine wpAny_bind (wpAny_bind (wpAny_field ho hd (x := x) rfl (wpAny_bind (wpAny_field ho hd (x := y) rfl (wpAny_bind (wpAny_field ho hd (x := z) rfl (wpAny_pure ?_)))))))
  refine wpAny_bind (HT.slicePart_ pz ?_)
  show wpAny _ _ (if ((-1 : Int) == 0) = true then _ else _) _ _ s
  rw [if_neg (by decide)]
  refine wpAny_bind (HT.slicePart_ px (wpAny_bind (HT.slicePart_ py (wpAny_bind (wpAny_pure ?_)))))
  show wpAny _ _ (match Builtin.Slice.sliceAdjust none none (-1) (n : Int) with | (i, j) => pure (i, (-1 : Int), Builtin.Slice.slicePlaces i j (-1))) _ _ s
  rw [adj_rev]
  show wpAny _ _ (pure ((n : Int) - 1, (-1 : Int), Builtin.Slice.slicePlaces ((n : Int) - 1) (-1) (-1))) _ _ s
  rw [places_rev]
  exact wpAny_pure q
theorem fm_all {α : Type} (f : Nat → Option α) : ∀ (ys : List α) (k : Nat), (∀ m < ys.length, f (k + m) = ys[m]?) → (List.range' k ys.length).filterMap f = ys
  | [], _, _ => rfl
  | y :: ys, k, h => by
    have h0 : f k = some y := h 0 (by simp)
    have ih := fm_all f ys (k + 1) fun m hm => by
      have := h (m + 1) (by simpa using hm)
      rw [show k + 1 + m = k + (m + 1) by omega, this, List.getElem?_cons_succ]
    rw [List.length_cons, List.range'_succ, List.filterMap_cons, h0]
    simp only [ih]
theorem pick_rev (xs : Array Value) : ((List.range xs.size).filterMap fun (m : Nat) => xs[((xs.size : Int) - 1 + (m : Int) * (-1)).toNat]?).toArray = xs.toList.reverse.toArray := by
  congr 1
  have l : xs.toList.reverse.length = xs.size := by simp
  have := fm_all (fun (m : Nat) => xs[((xs.size : Int) - 1 + (m : Int) * (-1)).toNat]?) xs.toList.reverse 0 fun m hm => by
    rw [l] at hm
    have i : ((xs.size : Int) - 1 + ((0 + m : Nat) : Int) * (-1)).toNat = xs.size - 1 - m := by omega
    show xs[((xs.size : Int) - 1 + ((0 + m : Nat) : Int) * (-1)).toNat]? = _
    rw [i, List.getElem?_reverse (by simpa using hm)]
    simp
  rw [l, ← List.range_eq_range'] at this
  exact this
theorem getItem_tupRev {t b : Addr} {items : Array Value} {x y z : Value} {Q : Value → Shared → Prop} (ht : IsTup s.heap t items) (hb : s.heap.IsSliceOf b x y z) (px : IsPart x none) (py : IsPart y none) (pz : IsPart z (some (-1)))
    (q : Q (.ref s.heap.objs.size) { s with heap := s.heap.push { cls := .type "tuple", data := .seq items.toList.reverse.toArray } }) (hz : items.size ≤ sizeLine) : wpAny (model prog w) A (getItem (.ref t) (.ref b)) Q E s := by
  have room : sizeOk (.seq items.toList.reverse.toArray) := by
    show items.toList.reverse.toArray.size ≤ sizeLine
    rw [List.size_toArray, List.length_reverse, Array.length_toList]
    exact hz
  obtain ⟨ob, hob, hcb, hdb⟩ := id hb
  have tb : s.TypeIs (.ref b) "slice" := ⟨ob, hob, hcb⟩
  unfold getItem
  try with_reducible refine wpAny_holding ?_
  first | refine wpAny_bind (wpAny_pure ?_) | skip
  refine wpAny_bind (wpAny_sequenceKey ht.typeIs (by decide) ?_)
  refine wpAny_bind (wpAny_callSpecial?_slot (name := Str.ofString "__getitem__") ht.typeIs PyProof.Rows.slot_tuple_getitem
    (wpAny_call_entry PyProof.Rows.slot_tuple_getitem ht.typeIs entry_tuple_getitem ?_ (args_tuple_getitem _ _)))
  show wpAny _ _ (Builtin.Tuple.tupleItemsOf (.ref t) >>= _) _ _ s
  refine wpAny_bind (tupleItemsOf_ ht ?_)
  refine wpAny_bind (wpAny_typeOf tb ?_)
  rw [if_pos (by decide)]
  refine wpAny_bind (applied_rev hb px py pz ?_)
  have no : ¬ (((((items.size : Nat) : Int) - 1) == 0 && (-1 : Int) == 1 && items.size == items.size) = true) := by simp
  show wpAny _ _ (if ((((items.size : Nat) : Int) - 1) == 0 && (-1 : Int) == 1 && items.size == items.size) = true then _ else _) _ _ s
  rw [if_neg no, pick_rev]
  first
    | exact wpAny_bind (m := Builtin.Tuple.tupleExact _) (wpAny_newObj_type (wpAny_pure ⟨_, rfl, wpAny_pure q⟩) room)
    | exact wpAny_bind (m := Builtin.Tuple.tupleExact _) (wpAny_newObj_type (wpAny_bind (wpAny_pure (wpAny_pure ⟨_, rfl, wpAny_pure q⟩))) room)
    | exact wpAny_bind (wpAny_bind (m := Builtin.Tuple.tupleExact _) (wpAny_newObj_type (wpAny_pure (wpAny_pure ⟨_, rfl, wpAny_pure q⟩)) room))
    | exact wpAny_bind (wpAny_bind (m := Builtin.Tuple.tupleExact _) (wpAny_newObj_type (wpAny_pure ⟨_, rfl, wpAny_pure q⟩) room))
end
def tRevT (K : PySem.W.Frag) (te : TE) : TE := fun σ H Q => te σ H fun x H1 => ∃ b ys, x = .ref b ∧ SqT K H1 b ys ∧ ∀ p, H1 p = none → Q (.ref p) (upd H1 p (.tup ys.reverse))
theorem pe_revT {X : Cx} {o : Expr} {to : TE} {c : Nat} {pa pb pc pd : Pos} (ho : PE X o to) : PE X (.Subscript o (.Slice none none (some (.UnaryOp .USub (.Constant (.int 1) c pa) pb)) pc) pd) (tRevT X.K to) := by
  refine ⟨fun pins s0 σ H0 Q i0 h0 => ?_⟩
  refine Subscript_ (thn (ho.run pins s0 σ H0 _ i0 h0) fun v0 s1 ⟨z, H1, i1, rz, qz⟩ => ?_)
  obtain ⟨b, ys, rfl, hb, q⟩ := qz
  cases rz
  have step : PO X (some (.UnaryOp .USub (.Constant (.int 1) c pa) pb)) (tPart (tUn (rU fun n => .int (-n)) (tC (.int 1)))) := po_some (pe_un un_neg pe_int)
  refine wpAny_Slice (thn (po_none.run pins s1 σ H1 (fun m M => m = none ∧ M = H1) i1 ⟨rfl, rfl⟩) fun va s2 ⟨_, H2, i2, pl, ea, eb⟩ => ?_)
  subst ea eb
  refine thn (po_none.run pins s2 σ H2 (fun m M => m = none ∧ M = H2) i2 ⟨rfl, rfl⟩) fun vb s3 ⟨_, H3, i3, pu, ea, eb⟩ => ?_
  subst ea eb
  refine thn (step.run pins s3 σ H3 (fun m M => m = some (-1) ∧ M = H3) i3 ⟨1, rfl, -1, rfl, rfl, rfl⟩) fun vc s4 ⟨_, H4, i4, ps, ea, eb⟩ => ?_
  subst ea eb
  have i5 : Inv X pins σ H4 { s4 with heap := s4.heap.push { cls := .type "slice", data := .fields #[va, vb, vc] } } := i4.kept (t' := s4.toks) fun _ _ y => Heap.get?_push_of_some _ y
  obtain ⟨its, rv, ht, hz⟩ := i5.tuple hb
  have len := rv.length
  show wpAny (model X.prog X.w) X.A (subscriptTail o (.Slice none none (some (.UnaryOp .USub (.Constant (.int 1) c pa) pb)) pc) (.ref b) (.ref s4.heap.objs.size)) (EP X pins σ Q) X.xe _
  refine tail_any (ops := [.ref b, .ref s4.heap.objs.size]) ht.typeIs PyProof.Rows.slot_tuple_getitem.lookup ?_ (by with_unfolding_all rfl)
  refine getItem_tupRev ht (Heap.IsSliceOf.new _ va vb vc) pl pu ps ?_ (by rw [List.size_toArray]; omega)
  refine ⟨.ref _, _, i5.laid (t' := s4.toks) (o := .tup ys.reverse) (fun _ _ y => Heap.get?_push_of_some _ y) (Nat.le_refl _) ?_, rfl, q _ (i5.hok.fresh (Nat.le_refl _))⟩
  exact ⟨by rw [List.length_reverse]; exact hz, _, rv.reverse, IsTup.new _ _⟩
def gRevT : En → R → Option (En × R) := fun en r => match r.els en with
  | some (en', .t, ds) => some (en', .val (.sh (.tup ds.reverse)))
  | _ => none
def rRevT (K : PySem.W.Frag) : List V → Hp → VK → Prop
  | [x], H, Q => ∃ b ys, x = .ref b ∧ SqT K H b ys ∧ ∀ p, H p = none → Q (.ref p) (upd H p (.tup ys.reverse))
  | _, _, _ => False
section
variable {K : PySem.W.Frag} {mg : Str → Option Value}
theorem u_revT : OpU K mg (rRevT K) gRevT := by
  intro F H σ en L r v Lr en' r' st h nd e Q q
  unfold gRevT at e
  split at e
  · rename_i en1 ds e1
    cases e
    obtain ⟨F1, L1, st1, ⟨b, ys, rfl, ⟨k1, k2⟩, rp⟩, x1⟩ := h.els st nd e1
    refine ⟨b, ys, rfl, k1.1, fun p hp => ?_⟩
    obtain ⟨z1, z2, z3, z4⟩ := lay_tup st1 hp (reps_rev rp)
    exact q _ _ _ _ _ z1 z2 z3 (x1.trans z4)
  · cases e
end
def fRevT (f : FE) : FE := fU gRevT f
theorem se_revT {X : Cx} {e : Expr} {f : FE} {c : Nat} {pa pb pc pd : Pos} (he : SE X e f) : SE X (.Subscript e (.Slice none none (some (.UnaryOp .USub (.Constant (.int 1) c pa) pb)) pc) pd) (fRevT f) :=
  pe_imp (pe_revT he) fun σ H Q z => by
    exact op1_behind u_revT z
end Pu
namespace Pu
variable [TabN]
open PySem PySem.Spec PyProof.Rows L2
def pRevT : D → Option D := pIts fun k ds => if k = .t then some (.tup ds.reverse) else none
theorem gRevT_els (en : En) (r : R) : gRevT en r = match R.els en r with
    | some (en', k, ds) => (if k = .t then some (W.sh (.tup ds.reverse)) else none).map fun w => (en', R.val w)
    | none => none := by
  unfold gRevT
  rcases R.els en r with _ | ⟨en', k, ds⟩
  · rfl
  · cases k <;> rfl
instance : OpU1 gRevT pRevT := OpU1.els (fun k ds => if k = .t then some (.sh (.tup ds.reverse)) else none) (fun en r => by
    rw [gRevT_els]
    all_goals (rcases R.els en r with _ | ⟨en', k, ds⟩ <;> rfl)) fun d => by
  unfold pRevT pIts
  rcases d.its with _ | ⟨k, ds⟩
  · rfl
  · simp only
    split
    · simp only [Option.map_some, W.d]
    · rfl
section
variable {f : FE} {ρ : List D} [Fz f]
instance : Fz (fRevT f) := inferInstanceAs (Fz (fU gRevT f))
theorem P_fRevT : P (fRevT f) ρ = (P f ρ).bind pRevT := P_fU
theorem pRevT_tup {ds : List D} : pRevT (.tup ds) = some (.tup ds.reverse) := rfl
end
end Pu
namespace Pu
variable [TabN]
open PySem PySem.Spec PyProof.Rows L2
def rg3 (a b c : Int) : Option (List D) :=
  if c ≠ 0 ∧ c.natAbs < 1073741824 ∧ Builtin.Range.small a b c = true ∧ 0 ≤ Builtin.Range.rangeSize a b c then some ((List.range (Builtin.Range.rangeSize a b c).toNat).map fun (k : Nat) => D.int (a + (k : Int) * c)) else none
def iRange3 (f g h : FE) : FI := fun en => match evs [f, g, h] en with
  | some (en1, [r1, r2, r3]) => match r1.d en1, r2.d en1, r3.d en1 with
    | some (.int a), some (.int b), some (.int c) => (rg3 a b c).map fun ds => (en1, ds)
    | _, _, _ => none
  | _ => none
section
variable {X : Cx} {tg a b c : Expr} {fa fb fc : FE} {p pos : Pos}
end
end Pu
namespace Pu
variable [TabN]
open PySem PySem.Spec PyProof.Rows L2
def pRange3 (d e g : D) : Option (List D) := (dint d).bind fun a => (dint e).bind fun b => (dint g).bind fun c => rg3 a b c
theorem iRange3_fz {f g h : FE} [Fz f] [Fz g] [Fz h] (ρ : List D) : iRange3 f g h (fz ρ) = ((P f ρ).bind fun d => (P g ρ).bind fun e => (P h ρ).bind fun k => pRange3 d e k).map fun ds => (fz ρ, ds) := by
  unfold iRange3 P
  rw [FzLs.eq [f, g, h] ρ]
  simp only [PLw]
  rcases Pw f ρ with _ | w
  · rfl
  · rcases Pw g ρ with _ | u
    · rfl
    · rcases Pw h ρ with _ | v
      · rfl
      · simp only [Option.bind_some, Option.map_some, List.map_cons, List.map_nil, R.d, pRange3]
        cases w.d <;> try rfl
        cases u.d <;> try rfl
        cases v.d <;> rfl
instance {f g h : FE} [Fz f] [Fz g] [Fz h] : FzI (iRange3 f g h) := FzI.mk' fun ρ => ⟨_, iRange3_fz ρ⟩
theorem PI_iRange3 {f g h : FE} {ρ : List D} [Fz f] [Fz g] [Fz h] : PI (iRange3 f g h) ρ = (P f ρ).bind fun d => (P g ρ).bind fun e => (P h ρ).bind fun k => pRange3 d e k := PI_of (iRange3_fz ρ)
end Pu
namespace Pu
variable [TabN]
open PySem PySem.Spec PyProof.Rows L2
mutual
/-- numbers alone at the leaves -/
def numK : NestedKey → Bool
  | .num _ => true
  | .tup ks => numsK ks
  | .none => false
  | .text _ => false
def numsK : List NestedKey → Bool
  | [] => true
  | k :: ks => numK k && numsK ks
end
abbrev nh (w : World) (k : NestedKey) : Int := NestedKey.hash w k
/-- the tuple at a is the key k -/
def NI (h : Heap) (k : NestedKey) (a : Addr) : Prop := (NestedIs h k (.ref a) ∧ k.depth ≤ 8) ∧ numK k = true
section
variable {P : Program} {w : World}
end
theorem NI.keep {h h' : Heap} {k : NestedKey} {a : Addr} (x : NI h k a) (e : ∀ b o, h.get? b = some o → h'.get? b = some o) : NI h' k a :=
  ⟨⟨NestedIs.at (fun b o _ _ z _ => e b o z) k _ x.1.1, x.1.2⟩, x.2⟩
theorem NI.but {h h' : Heap} {k : NestedKey} {a d : Addr} {o : Obj} {es : Array (Int × Value)} {ep : Nat} {t : SetTable} (x : NI h k a) (ho : h.get? d = some o) (hd : o.data = .set es ep t) (sb : Heap.SameBut d h h') : NI h' k a :=
  ⟨⟨NestedIs.at (fun b ob _ _ z y => by
    refine (sb.2 b fun e => ?_).trans z
    subst e
    rw [ho] at z
    cases z
    rw [hd] at y
    cases y) k _ x.1.1, x.1.2⟩, x.2⟩
section
variable {P : Program} {w : World} {A : Around} {E : Value → Shared → Prop} {s : Shared}
end
/-- what is in the set: places and keys -/
abbrev NKL := List (Addr × NestedKey)
def hrow (w : World) (p : Addr × NestedKey) : Int × Value := (nh w p.2, .ref p.1)
structure SetN (w : World) (h : Heap) (a : Addr) (M : NKL) (es : Array (Int × Value)) (t : SetTable) : Prop where
  at_ : ∃ o ep, h.get? a = some o ∧ o.ExactSet ∧ o.data = .set es ep t
  rw_ : es.toList = M.map (hrow w)
  tab : TabOk t (M.map fun p => nh w p.2)
  one : (M.map Prod.snd).Nodup
  key : ∀ p ∈ M, NI h p.2 p.1
  pl : t.plain = true
  led : w.params.followText "set-order" = true ∨ t.led = true
  room : M.length * 5 < t.mask * 3
  few : M.length < 64
section
variable {P : Program} {w : World} {A : Around} {E : Value → Shared → Prop} {s : Shared} {a : Addr} {M : NKL} {es : Array (Int × Value)} {t : SetTable}
theorem SetN.size {h : Heap} (Z : SetN w h a M es t) : es.size = M.length := by
  rw [← Array.length_toList, Z.rw_, List.length_map]
theorem SetN.fits {h : Heap} (Z : SetN w h a M es t) : t.fits es.size = true := by
  have h1 := Z.tab.sz
  have h2 := Z.size
  have h3 := Z.room
  rw [List.length_map] at h1
  unfold SetTable.fits SetTable.fill
  rw [Z.tab.dm, Bool.and_eq_true, beq_iff_eq, decide_eq_true_eq]
  show t.place.size = es.size ∧ t.place.size + 0 ≤ t.mask
  omega
end
end Pu
namespace Pu
variable [TabN]
open PySem PySem.Spec PyProof.Rows L2
section
variable {P : Program} {w : World} {A : Around} {E : Value → Shared → Prop} {s : Shared} {a : Addr} {M : NKL} {es : Array (Int × Value)} {t : SetTable}
end
section
variable {P : Program} {w : World} {A : Around} {E : Value → Shared → Prop} {s : Shared}
theorem SetN.keep {h h' : Heap} {a : Addr} {M : NKL} {es : Array (Int × Value)} {t : SetTable} (Z : SetN w h a M es t) (ha : ∀ o, h.get? a = some o → h'.get? a = some o) (ky : ∀ p ∈ M, NI h' p.2 p.1) : SetN w h' a M es t := by
  obtain ⟨o, ep, ho, r⟩ := Z.at_
  exact ⟨⟨o, ep, ha o ho, r⟩, Z.rw_, Z.tab, Z.one, ky, Z.pl, Z.led, Z.room, Z.few⟩
end
end Pu
namespace Pu
variable [TabN]
open PySem PySem.Spec PyProof.Rows L2
def tupK : NestedKey → Bool
  | .tup _ => true
  | _ => false
def okK (k : NestedKey) : Bool := tupK k && numK k && decide (k.depth ≤ 8)
section
variable {X : Cx} {pins : List (Addr × Obj)} {σ : L2.St} {H : Hp} {s : Shared}
end
section
variable {P : Program} {w : World} {A : Around} {E : Value → Shared → Prop} {s : Shared}
end
section
variable {X : Cx} {e : Expr} {te : TE} {p p2 q pos : Pos}
end
end Pu
namespace Pu
variable [TabN]
open PySem PySem.Spec PyProof.Rows L2
mutual
def D.nk : D → Option NestedKey
  | .int i => some (.num i)
  | .tup ds => match D.nks ds with
    | some ks => some (.tup ks)
    | none => none
  | _ => none
def D.nks : List D → Option (List NestedKey)
  | [] => some []
  | d :: ds => match D.nk d, D.nks ds with
    | some k, some ks => some (k :: ks)
    | _, _ => none
end
mutual
def nkD : NestedKey → D
  | .num i => .int i
  | .tup ks => .tup (nksD ks)
  | .none => .non
  | .text x => .str x
def nksD : List NestedKey → List D
  | [] => []
  | k :: ks => nkD k :: nksD ks
end
def ddNK : List NestedKey → List NestedKey
  | [] => []
  | k :: ks => if k ∈ ks then ddNK ks else k :: ddNK ks
def ltK (a b : NestedKey) : Bool := PySem.W.dataLt a.data b.data
def triB (ks : List NestedKey) : Bool := ks.all fun a => ks.all fun b => decide (a = b) || ltK a b || ltK b a
def condN (ks : List NestedKey) : Bool := ks.all okK && (decide (ks.length < 64) || decide ((ddNK ks).length < 63)) && alikeB (ks.map NestedKey.data) && sortableB (ks.map NestedKey.data) && depthB (ks.map NestedKey.data) && triB ks
def oSortSN (ds : List D) : Option (List D) := match D.nks ds with
  | some ks => if condN ks = true then some (srt leD ((ddNK ks).map nkD)) else none
  | none => none
def gSortSN : En → R → Option (En × R) := fun en r => match r.els en with
  | some (en', _, ds) => (match oSortSN ds with
    | some es => some (en', .val (.lst (es.map W.sh)))
    | none => none)
  | none => none
section
variable {K : PySem.W.Frag} {mg : Str → Option Value}
end
section
variable {X : Cx} {e : Expr} {f : FE} {p p2 q pos : Pos}
def fSortSN (f : FE) : FE := fU gSortSN f
end
def pSortSN : D → Option D := pIts fun _ ds => (oSortSN ds).map .lst
theorem gSortSN_els (en : En) (r : R) : gSortSN en r = match R.els en r with
    | some (en', _, ds) => ((oSortSN ds).map fun es => W.lst (es.map W.sh)).map fun w => (en', R.val w)
    | none => none := by
  unfold gSortSN
  rcases R.els en r with _ | ⟨en', k, ds⟩
  · rfl
  · simp only
    cases oSortSN ds <;> rfl
instance : OpU1 gSortSN pSortSN := OpU1.els (fun _ ds => (oSortSN ds).map fun es => W.lst (es.map W.sh)) (fun en r => by
    rw [gSortSN_els]
    all_goals (rcases R.els en r with _ | ⟨en', k, ds⟩ <;> rfl)) fun d => by
  unfold pSortSN pIts
  rcases d.its with _ | ⟨k, ds⟩
  · rfl
  · simp only
    cases oSortSN ds <;> simp [W.d, sh_ds]
instance : OwU gSortSN := OwU.els (fun _ ds => (oSortSN ds).map fun es => W.lst (es.map W.sh)) (fun en r => by
    rw [gSortSN_els]
    all_goals (rcases R.els en r with _ | ⟨en', k, ds⟩ <;> rfl)) fun k ds w es h e => by
  cases ho : oSortSN ds with
  | none => rw [ho] at h; cases h
  | some xs => rw [ho] at h; exact own_row h e
section
variable {f : FE} {ρ : List D} [Fz f]
instance : Fz (fSortSN f) := inferInstanceAs (Fz (fU gSortSN f))
instance : Ow 1 (fSortSN f) := inferInstanceAs (Ow 1 (fU gSortSN f))
theorem P_fSortSN : P (fSortSN f) ρ = (P f ρ).bind pSortSN := P_fU
end
end Pu
namespace Pu
variable [TabN]
open PySem PySem.Spec PyProof.Rows L2
def gTupRg : En → R → Option (En × R) := fun en r => match r.d en with
  | some (.int n) => if -(2 ^ 62) ≤ n ∧ n < 2 ^ 62 ∧ n.toNat ≤ 2 ^ 24 then some (en, .val (.sh (.tup ((List.range n.toNat).map fun (k : Nat) => D.int (k : Int))))) else none
  | _ => none
section
variable {K : PySem.W.Frag} {mg : Str → Option Value}
end
section
variable {X : Cx} {e : Expr} {f : FE} {p p2 pos q : Pos}
def fTupRg (f : FE) : FE := fU gTupRg f
end
def pTupRg : D → Option D
  | .int n => if -(2 ^ 62) ≤ n ∧ n < 2 ^ 62 ∧ n.toNat ≤ 2 ^ 24 then some (.tup ((List.range n.toNat).map fun (k : Nat) => D.int (k : Int))) else none
  | _ => none
instance : OpU1 gTupRg pTupRg := ⟨fun en w => by
  unfold gTupRg
  rw [show R.d en (.val w) = some w.d from rfl]
  unfold pTupRg
  cases w.d
  case int n =>
    simp only
    split
    · exact ⟨some (.sh (.tup _)), rfl, rfl⟩
    · exact ⟨none, rfl, rfl⟩
  all_goals exact ⟨none, rfl, rfl⟩⟩
section
variable {f : FE} {ρ : List D} [Fz f]
instance : Fz (fTupRg f) := inferInstanceAs (Fz (fU gTupRg f))
theorem P_fTupRg : P (fTupRg f) ρ = (P f ρ).bind pTupRg := P_fU
end
end Pu
namespace Pu
variable [TabN]
open PySem PySem.Spec PyProof.Rows L2
def rgB (a b : Int) : Bool := decide (-(2 ^ 62) ≤ a ∧ a < 2 ^ 62 ∧ -(2 ^ 62) ≤ b ∧ b < 2 ^ 62 ∧ (b - a).toNat ≤ 2 ^ 24)
def rgDs (a b : Int) : List D := (List.range (b - a).toNat).map fun (k : Nat) => D.int (a + (k : Int))
def gRg2 (mk : List D → W) : En → List R → Option (En × R) := fun en rs => match rds en rs with
  | some [.int a, .int b] => if rgB a b = true then some (en, .val (mk (rgDs a b))) else none
  | _ => none
def mkL (ds : List D) : W := .lst (ds.map W.sh)
def mkT (ds : List D) : W := .sh (.tup ds)
section
variable {K : PySem.W.Frag} {mg : Str → Option Value}
end
section
variable {X : Cx} {e1 e2 : Expr} {f g : FE} {p p2 pos q : Pos}
def fListRg2 (f g : FE) : FE := fN (gRg2 mkL) [f, g]
def fTupRg2 (f g : FE) : FE := fN (gRg2 mkT) [f, g]
end
def pRg2 (mk : List D → D) : List D → Option D
  | [.int a, .int b] => if rgB a b = true then some (mk (rgDs a b)) else none
  | _ => none
theorem rg2_p {mk : List D → W} {mkd : List D → D} (h : ∀ ds, (mk ds).d = mkd ds) : OpP (gRg2 mk) (pRg2 mkd) := ⟨fun en ws => by
  unfold gRg2
  rw [rds_val]
  unfold pRg2
  generalize W.ds ws = ds
  split
  · rename_i a b e
    cases e
    by_cases z : rgB a b = true
    · simp only [if_pos z]
      exact ⟨some (mk _), rfl, by simp only [Option.map_some, h]⟩
    · simp only [if_neg z]
      exact ⟨none, rfl, rfl⟩
  · rename_i hn
    refine ⟨none, rfl, ?_⟩
    split
    · exact absurd rfl (hn _ _)
    · rfl⟩
instance : OpP (gRg2 mkL) (pRg2 D.lst) := rg2_p fun ds => by simp only [mkL, W.d, sh_ds]
instance : OpP (gRg2 mkT) (pRg2 D.tup) := rg2_p fun _ => rfl
instance : OwG (gRg2 mkL) := ⟨fun {en ws en' w} e ds hd => by
  unfold gRg2 at e
  split at e
  · split at e
    · cases e
      simp only [mkL, W.d, sh_ds, D.lst.injEq] at hd
      rw [mkL, hd]
    · cases e
  · cases e⟩
section
variable {f g : FE} {ρ : List D} [Fz f] [Fz g]
instance : Fz (fListRg2 f g) := inferInstanceAs (Fz (fN (gRg2 mkL) [f, g]))
instance : Fz (fTupRg2 f g) := inferInstanceAs (Fz (fN (gRg2 mkT) [f, g]))
instance : Ow 1 (fListRg2 f g) := inferInstanceAs (Ow 1 (fN (gRg2 mkL) [f, g]))
theorem P_fListRg2 : P (fListRg2 f g) ρ = (P f ρ).bind fun x => (P g ρ).bind fun y => pRg2 D.lst [x, y] := P_two
theorem P_fTupRg2 : P (fTupRg2 f g) ρ = (P f ρ).bind fun x => (P g ρ).bind fun y => pRg2 D.tup [x, y] := P_two
end
end Pu
namespace Pu
variable [TabN]
open PySem PySem.Spec PyProof.Rows L2 ItX
section
variable {prog : Program} {w : World} {A : Around} {E : Value → Shared → Prop} {s : Shared} {it l : Addr} {i : Nat} {dflt : Value}
end
/-- the first thing of a list, or None -/
def gNextIt : En → R → Option (En × R) := fun en r => match r.els en with
  | some (en', .l, ds) => some (en', .val (.sh (ds.headD .non)))
  | _ => none
section
variable {K : PySem.W.Frag} {mg : Str → Option Value} {n : Nat}
end
section
variable {X : Cx} {e : Expr} {te : TE} {c : Nat} {p p2 pos q pc : Pos}
def fNextIt (f : FE) : FE := fU gNextIt f
end
def pNextIt : D → Option D := pIts fun k ds => if k = .l then some (ds.headD .non) else none
theorem gNextIt_els (en : En) (r : R) : gNextIt en r = match R.els en r with
    | some (en', k, ds) => (if k = .l then some (W.sh (ds.headD .non)) else none).map fun w => (en', R.val w)
    | none => none := by
  unfold gNextIt
  rcases R.els en r with _ | ⟨en', k, ds⟩
  · rfl
  · cases k <;> rfl
instance : OpU1 gNextIt pNextIt := OpU1.els (fun k ds => if k = .l then some (.sh (ds.headD .non)) else none) (fun en r => by
    rw [gNextIt_els]
    all_goals (rcases R.els en r with _ | ⟨en', k, ds⟩ <;> rfl)) fun d => by
  unfold pNextIt pIts
  rcases d.its with _ | ⟨k, ds⟩
  · rfl
  · simp only
    split
    · simp only [Option.map_some, W.d]
    · rfl
section
variable {f : FE} {ρ : List D} [Fz f]
instance : Fz (fNextIt f) := inferInstanceAs (Fz (fU gNextIt f))
theorem P_fNextIt : P (fNextIt f) ρ = (P f ρ).bind pNextIt := P_fU
theorem pNextIt_lst {ds : List D} : pNextIt (.lst ds) = some (ds.headD .non) := rfl
end
end Pu
namespace Pu
variable [TabN]
open PySem PySem.Spec PyProof.Rows L2
instance {fs : List FE} [FzLs fs] : Shy (fTup fs) := ⟨fun {ρ w} h => by
  unfold Pw fTup fN at h
  rw [FzLs.eq fs ρ] at h
  cases e : PLw fs ρ with
  | none => rw [e] at h; cases h
  | some ws =>
    rw [e] at h
    by_cases hs : (W.ds ws).length ≤ sizeLine
    · simp only [Option.map_some, gTupD, rfz_val, if_pos hs, Option.some.injEq] at h
      exact ⟨_, h.symm⟩
    · simp only [Option.map_some, gTupD, rfz_val, if_neg hs] at h
      cases h⟩
end Pu
namespace Pu
variable [TabN]
open PySem PySem.Spec PyProof.Rows L2
section
variable {X : Cx}
end
end Pu
namespace Pu
variable [TabN]
open PySem PySem.Spec PyProof.Rows L2
def pairD : D → Option (List Key × D)
  | .tup [kd, d] => match kd.tkey with
    | some ks => some (ks, d)
    | none => none
  | _ => none
section
variable {K : PySem.W.Frag} {mg : Str → Option Value}
end
section
variable {X : Cx} {e : Expr} {f : FE} {p pos : Pos}
end
end Pu
namespace Pu
variable [TabN]
open PySem PySem.Spec PyProof.Rows L2
def D.tkeyE : D → Option (List Key)
  | .tup [] => some []
  | d => d.tkey
section
variable {K : PySem.W.Frag} {mg : Str → Option Value}
end
section
variable {X : Cx} {pins : List (Addr × Obj)} {σ : L2.St} {H : Hp} {s : Shared} {A : Around} {E : Value → Shared → Prop} {a : Addr} {y : V} {u : Value} {o : Option V}
end
section
variable {X : Cx} {o i : Expr} {ty td : TE}
end
def gDInE (neg : Bool) : En → List R → Option (En × R)
  | en, [r1, r2] => match r1.d en, r2.dT en with
    | some d, some (ks, _) => match d.tkeyE with
      | some k => some (en, .val (.sh (.bl (if neg then !hasK ks k else hasK ks k))))
      | none => none
    | _, _ => none
  | _, _ => none
section
variable {X : Cx} {o i : Expr} {fo fi : FE} {pos : Pos}
end
def pDInE (neg : Bool) : List D → Option D
  | [x, y] => y.dTq.bind fun p => x.tkeyE.bind fun k => some (.bl (if neg then !hasK p.1 k else hasK p.1 k))
  | _ => none
instance {neg : Bool} : OpP (gDInE neg) (pDInE neg) := OpP.of2 (fun en rs h => by
    match rs, h with
    | [], _ => rfl
    | [_], _ => rfl
    | [a, b], h => exact absurd rfl (h a b)
    | _ :: _ :: _ :: _, _ => rfl) (fun ds h => by
    match ds, h with
    | [], _ => rfl
    | [_], _ => rfl
    | [a, b], h => exact absurd rfl (h a b)
    | _ :: _ :: _ :: _, _ => rfl) fun en a b => by
  simp only [gDInE, dT_val, R.d, pDInE]
  cases h1 : b.d.dTq with
  | none => exact ⟨none, rfl, rfl⟩
  | some x =>
    obtain ⟨ks, ds⟩ := x
    simp only [Option.bind_some]
    cases h2 : a.d.tkeyE with
    | none => exact ⟨none, rfl, rfl⟩
    | some k => exact ⟨some (.sh (.bl (if neg then !hasK ks k else hasK ks k))), rfl, rfl⟩
end Pu
namespace Pu
variable [TabN]
open PySem PySem.Spec PyProof.Rows L2
def stepIx (lo : Option Int) (st : Int) (n : Nat) : List Nat := sliceRange (sliceBounds lo none (some st) n).1 (sliceBounds lo none (some st) n).2.1 (sliceBounds lo none (some st) n).2.2
def stepL {α : Type} (lo : Option Int) (st : Int) (l : List α) : List α := (stepIx lo st l.length).filterMap fun i => l[i]?
def gStepL (lo : Option Int) (st : Int) : En → R → Option (En × R) := fun en r => match r.els en with
  | some (en', .l, ds) => if (stepL lo st ds).length ≤ sizeLine then some (en', .val (.lst ((stepL lo st ds).map W.sh))) else none
  | _ => none
section
variable {X : Cx} {e : Expr} {te : TE} {lo st : Option Expr} {tl ts : TO} {vl : Option Int} {vs : Int} {p3 pos : Pos}
end
def fStepL (lo : Option Int) (st : Int) (f : FE) : FE := fU (gStepL lo st) f
section
variable {X : Cx} {e : Expr} {f : FE} {p1 p2 p3 p4 p5 pos : Pos} {k k2 : Nat} {a b : Int}
end
def pStepL (lo : Option Int) (st : Int) : D → Option D := pIts fun k ds => if k = .l ∧ (stepL lo st ds).length ≤ sizeLine then some (.lst (stepL lo st ds)) else none
theorem gStepL_els {lo : Option Int} {st : Int} (en : En) (r : R) : gStepL lo st en r = match R.els en r with
    | some (en', k, ds) => (if k = .l ∧ (stepL lo st ds).length ≤ sizeLine then some (W.lst ((stepL lo st ds).map W.sh)) else none).map fun w => (en', R.val w)
    | none => none := by
  unfold gStepL
  rcases R.els en r with _ | ⟨en', k, ds⟩
  · rfl
  · by_cases z : (stepL lo st ds).length ≤ sizeLine
    · cases k <;> simp [z]
    · cases k <;> simp [z]
instance {lo : Option Int} {st : Int} : OpU1 (gStepL lo st) (pStepL lo st) := OpU1.els (fun k ds => if k = .l ∧ (stepL lo st ds).length ≤ sizeLine then some (.lst ((stepL lo st ds).map W.sh)) else none) (fun en r => by
    rw [gStepL_els]
    all_goals (rcases R.els en r with _ | ⟨en', k, ds⟩ <;> rfl)) fun d => by
  unfold pStepL pIts
  rcases d.its with _ | ⟨k, ds⟩
  · rfl
  · simp only
    split
    · simp only [Option.map_some, W.d, sh_ds]
    · rfl
instance {lo : Option Int} {st : Int} : OwU (gStepL lo st) := OwU.els (fun k ds => if k = .l ∧ (stepL lo st ds).length ≤ sizeLine then some (.lst ((stepL lo st ds).map W.sh)) else none) (fun en r => by
    rw [gStepL_els]
    all_goals (rcases R.els en r with _ | ⟨en', k, ds⟩ <;> rfl)) fun k ds w es h e => by
  split at h
  · exact own_row h e
  · cases h
section
variable {f : FE} {ρ : List D} [Fz f] {lo : Option Int} {st : Int}
instance : Fz (fStepL lo st f) := inferInstanceAs (Fz (fU (gStepL lo st) f))
instance : Ow 1 (fStepL lo st f) := inferInstanceAs (Ow 1 (fU (gStepL lo st) f))
theorem P_fStepL : P (fStepL lo st f) ρ = (P f ρ).bind (pStepL lo st) := P_fU
end
end Pu
namespace Pu
variable [TabN]
open PySem PySem.Spec PyProof.Rows L2
def kvK (kvs : List (Int × Int)) : List (Key × V) := kvs.map fun kv => ((.inl kv.1 : Key), V.int kv.2)
def gConstIx (kvs : List (Int × Int)) : En → R → Option (En × R) := fun en r => match r.d en with
  | some (.int k) => match valV (mergeK [] (kvK kvs)) (.inl k) with
    | some (.int v) => some (en, .val (.sh (.int v)))
    | _ => none
  | _ => none
def fConstIx (kvs : List (Int × Int)) (f : FE) : FE := fU (gConstIx kvs) f
theorem upd2 {H : Hp} {p : Addr} {a b : HO} : upd (upd H p a) p b = upd H p b := by
  funext x
  by_cases h : x = p
  · rw [h, upd_same, upd_same]
  · rw [upd_ne h, upd_ne h, upd_ne h]
section
variable {X : Cx} {i : Expr} {fi : FE} {pos dpos : Pos} {keys : List (Option Expr)} {values : List Expr} {kvs : List (Int × Int)}
end
def pConstIx (kvs : List (Int × Int)) : D → Option D
  | .int k => match valV (mergeK [] (kvK kvs)) (.inl k) with
    | some (.int v) => some (.int v)
    | _ => none
  | _ => none
instance {kvs : List (Int × Int)} : OpU1 (gConstIx kvs) (pConstIx kvs) := ⟨fun en w => by
  unfold gConstIx
  rw [show R.d en (.val w) = some w.d from rfl]
  unfold pConstIx
  cases w.d
  case int k =>
    simp only
    cases valV (mergeK [] (kvK kvs)) (.inl k) with
    | none => exact ⟨none, rfl, rfl⟩
    | some v =>
      cases v
      case int i => exact ⟨some (.sh (.int i)), rfl, rfl⟩
      all_goals exact ⟨none, rfl, rfl⟩
  all_goals exact ⟨none, rfl, rfl⟩⟩
section
variable {f : FE} {ρ : List D} [Fz f] {kvs : List (Int × Int)}
instance : Fz (fConstIx kvs f) := inferInstanceAs (Fz (fU (gConstIx kvs) f))
theorem P_fConstIx : P (fConstIx kvs f) ρ = (P f ρ).bind (pConstIx kvs) := P_fU
end
end Pu
namespace Pu
variable [TabN]
open PySem PySem.Spec PyProof.Rows L2
section
variable {X : Cx} {pins : List (Addr × Obj)} {σ : L2.St} {H : Hp} {s : Shared} {d : Addr} {o : Obj}
end
section
variable {P : Program} {w : World} {K : PySem.W.Frag} {d : Addr} {o : Obj} {es : Array DictEntry} {ep : Nat} {bs : List Addr}
end
def itemsD (ks : List (List Key)) (ds : List D) : List D := List.zipWith (fun k d => .tup [tkeyD k, d]) ks ds
section
variable {K : PySem.W.Frag} {mg : Str → Option Value}
end
def iItems (f : FE) : FI := fun en => match f en with
  | none => none
  | some (en1, r) => match r.dT en1, r.lock en1 with
    | some (ks, ds), some (en2, _) => some (en2, itemsD ks ds)
    | _, _ => none
section
variable {X : Cx} {e : Expr} {f : FE} {elts : List Expr} {kk : Nat} {tpos apos cpos : Pos}
end
end Pu
namespace Pu
variable [TabN]
open PySem PySem.Spec PyProof.Rows L2
def R.dK (en : En) : R → Option (List Key × List D)
  | .val (.sh (.dK ks ds)) => some (ks, ds)
  | .val (.dK ks ds) => some (ks, ds)
  | .pl i p => match en.get i p with
    | some (.sh (.dK ks ds)) => some (ks, ds)
    | some (.dK ks ds) => some (ks, ds)
    | _ => none
  | _ => none
section
variable {K : PySem.W.Frag} {mg : Str → Option Value} {σ : L2.St}
theorem RR.dKr {F H : Hp} {en : En} {L Lr : List Addr} {r : R} {v : V} {ks : List Key} {ds : List D} (st : StOk K mg F H σ en L) (h : RR K mg F H σ en L r v Lr) (e : r.dK en = some (ks, ds)) :
    ∃ a kws, v = .ref a ∧ Rd H a (.dK kws) ∧ kws.map (·.1) = ks ∧ Reps K mg F ds (kws.map (·.2)) := by
  have one : ∀ {w : W} {M : List Addr}, Own K mg F H w v M → (w = .sh (.dK ks ds) ∨ w = .dK ks ds) → ∃ a kws, v = .ref a ∧ Rd H a (.dK kws) ∧ kws.map (·.1) = ks ∧ Reps K mg F ds (kws.map (·.2)) := by
    intro w M o hw
    rcases hw with rfl | rfl
    · simp only [Own, Rep] at o
      obtain ⟨⟨a, kws, e1, h1, h2, h3⟩, _⟩ := o
      exact ⟨a, kws, e1, .inl (st.sub _ _ h1), h2, h3⟩
    · simp only [Own] at o
      obtain ⟨a, kws, e1, h1, _, _, h2, h3⟩ := o
      exact ⟨a, kws, e1, .inl h1, h2, h3⟩
  cases r with
  | val w =>
    simp only [RR] at h
    unfold R.dK at e
    split at e
    · rename_i h0; cases h0; cases e; exact one h (.inl rfl)
    · rename_i h0; cases h0; cases e; exact one h (.inr rfl)
    · rename_i h0; cases h0
    · cases e
  | pl i p =>
    obtain ⟨_, w, La, Lm, Lb, P⟩ := RR.part st h
    have g := P.1
    simp only [R.dK, g] at e
    split at e
    · rename_i h0; cases h0; cases e; exact one P.2.2.1 (.inl rfl)
    · rename_i h0; cases h0; cases e; exact one P.2.2.1 (.inr rfl)
    · cases e
theorem look_none {κ : Type} [DecidableEq κ] {F : Hp} {k : κ} : ∀ {ks : List κ} {ds : List D} {kws : List (κ × V)}, kws.map (·.1) = ks → Reps K mg F ds (kws.map (·.2)) → lookD ks ds k = none → valV kws k = none
  | [], [], [], _, _, _ => rfl
  | k0 :: ks, d :: ds, p :: kws, e, h, hl => by
    simp only [List.map_cons, List.cons.injEq] at e
    simp only [List.map_cons, Reps] at h
    simp only [lookD] at hl
    by_cases hk : k0 = k
    · rw [if_pos hk] at hl; cases hl
    · rw [if_neg hk] at hl
      rw [valV_neg (by rw [e.1]; exact hk)]
      exact look_none e.2 h.2 hl
  | [], d :: ds, [], _, h, _ => by simp only [List.map_nil, Reps] at h
  | k0 :: ks, [], p :: kws, _, h, _ => by simp only [List.map_cons, Reps] at h
  | [], _, p :: kws, e, _, _ => by simp at e
  | k0 :: ks, _, [], e, _, _ => by simp at e
end
/-- what a dict of either kind holds at a key: none, if it is no such dict or key -/
def lookR (en : En) (r : R) (kd : D) : Option (Option D) := match r.dT en with
  | some (ks, ds) => kd.tkey.map fun k => lookD ks ds k
  | none => match r.dK en with
    | some (ks, ds) => kd.key.map fun k => lookD ks ds k
    | none => none
section
variable {K : PySem.W.Frag} {mg : Str → Option Value} {σ : L2.St}
theorem lookR_ok {F H : Hp} {en : En} {L Lr : List Addr} {r : R} {v y : V} {kd : D} {od : Option D} (st : StOk K mg F H σ en L) (h : RR K mg F H σ en L r v Lr) (hk : Rep K mg H kd y) (e : lookR en r kd = some od) :
    ∃ a ov, v = .ref a ∧ DGet H a y ov ∧ (∀ d, od = some d → ∃ u, ov = some u ∧ Rep K mg F d u) ∧ (od = none → ov = none) := by
  unfold lookR at e
  split at e
  · rename_i ks ds e1
    rw [Option.map_eq_some_iff] at e
    obtain ⟨k, ek, rfl⟩ := e
    obtain ⟨a, kws, rfl, ha, hk1, hr⟩ := h.dT st e1
    obtain ⟨b, rfl, hb⟩ := rep_tkey hk ek
    exact ⟨a, valV kws k, rfl, .inr ⟨kws, k, b, ha, rfl, hb, rfl⟩, fun d hd => look_val hk1 hr hd, fun hd => look_none hk1 hr hd⟩
  · split at e
    · rename_i ks ds e1
      rw [Option.map_eq_some_iff] at e
      obtain ⟨k, ek, rfl⟩ := e
      obtain ⟨a, kws, rfl, ha, hk1, hr⟩ := h.dKr st e1
      have := rep_key hk ek
      subst this
      exact ⟨a, valV kws k, rfl, .inl ⟨kws, k, ha, rfl, rfl⟩, fun d hd => look_val hk1 hr hd, fun hd => look_none hk1 hr hd⟩
    · cases e
end
def gQGet : En → List R → Option (En × R)
  | en, [r1, r2] => match r2.d en with
    | some kd => match lookR en r1 kd with
      | some (some x) => some (en, .val (.sh x))
      | _ => none
    | none => none
  | _, _ => none
def gQIn (neg : Bool) : En → List R → Option (En × R)
  | en, [r1, r2] => match r1.d en with
    | some kd => match lookR en r2 kd with
      | some od => some (en, .val (.sh (.bl (if neg then !od.isSome else od.isSome))))
      | none => none
    | none => none
  | _, _ => none
def gQGet2 : En → List R → Option (En × R)
  | en, [r1, r2, .val w3] => match r2.d en with
    | some kd => match lookR en r1 kd with
      | some (some d) => some (en, .val (.sh d))
      | some none => some (en, .val w3)
      | none => none
    | none => none
  | _, _ => none
def fCkD (fo : FE) : FE := fun en => match fo en with
  | none => none
  | some (en1, r) => if (r.dT en1).isSome || (r.dK en1).isSome then some (en1, r) else none
section
variable {K : PySem.W.Frag} {mg : Str → Option Value} {σ : L2.St}
end
section
variable {X : Cx} {o i x : Expr} {fo fi fx : FE} {pos apos : Pos}
theorem op_qget : OpN X.K X.mg (r2N fun x y H Q => ∃ a v, x = .ref a ∧ DGet H a y (some v) ∧ Q v H) gQGet := by
  intro F H σ en L rs vs Lr en' r' st rr hs nd e Q q
  unfold gQGet at e
  split at e
  · rename_i r1 r2
    split at e
    · rename_i kd ek
      split at e
      · rename_i x ex
        cases e
        obtain ⟨v1, v2, A, B, rfl, rfl, h1, h2⟩ := rrs2 rr
        obtain ⟨a, ov, rfl, g, g1, _⟩ := lookR_ok st h1 (h2.peek st ek) ex
        obtain ⟨y, rfl, ry⟩ := g1 _ rfl
        exact ⟨_, _, rfl, a, y, rfl, g, q y F H L [] st (by simp only [RR]; exact own_sh ry) (by simpa using st.nd) (Ext.refl.mem (fun a h => h) fun a h => by
          have h' : a ∈ L := by simpa using h
          simp [h'])⟩
      · cases e
    · cases e
  · cases e
theorem se_qget (hu : X.A.units + 1 < cLine) (ho : SE X o fo) (hi : SE X i fi) (hs : NoSl i := by exact fun _ _ => rfl) : SE X (.Subscript o i pos) (fN gQGet [fo, fi]) :=
  pe_imp (pe_dget hu ho hi hs) fun σ H Q q => tEv_two (op_behind op_qget q)
end
section
variable {K : PySem.W.Frag} {mg : Str → Option Value}
end
section
variable {X : Cx} {fix : List Nat} {o ix value : Expr} {fe fi : FE} {i : Nat} {pos pos' : Pos}
end
def keyInts : List Key → Option (List Int)
  | [] => some []
  | .inl n :: ks => (keyInts ks).map fun ns => n :: ns
  | .inr _ :: _ => none
def mmI (mx : Bool) (n : Int) (ns : List Int) : Int := if mx then ns.foldl max n else ns.foldl min n
end Pu
namespace Pu
variable [TabN]
open PySem PySem.Spec PyProof.Rows L2
section
variable {prog : Program} {w : World} {A : Around} {E : Value → Shared → Prop} {s : Shared}
end
section
variable {X : Cx}
end
def gMMK (mx : Bool) : En → R → Option (En × R) := fun en r => match r.dK en with
  | some (ks, _) => match keyInts ks with
    | some (n :: ns) => some (en, .val (.sh (.int (mmI mx n ns))))
    | _ => none
  | none => none
section
variable {X : Cx} {e : Expr} {f : FE} {p pos : Pos}
def fMinK (f : FE) : FE := fU (gMMK false) f
def fMaxK (f : FE) : FE := fU (gMMK true) f
end
end Pu
namespace Pu
variable [TabN]
open PySem PySem.Spec PyProof.Rows L2
section
variable {X : Cx} {pos : Pos} {keys : List (Option Expr)} {values : List Expr} {trs : List (TE × TE)}
end
section
variable {K : PySem.W.Frag} {mg : Str → Option Value}
end
section
variable {X : Cx} {pos : Pos} {keys : List (Option Expr)} {values : List Expr} {fs : List (FE × FE)}
end
end Pu
namespace Pu
variable [TabN]
open PySem PySem.Spec PyProof.Rows L2
def D.dKq : D → Option (List Key × List D)
  | .dK ks ds => some (ks, ds)
  | _ => none
theorem dK_val (en : En) (w : W) : R.dK en (.val w) = w.d.dKq := by
  cases w with
  | sh d => cases d <;> rfl
  | _ => rfl
def lookQ (d kd : D) : Option (Option D) := match d.dTq with
  | some (ks, ds) => kd.tkey.map fun k => lookD ks ds k
  | none => match d.dKq with
    | some (ks, ds) => kd.key.map fun k => lookD ks ds k
    | none => none
theorem lookR_val (en : En) (w : W) (kd : D) : lookR en (.val w) kd = lookQ w.d kd := by
  unfold lookR lookQ
  rw [dT_val, dK_val]
  all_goals rfl
def pQGet : List D → Option D
  | [a, b] => (lookQ a b).bind id
  | _ => none
instance : OpP gQGet pQGet := OpP.of2 (fun en rs h => by
    match rs, h with
    | [], _ => rfl
    | [_], _ => rfl
    | [a, b], h => exact absurd rfl (h a b)
    | _ :: _ :: _ :: _, _ => rfl) (fun ds h => by
    match ds, h with
    | [], _ => rfl
    | [_], _ => rfl
    | [a, b], h => exact absurd rfl (h a b)
    | _ :: _ :: _ :: _, _ => rfl) fun en a b => by
  simp only [gQGet, lookR_val, R.d, pQGet]
  rcases lookQ a.d b.d with _ | _ | x
  · exact ⟨none, rfl, rfl⟩
  · exact ⟨none, rfl, rfl⟩
  · exact ⟨some (.sh x), rfl, rfl⟩
def pQIn (neg : Bool) : List D → Option D
  | [a, b] => (lookQ b a).map fun od => .bl (if neg then !od.isSome else od.isSome)
  | _ => none
instance {neg : Bool} : OpP (gQIn neg) (pQIn neg) := OpP.of2 (fun en rs h => by
    match rs, h with
    | [], _ => rfl
    | [_], _ => rfl
    | [a, b], h => exact absurd rfl (h a b)
    | _ :: _ :: _ :: _, _ => rfl) (fun ds h => by
    match ds, h with
    | [], _ => rfl
    | [_], _ => rfl
    | [a, b], h => exact absurd rfl (h a b)
    | _ :: _ :: _ :: _, _ => rfl) fun en a b => by
  simp only [gQIn, lookR_val, R.d, pQIn]
  rcases lookQ b.d a.d with _ | x
  · exact ⟨none, rfl, rfl⟩
  · exact ⟨some (.sh (.bl (if neg then !x.isSome else x.isSome))), rfl, rfl⟩
def pQGet2 : List D → Option D
  | [a, b, c] => (lookQ a b).map fun od => od.getD c
  | _ => none
instance : OpP gQGet2 pQGet2 := ⟨fun en ws => by
  match ws with
  | [] => exact ⟨none, rfl, rfl⟩
  | [_] => exact ⟨none, rfl, rfl⟩
  | [_, _] => exact ⟨none, rfl, rfl⟩
  | _ :: _ :: _ :: _ :: _ => exact ⟨none, rfl, rfl⟩
  | [a, b, c] =>
    simp only [List.map_cons, List.map_nil, gQGet2, lookR_val, R.d, pQGet2, W.ds]
    rcases lookQ a.d b.d with _ | _ | x
    · exact ⟨none, rfl, rfl⟩
    · exact ⟨some c, rfl, rfl⟩
    · exact ⟨some (.sh x), rfl, rfl⟩⟩
def pCkD (d : D) : Option D := if d.dTq.isSome || d.dKq.isSome then some d else none
theorem fCkD_fz {f : FE} [Fz f] (ρ : List D) : fCkD f (fz ρ) = ((Pw f ρ).bind fun w => if w.d.dTq.isSome || w.d.dKq.isSome then some w else none).map fun w => (fz ρ, R.val w) := by
  unfold fCkD
  rw [Fz.eq f ρ]
  cases Pw f ρ with
  | none => rfl
  | some w =>
    simp only [Option.map_some, Option.bind_some, dT_val, dK_val]
    split <;> rfl
instance {f : FE} [Fz f] : Fz (fCkD f) := Fz.mk' fun ρ => ⟨_, fCkD_fz ρ⟩
theorem P_fCkD {f : FE} {ρ : List D} [Fz f] : P (fCkD f) ρ = (P f ρ).bind pCkD := by
  rw [P, Pw_of (fCkD_fz ρ), P]
  cases Pw f ρ with
  | none => rfl
  | some w =>
    simp only [Option.bind_some, Option.map_some, pCkD]
    split <;> rfl
def pMMK (mx : Bool) (d : D) : Option D := d.dKq.bind fun x => match keyInts x.1 with
  | some (n :: ns) => some (.int (mmI mx n ns))
  | _ => none
instance {mx : Bool} : OpU1 (gMMK mx) (pMMK mx) := ⟨fun en w => by
  unfold gMMK pMMK
  rw [dK_val]
  rcases w.d.dKq with _ | ⟨ks, ds⟩
  · exact ⟨none, rfl, rfl⟩
  · simp only [Option.bind_some]
    rcases keyInts ks with _ | _ | ⟨n, ns⟩
    · exact ⟨none, rfl, rfl⟩
    · exact ⟨none, rfl, rfl⟩
    · exact ⟨some (.sh (.int (mmI mx n ns))), rfl, rfl⟩⟩
section
variable {f : FE} {ρ : List D} [Fz f]
instance : Fz (fMinK f) := inferInstanceAs (Fz (fU (gMMK false) f))
instance : Fz (fMaxK f) := inferInstanceAs (Fz (fU (gMMK true) f))
theorem P_fMinK : P (fMinK f) ρ = (P f ρ).bind (pMMK false) := P_fU
theorem P_fMaxK : P (fMaxK f) ρ = (P f ρ).bind (pMMK true) := P_fU
end
def pItems (d : D) : Option (List D) := match d with
  | .lT ks ds => some (itemsD ks ds)
  | _ => none
theorem iItems_fz {f : FE} [Fz f] [h : Shy f] (ρ : List D) : iItems f (fz ρ) = ((P f ρ).bind pItems).map fun ds => (fz ρ, ds) := by
  unfold iItems P
  rw [Fz.eq f ρ]
  cases e : Pw f ρ with
  | none => rfl
  | some w =>
    obtain ⟨d, rfl⟩ := h.ok e
    simp only [Option.map_some, Option.bind_some, W.d]
    cases d <;> rfl
instance {f : FE} [Fz f] [Shy f] : FzI (iItems f) := FzI.mk' fun ρ => ⟨_, iItems_fz ρ⟩
theorem PI_iItems {f : FE} {ρ : List D} [Fz f] [Shy f] : PI (iItems f) ρ = (P f ρ).bind pItems := PI_of (iItems_fz ρ)
theorem P_three {g : En → List R → Option (En × R)} {op : List D → Option D} {a b c : FE} {ρ : List D} [OpP g op] [Fz a] [Fz b] [Fz c] : P (fN g [a, b, c]) ρ = (P a ρ).bind fun x => (P b ρ).bind fun y => (P c ρ).bind fun z => op [x, y, z] := by
  rw [P_fN, PL_cons, PL_cons, PL_cons, PL_nil]
  rcases P a ρ with _ | x
  · rfl
  · rcases P b ρ with _ | y
    · rfl
    · rcases P c ρ with _ | z <;> rfl
end Pu
namespace Pu
variable [TabN]
open PySem PySem.Spec PyProof.Rows L2
def intsD : List D → Option (List Int)
  | [] => some []
  | .int i :: ds => (intsD ds).map fun is => i :: is
  | _ :: _ => none
def pCnt (d : D) (k : Option D) : Option D := match d with
  | .lst ds => match k with
    | some (.int i) => match intsD ds with
      | some is => some (.int (is.count i : Nat))
      | none => none
    | _ => none
  | _ => none
def fCnt (fo : FE) (fa : En → Option D) : FE := fun en => match fo en with
  | none => none
  | some (en1, r) => match r.d en1 with
    | some d => match pCnt d (fa en1) with
      | some x => some (en1, .val (.sh x))
      | none => none
    | none => none
section
variable {X : Cx} {fo : FE} {fa : En → Option D}
variable {o e : Expr} {apos cpos : Pos}
end
theorem fCnt_fz {f : FE} {fa : En → Option D} [Fz f] (ρ : List D) : fCnt f fa (fz ρ) = (((P f ρ).bind fun d => pCnt d (fa (fz ρ))).map W.sh).map fun w => (fz ρ, R.val w) := by
  unfold fCnt P
  rw [Fz.eq f ρ]
  cases Pw f ρ with
  | none => rfl
  | some w =>
    simp only [Option.map_some, Option.bind_some, R.d]
    cases pCnt w.d (fa (fz ρ)) <;> rfl
instance {f : FE} {fa : En → Option D} [Fz f] : Fz (fCnt f fa) := Fz.mk' fun ρ => ⟨_, fCnt_fz ρ⟩
theorem P_fCnt {f : FE} {fa : En → Option D} {ρ : List D} [Fz f] : P (fCnt f fa) ρ = (P f ρ).bind fun d => pCnt d (fa (fz ρ)) := by
  rw [P, Pw_of (fCnt_fz ρ), Option.map_map]
  cases (P f ρ).bind fun d => pCnt d (fa (fz ρ)) <;> rfl
instance {f : FE} {fa : En → Option D} [Fz f] : Shy (fCnt f fa) := ⟨fun {ρ w} h => by
  rw [Pw_of (fCnt_fz ρ), Option.map_eq_some_iff] at h
  obtain ⟨d, _, rfl⟩ := h
  exact ⟨d, rfl⟩⟩
end Pu
namespace Pu
variable [TabN]
open PySem PySem.Spec PyProof.Rows L2
section
variable {prog : Program} {w : World} {A : Around} {E : Value → Shared → Prop} {s : Shared}
end
section
variable {X : Cx}
end
def oMin2B (a b : D) : Option Bool := match D.pys [a, b] with
  | some [p, q] => if alikeB [p, q] && [p, q].all notNone && decide (PyData.depthAll [p, q] ≤ 60) then some (PySem.W.dataLt q p) else none
  | _ => none
def gMin2X : En → List R → Option (En × R)
  | en, [.val w1, .val w2] => match oMin2B w1.d w2.d with
    | some true => some (en, .val w2)
    | some false => some (en, .val w1)
    | none => none
  | _, _ => none
section
variable {X : Cx} {a b : Expr} {fa fb : FE} {p pos : Pos}
end
def pMin2X : List D → Option D
  | [a, b] => (oMin2B a b).map fun k => if k = true then b else a
  | _ => none
instance : OpP gMin2X pMin2X := ⟨fun en ws => by
  match ws with
  | [] => exact ⟨none, rfl, rfl⟩
  | [_] => exact ⟨none, rfl, rfl⟩
  | _ :: _ :: _ :: _ => exact ⟨none, rfl, rfl⟩
  | [a, b] =>
    simp only [List.map_cons, List.map_nil, gMin2X, pMin2X, W.ds]
    rcases oMin2B a.d b.d with _ | _ | _
    · exact ⟨none, rfl, rfl⟩
    · exact ⟨some a, rfl, rfl⟩
    · exact ⟨some b, rfl, rfl⟩⟩
end Pu
namespace Pu
variable [TabN]
open PySem PySem.Spec PyProof.Rows L2
section
variable {X : Cx} {fix : List Nat} {o : Expr} {f c : Str} {i k : Nat} {pos : Pos}
end
end Pu
namespace Pu
variable [TabN]
open PySem PySem.Spec PyProof.Rows L2
section
variable {X : Cx} {pins : List (Addr × Obj)} {σ : L2.St} {H : Hp} {s : Shared} {A : Around} {a b : Addr}
end
section
variable {X : Cx} {o i : Expr} {td ty : TE} {pos : Pos}
end
def gDGetE : En → List R → Option (En × R)
  | en, [r1, r2] => match r1.dT en, r2.d en with
    | some (ks, ds), some d => match d.tkeyE with
      | some k => match lookD ks ds k with
        | some x => some (en, .val (.sh x))
        | none => none
      | none => none
    | _, _ => none
  | _, _ => none
section
variable {X : Cx} {o i : Expr} {fo fi : FE} {pos : Pos}
end
def pDGetE : List D → Option D
  | [a, b] => a.dTq.bind fun x => b.tkeyE.bind fun k => lookD x.1 x.2 k
  | _ => none
instance : OpP gDGetE pDGetE := OpP.of2 (fun en rs h => by
    match rs, h with
    | [], _ => rfl
    | [_], _ => rfl
    | [a, b], h => exact absurd rfl (h a b)
    | _ :: _ :: _ :: _, _ => rfl) (fun ds h => by
    match ds, h with
    | [], _ => rfl
    | [_], _ => rfl
    | [a, b], h => exact absurd rfl (h a b)
    | _ :: _ :: _ :: _, _ => rfl) fun en a b => by
  simp only [gDGetE, dT_val, R.d, pDGetE]
  cases h1 : a.d.dTq with
  | none => exact ⟨none, rfl, rfl⟩
  | some x =>
    obtain ⟨ks, ds⟩ := x
    simp only [Option.bind_some]
    cases h2 : b.d.tkeyE with
    | none => exact ⟨none, rfl, rfl⟩
    | some k =>
      simp only [Option.bind_some]
      cases h3 : lookD ks ds k with
      | none => exact ⟨none, rfl, rfl⟩
      | some x => exact ⟨some (.sh x), rfl, rfl⟩
section
variable {X : Cx} {pos p1 p2 : Pos} {n : Int}
end
section
variable {X : Cx} {o i value : Expr} {td ty tv : TE} {pos pos' : Pos}
end
section
variable {K : PySem.W.Frag} {mg : Str → Option Value}
end
section
variable {X : Cx} {fix : List Nat} {o ix value : Expr} {fo fe : FE} {fk : En → Option D} {pos pos' : Pos}
end
end Pu
namespace Pu
variable [TabN]
open PySem PySem.Spec PyProof.Rows L2
end Pu
namespace Pu
variable [TabN]
open PySem PySem.Spec PyProof.Rows L2
section
variable {prog : Program} {w : World} {A : Around} {s : Shared}
end
end Pu
namespace Pu
variable [TabN]
open PySem PySem.Spec PyProof.Rows L2
/-- what making a lambda does to the abstract heap -/
def LamH (H : Hp) (P : Addr) (ps : Array Value) (pos : Pos) (q : Str) (c' : Addr) (H1 : Hp) : Prop :=
  (H1 = H ∧ H c' = some (LamX.CodeO c' q)) ∨ (H c' = none ∧ H1 = upd (upd H P (.tbl (ps ++ #[rawInt pos.line, rawInt pos.col, .ref c']))) c' (LamX.CodeO c' q))
section
variable {X : Cx} {pins : List (Addr × Obj)} {σ : L2.St} {H : Hp} {s : Shared}
end
end Pu
namespace Pu
variable [TabN]
open PySem PySem.Spec PyProof.Rows L2
theorem LamH.ns {H H1 : Hp} {P : Addr} {ps : Array Value} {pos : Pos} {q : Str} {c' : Addr} (h : LamH H P ps pos q c' H1) (hP : H P = some (.tbl ps)) : NS H H1 := fun b o e n => by
  rcases h with ⟨rfl, _⟩ | ⟨nc, rfl⟩
  · exact e
  · rw [upd_ne (ne_of_none e nc), upd_ne (fun z => n ps (Option.some.inj (e.symm.trans (by rw [z]; exact hP))))]
    exact e
theorem LamH.code {H H1 : Hp} {P : Addr} {ps : Array Value} {pos : Pos} {q : Str} {c' : Addr} (h : LamH H P ps pos q c' H1) : H1 c' = some (LamX.CodeO c' q) := by
  rcases h with ⟨rfl, z⟩ | ⟨nc, rfl⟩
  · exact z
  · exact upd_same
/-- the items are pairs of whole numbers -/
def PairsV (K : PySem.W.Frag) (H : Hp) : List V → List (Int × Int) → Prop
  | [], [] => True
  | x :: xs, p :: ps => (∃ t, x = .ref t ∧ SqT K H t [.int p.1, .int p.2]) ∧ PairsV K H xs ps
  | _, _ => False
def dLe (p q : Int × Int) : Bool := decide (p.1 - p.2 ≤ q.1 - q.2)
section
variable {X : Cx} {pins : List (Addr × Obj)} {σ : L2.St} {H : Hp} {s : Shared}
theorem PairsV.ns {K : PySem.W.Frag} {H H' : Hp} (e : NS H H') : ∀ {xs : List V} {ds : List (Int × Int)}, PairsV K H xs ds → PairsV K H' xs ds
  | [], [], _ => trivial
  | _ :: _, _ :: _, h => ⟨let ⟨t, a, b⟩ := h.1; ⟨t, a, e.seqT b⟩, PairsV.ns e h.2⟩
  | [], _ :: _, h => by simp only [PairsV] at h
  | _ :: _, [], h => by simp only [PairsV] at h
end
section
variable {X : Cx}
end
end Pu
namespace Pu
variable [TabN]
open PySem PySem.Spec PyProof.Rows L2
def dPr : D → Int × Int
  | .tup [.int a, .int b] => (a, b)
  | _ => (0, 0)
def isPr : D → Bool
  | .tup [.int _, .int _] => true
  | _ => false
def dLeD (d e : D) : Bool := dLe (dPr d) (dPr e)
def oSortD (ds : List D) : Option (List D) := if ds.all isPr = true ∧ ds.length ≤ sizeLine then some (srt dLeD ds) else none
def gSortD : En → R → Option (En × R) := fun en r => match r.els en with
  | some (en', k, ds) => if k = .t then none else (match oSortD ds with
    | some es => some (en', .val (.lst (es.map W.sh)))
    | none => none)
  | none => none
def fSortD (f : FE) : FE := fU gSortD f
section
variable {K : PySem.W.Frag} {mg : Str → Option Value}
end
section
variable {X : Cx}
end
section
variable {P : Program} {w : World} {K : PySem.W.Frag} {mg : Str → Option Value} {base : Heap}
end
def pSortD : D → Option D := pIts fun k ds => if k = .t then none else (oSortD ds).map .lst
instance : OpU1 gSortD pSortD := OpU1.els (fun k ds => if k = .t then none else (oSortD ds).map fun es => .lst (es.map W.sh)) (fun en r => by
    unfold gSortD
    rcases R.els en r with _ | ⟨en', k, ds⟩
    · rfl
    · simp only
      split
      · rfl
      · cases oSortD ds <;> rfl) fun d => by
  unfold pSortD pIts
  rcases d.its with _ | ⟨k, ds⟩
  · rfl
  · simp only
    split
    · rfl
    · cases oSortD ds <;> simp [W.d, sh_ds]
instance : OwU gSortD := OwU.els (fun k ds => if k = .t then none else (oSortD ds).map fun es => .lst (es.map W.sh)) (fun en r => by
    unfold gSortD
    rcases R.els en r with _ | ⟨en', k, ds⟩
    · rfl
    · simp only
      split
      · rfl
      · cases oSortD ds <;> rfl) fun k ds w es h e => by
  split at h
  · cases h
  · cases ho : oSortD ds with
    | none => rw [ho] at h; cases h
    | some xs => rw [ho] at h; exact own_row h e
section
variable {f : FE} {ρ : List D} [Fz f]
instance : Fz (fSortD f) := inferInstanceAs (Fz (fU gSortD f))
instance : Ow 1 (fSortD f) := inferInstanceAs (Ow 1 (fU gSortD f))
theorem P_fSortD : P (fSortD f) ρ = (P f ρ).bind pSortD := P_fU
end
/-- no tables: for plain laws -/
@[reducible] def noTab : TabN := ⟨[]⟩
end Pu
namespace Pu
variable [TabN]
open PySem PySem.Spec PyProof.Rows L2
section
variable {prog : Program} {w : World} {A : Around} {E : Value → Shared → Prop} {s : Shared}
end
section
variable {X : Cx} {o : Expr} {to : TE} {pos p2 : Pos}
end
section
variable {X : Cx} {fix : List Nat} {o : Expr} {fo : FE} {pos p2 : Pos}
end
end Pu
namespace Pu
variable [TabN]
open PySem PySem.Spec PyProof.Rows L2
section
variable {K : PySem.W.Frag} {mg : Str → Option Value} {F H : Hp}
end
section
variable {X : Cx} {fix keep ks : List Nat} {iter : Expr} {body : List Stmt} {ps : En → Option (List (Nat × Nat))} {fb : FS} {pos p : Pos} {it : Nat} {x : Str}
end
end Pu
namespace Pu
variable [TabN]
open PySem PySem.Spec PyProof.Rows L2
section
variable {K : PySem.W.Frag} {mg : Str → Option Value} {F H : Hp}
end
section
variable {X : Cx} {tg e a : Expr} {es : List Expr} {i : Nat} {q : Nat × Nat} {qs : List (Nat × Nat)} {pos p2 cp : Pos}
end
end Pu
namespace Pu
variable [TabN]
open PySem PySem.Spec PyProof.Rows L2
section
variable {X : Cx} {fix : List Nat} {e : Expr} {st : Stmt} {rest : List Stmt} {f g : FS} {pos : Pos}
end
section
variable {P : Program} {w : World} {K : PySem.W.Frag} {mg : Str → Option Value} {base : Heap}
end
section
variable {X : Cx} {k : Nat} {f : Addr} {fd : FuncData} {ps : List Str} {x : Str} {p pos : Pos} {e : Expr} {es : List Expr} {fs : List FE} {g : PF}
end
def R.slot : R → Option Nat
  | .pl i [] => some i
  | _ => none
def back (prs : List (Nat × Nat)) : List (Nat × Nat) := prs.map fun q => (q.2, q.1)
section
variable {K : PySem.W.Frag} {mg : Str → Option Value} {F H : Hp}
end
section
variable {X : Cx} {fix fix' : List Nat} {s0 : Stmt} {rest : List Stmt} {fs : List FE} {prs : List (Nat × Nat)} {fr : FS}
end
end Pu
namespace Pu
variable [TabN]
open PySem PySem.Spec PyProof.Rows L2
def tDictZip (K : PySem.W.Frag) (ta : TA) : TE := fun σ H Q => ta σ H fun vs H1 => ∃ (a b : Addr) (ks : List Key) (ys : List V), vs = [.ref a, .ref b] ∧ SqL K H1 a (ks.map kV) ∧ SqL K H1 b ys ∧ ks.length = ys.length ∧ ∀ p, H1 p = none → Q (.ref p) (upd H1 p (.dK (mergeK [] (ks.zip ys))))
theorem kv_zip {P : Program} {w : World} : ∀ {ks : List Key} {ys : List V} {us vs : List Value}, Vals (ks.map kV) us → Vals ys vs → ks.length = ys.length → KV (ks.zip ys) (ks.zip vs) ∧ (∀ (i : Nat) (k v : Value), us[i]? = some k → vs[i]? = some v → ∃ k', (ks.zip vs)[i]? = some (k', v) ∧ (mixKind P w).is k' k = true)
  | [], ys, us, vs, h1, h2, hl => by
    cases ys with
    | nil =>
      cases h1
      exact ⟨.nil, fun i k v e => by simp at e⟩
    | cons y ys => simp at hl
  | k :: ks, [], us, vs, h1, h2, hl => by simp at hl
  | k :: ks, y :: ys, us, vs, h1, h2, hl => by
    rw [List.map_cons] at h1
    cases h1 with
    | cons r1 t1 =>
      cases h2 with
      | cons r2 t2 =>
        obtain ⟨a, b⟩ := kv_zip (P := P) (w := w) t1 t2 (by simpa using hl)
        refine ⟨.cons ⟨rfl, r2⟩ a, fun i k' v e1 e2 => ?_⟩
        cases i with
        | zero =>
          simp only [List.getElem?_cons_zero, Option.some.injEq] at e1 e2
          subst e1 e2
          exact ⟨k, rfl, kV_is r1⟩
        | succ i =>
          simp only [List.getElem?_cons_succ] at e1 e2
          exact b i k' v e1 e2
theorem pe_dictZip {X : Cx} {e e2 : Expr} {ta : TA} {p p2 pos q : Pos} (hc : X.calm = true) (hg : Gl X "dict") (hm : X.mg "dict" = none) (hg2 : Gl X "zip") (hm2 : X.mg "zip" = none) (ha : PA X [e, e2] ta)
    (hs : starEach [e, e2] X.env = (false, eval e X.env) :: starEach [e2] X.env := by rfl) (hpl : (backTo q (starEach [e2] X.env)).any (·.1) = false := by rfl)
    (hs2 : starEach [.Call (.Name "zip" p2) [e, e2] [] q] X.env = (false, eval (.Call (.Name "zip" p2) [e, e2] [] q) X.env) :: starEach [] X.env := by rfl) :
    PE X (.Call (.Name "dict" p) [.Call (.Name "zip" p2) [e, e2] [] q] [] pos) (tDictZip X.K ta) := by
  refine ⟨fun pins s σ H Q I h => ?_⟩
  refine wpAny_Call_Name_kw (ld_blt I hg hm (by first | rfl | decide +kernel) ?_ (by decide) (by decide))
  refine PyProof.Rows.callWith_type1 ?_ hs2 rfl
  rw [hs2]
  show wpAny _ _ (spliced ((false, eval (.Call (.Name "zip" p2) [e, e2] [] q) X.env) :: backTo pos (starEach [] X.env))) _ _ s
  refine Calls.spliced_cons ?_
  refine wpAny_Call_Name_kw (ld_blt I hg2 hm2 PyProof.Rows.boot_zip ?_ (by decide) (by decide))
  refine PyProof.Rows.callWith_type1 (thn (ha.run q pins s σ H _ I h) fun us s1 ⟨vs, H1, I1, r1, q1⟩ => ?_) hs hpl
  obtain ⟨a, b, ks, ys, ex, hqx, hqy, hl, qq⟩ := q1
  subst ex
  cases r1 with
  | cons r rr =>
    cases rr with
    | cons r' rr =>
      cases rr
      cases r
      cases r'
      obtain ⟨its, rv, p1, z1⟩ := I1.list hqx
      obtain ⟨its2, rv2, p2', z2⟩ := I1.list hqy
      have l1 : ks.length = its.length := by
        have := rv.length
        rwa [List.length_map] at this
      have l2 : ys.length = its2.length := rv2.length
      rw [List.length_map] at z1
      obtain ⟨kv, rel⟩ := kv_zip (P := X.prog) (w := X.w) rv rv2 hl
      refine PySem.call_zip_2 p1.isList p2'.isList fun h' hz hTI hTO h1 h2 hsz hk => ?_
      refine Calls.spliced_nil ?_
      have D := PySem.W.ktu_apart s1.heap.objs.size a b p1.lt p2'.lt
      have lenP : (ks.zip its2).length = min its.toArray.size its2.toArray.size := by
        have e1 : its.toArray.size = its.length := List.size_toArray ..
        have e2 : its2.toArray.size = its2.length := List.size_toArray ..
        rw [List.length_zip, e1, e2]
        omega
      refine call_dict_pairs (knd := mixKind X.prog X.w) (kvs := ks.zip its2) (PairArg.zip _ _ _ _ _ _ _ D its.toArray its2.toArray) (I.ok.hd hc) ⟨hz, hTI, ⟨_, _, hTO⟩, h1, h2, p1.isList.at fun o z => hk _ _ z, p2'.isList.at fun o z => hk _ _ z⟩ ⟨lenP, fun i k v ⟨e1, e2⟩ => rel i k v (by simpa using e1) (by simpa using e2)⟩ (by rw [List.size_toArray, List.size_toArray]; omega) fun h'' tk hd'' k'' => ?_
      have keep : ∀ b o, s1.heap.get? b = some o → h''.get? b = some o := fun b o z => by
        have lt := Heap.lt_size z
        refine k'' b o (fun hb => ?_) (hk _ _ z)
        simp only [List.mem_cons, List.not_mem_nil, or_false] at hb
        rcases hb with z | z | z | z
        all_goals
          rw [z] at lt
          first
            | exact absurd lt (Nat.not_lt.mpr (Nat.le_add_right _ _))
            | exact absurd lt (Nat.lt_irrefl _)
      have hp : s1.heap.objs.size ≤ h'.objs.size := by omega
      have big := I1.big
      have hm' : (h'.objs.size == sysModules) = false := beq_eq_false_iff_ne.mpr (Nat.ne_of_gt (Nat.lt_of_lt_of_le big hp))
      have hlen : (mergeK [] (ks.zip ys)).length ≤ sizeLine := by
        refine Nat.le_trans (length_mergeK _ []) ?_
        rw [List.length_nil, Nat.zero_add, List.length_zip]
        omega
      refine ⟨.ref h'.objs.size, upd H1 h'.objs.size (.dK (mergeK [] (ks.zip ys))), I1.laid (t' := tk) keep hp (show ObjOk X.prog X.w _ _ _ (.dK (mergeK [] (ks.zip ys))) from ⟨hlen, hm', merged [] (ks.zip its2), KV.merge kv .nil, hd''⟩), rfl, qq _ (I1.hok.fresh hp)⟩

theorem putK_new {kvs : List (Key × V)} {k : Key} {y : V} (h : k ∉ kvs.map (·.1)) : putK kvs k y = kvs ++ [(k, y)] := by
  unfold putK
  have : (kvs.any fun kv => decide (kv.1 = k)) = false := by
    rw [List.any_eq_false]
    intro p hp z
    exact h (List.mem_map.mpr ⟨p, hp, of_decide_eq_true z⟩)
  rw [this]
  rfl
theorem mergeK_new : ∀ (more acc : List (Key × V)), ((acc ++ more).map (·.1)).Nodup → mergeK acc more = acc ++ more
  | [], acc, _ => by simp [mergeK]
  | (k, y) :: more, acc, h => by
    have hk : k ∉ acc.map (·.1) := fun z => by
      rw [List.map_append, List.map_cons] at h
      exact (List.nodup_append.mp h).2.2 k z k (by simp) rfl
    have := mergeK_new more (acc ++ [(k, y)]) (by simpa using h)
    show mergeK (putK acc k y) more = _
    rw [putK_new hk, this, List.append_assoc, List.singleton_append]
/-- dict(zip(a, b)): texts or numbers to texts or numbers, no key twice -/
def pDictZip : List D → Option D
  | [.lst d1, .lst d2] => match dkeys d1, dkeys d2 with
    | some ks, some ys => if ks.length = ys.length ∧ ks.Nodup then some (.dK ks d2) else none
    | _, _ => none
  | _ => none
def gDictZip : En → List R → Option (En × R) := fun en rs => match rs with
  | [r1, r2] => match r1.d en, r2.d en with
    | some a, some b => (pDictZip [a, b]).map fun d => (en, .val (.sh d))
    | _, _ => none
  | _ => none
def fDictZip (f g : FE) : FE := fN gDictZip [f, g]
section
variable {X : Cx} {e e2 : Expr} {f g : FE} {p p2 pos q : Pos}
theorem se_dictZip (hc : X.calm = true) (hm : X.mg "dict" = none) (hm2 : X.mg "zip" = none) (h1 : SE X e f) (h2 : SE X e2 g) (hg : Gl X "dict" := by rfl) (hg2 : Gl X "zip" := by rfl)
    (na : starEach [e, e2] X.env = (false, eval e X.env) :: starEach [e2] X.env := by rfl) (nb : starEach [e2] X.env = (false, eval e2 X.env) :: starEach [] X.env := by rfl) (hpl : (backTo q (starEach [e2] X.env)).any (·.1) = false := by rfl)
    (hs2 : starEach [.Call (.Name "zip" p2) [e, e2] [] q] X.env = (false, eval (.Call (.Name "zip" p2) [e, e2] [] q) X.env) :: starEach [] X.env := by rfl) :
    SE X (.Call (.Name "dict" p) [.Call (.Name "zip" p2) [e, e2] [] q] [] pos) (fDictZip f g) :=
  pe_imp (pe_dictZip hc hg hm hg2 hm2 (sa_cons h1 (sa_cons h2 sa_nil nb) na) na hpl hs2) fun σ H Q z => by
    obtain ⟨F, en, L, en', r, st, e, k⟩ := z
    unfold fDictZip fN at e
    split at e
    · cases e
    · rename_i en1 rs e1
      unfold gDictZip at e
      split at e
      · rename_i r1 r2
        split at e
        · rename_i x1 x2 ed1 ed2
          rw [Option.map_eq_some_iff] at e
          obtain ⟨dd, ep, ee⟩ := e
          cases ee
          unfold pDictZip at ep
          split at ep
          · rename_i d1 d2 hdd
            cases hdd
            split at ep
            · rename_i ks ys ek ey
              split at ep
              · rename_i hh
                obtain ⟨hl, hn⟩ := hh
                cases ep
                refine ⟨F, en, L, _, [r1, r2], st, e1, fun vs F1 H1 L1 Lr1 st1 rr1 nd1 x1 => ?_⟩
                obtain ⟨v1, v2, A, B, rfl, rfl, g1, g2⟩ := rrs2 rr1
                have q1 := g1.peek st1 ed1
                have q2 := g2.peek st1 ed2
                simp only [Rep] at q1 q2
                obtain ⟨a, us, rfl, ha, ra⟩ := q1
                obtain ⟨b, ws, rfl, hb, rb⟩ := q2
                rw [dkeys_map ek] at ra
                have rb' := rb
                rw [dkeys_map ey] at rb'
                have e1' := reps_kV ra
                have e2' := reps_kV rb'
                subst e1' e2'
                have mk : mergeK [] (ks.zip (ys.map kV)) = ks.zip (ys.map kV) := by
                  have fs : (ks.zip (ys.map kV)).map (·.1) = ks := by
                    rw [List.map_fst_zip]
                    rw [List.length_map]
                    omega
                  have := mergeK_new (ks.zip (ys.map kV)) [] (by rw [List.nil_append, fs]; exact hn)
                  rwa [List.nil_append] at this
                refine ⟨a, b, ks, ys.map kV, rfl, SqL.of ha, SqL.of hb, by rw [List.length_map]; exact hl, fun p hp => ?_⟩
                rw [mk]
                obtain ⟨z1, z2⟩ := lay_frozen (o := .dK (ks.zip (ys.map kV))) st1 hp
                refine k (.ref p) _ _ L1 [] z1 ?_ (by simpa using z1.nd) ?_
                · simp only [RR]
                  refine own_sh ?_
                  simp only [Rep]
                  refine ⟨p, ks.zip (ys.map kV), rfl, upd_same, ?_, ?_⟩
                  · rw [List.map_fst_zip]
                    rw [List.length_map]
                    omega
                  · rw [List.map_snd_zip (by rw [List.length_map]; omega), dkeys_map ey]
                    exact reps_keyD ys
                · have x3 := x1.trans (z2.frame (A ++ B))
                  refine x3.mem (fun a h => h) fun a h => ?_
                  have h' : a ∈ L1 := by simpa using h
                  simp [h']
              · cases ep
            · cases ep
          · cases ep
        · cases e
      · cases e
end
instance : OpP gDictZip pDictZip := ⟨fun en ws => by
  match ws with
  | [w1, w2] =>
    refine ⟨(pDictZip [w1.d, w2.d]).map W.sh, ?_, ?_⟩
    · show (pDictZip [w1.d, w2.d]).map (fun d => (en, R.val (.sh d))) = _
      rw [Option.map_map]
      rfl
    · show _ = pDictZip [w1.d, w2.d]
      rw [Option.map_map]
      cases pDictZip [w1.d, w2.d] <;> rfl
  | [] => exact ⟨none, rfl, rfl⟩
  | [w] => exact ⟨none, rfl, by simp [pDictZip, W.ds]⟩
  | a :: b :: c :: r => exact ⟨none, rfl, by simp [pDictZip, W.ds]⟩⟩
section
variable {f g : FE} {ρ : List D} [Fz f] [Fz g]
instance : Fz (fDictZip f g) := inferInstanceAs (Fz (fN gDictZip [f, g]))
theorem P_fDictZip : P (fDictZip f g) ρ = (P f ρ).bind fun x => (P g ρ).bind fun y => pDictZip [x, y] := P_two
end
end Pu
namespace Pu
open PySem
def l_law_cells_1 : FS := (sSeq (sAsg (fMod (fInt (fVar 3)) (fVar 1)) (gN 5))
  (sAsg (fAdd (fIx (fVar 2) (fVar 5)) (fMul (fVar 4) (fAdd (fVar 3) (fC (.int 2))))) (gSetI (fVar 2) (fVar 5))))
def b_law_cells : FS := (sSeq (sAsg (fOrV (fList (fN gSlHi [(fVar 0), (fVar 1)])) (fLst [(fC (.int 0))])) (gN 2))
  (sSeq (sFor (iEnumA (fSl2 (fVar 0) (fVar 1) (fC (.int 63)))) (gTupT 2 (gsCons (gN 3) (gsCons (gN 4) gsNil))) l_law_cells_1)
  (sRet [0, 1] (fVar 2))))
def m_law_cells : PF := fnP 6 2 [0, 1] b_law_cells
def b_law_box : FS := (sSeq (sAsg (fIf (fTb (fN gLt [(fVar 1), (fLen (fVar 0))])) (fIx (fVar 0) (fVar 1)) (fC (.int 0))) (gN 2))
  (sRet [0, 1] (fLst [(fMul (fAbs (fVar 2)) (fInt (fN (gS oGeI) [(fAbs (fVar 2)), (fPow (fC (.int 10)) (fC (.int 18)))]))), (fAdd (fAdd (fMod (fInt (fVar 2)) (fC (.int 2305843009213693951))) (fMul (fC (.int 39373)) (fVar 1))) (fC (.int 518))), (fC (.int 0))])))
def m_law_box : PF := fnP 3 2 [0, 1] b_law_box
def b_law_take : FS := (sSeq (sIf (fTb (fN (gS oGtI) [(fIx (fVar 0) (fC (.int 0))), (fC (.int 0))])) (sSeq (sAsg (fMod (fInt (fIx (fVar 0) (fC (.int 0)))) (fVar 1)) (gN 5))
  (sSeq (sAsg (fDiv (fIx (fVar 0) (fC (.int 0))) (fVar 1)) (gSetI (fVar 0) (fC (.int 0))))
  (sRet [0, 1] (fVar 5)))) sNil)
  (sSeq (sAsg (fAdd (fIx (fVar 0) (fC (.int 2))) (fC (.int 1))) (gSetI (fVar 0) (fC (.int 2))))
  (sSeq (sAsg (fMod (fInt (fMul (fAdd (fIx (fVar 0) (fC (.int 1))) (fMul (fC (.int 48271)) (fIx (fVar 0) (fC (.int 2))))) (fAdd (fC (.int 39373)) (fIx (fVar 0) (fC (.int 2)))))) (fC (.int 2147483647))) (gN 2))
  (sSeq (sAsg (fAdd (fMod (fInt (fVar 2)) (fC (.int 40009))) (fC (.int 7))) (gN 3))
  (sSeq (sAsg (fMod (fInt (fMul (fAdd (fAdd (fVar 2) (fIx (fVar 0) (fC (.int 2)))) (fDiv (fIx (fVar 0) (fC (.int 1))) (fC (.int 1000003)))) (fVar 3))) (fC (.int 2147483629))) (gN 4))
  (sRet [0, 1] (fMod (fInt (fDiv (fMod (fInt (fAdd (fMul (fVar 4) (fC (.int 48271))) (fVar 2))) (fC (.int 2147483587))) (fC (.int 64)))) (fVar 1))))))))
def m_law_take : PF := fnP 6 2 [0, 1] b_law_take
def l_law_words_1 : FS := (sExpr (fMutN 4 mApp (fMutN 3 mPopAt (fCall m_law_take [(fVar 0), (fLen (fVar 3))]))))
def b_law_words : FS := (sSeq (sPar (gsCons (gN 3) (gsCons (gN 4) gsNil)) [(fLst [(fC (.str "a")), (fC (.str "ab")), (fC (.str "b")), (fC (.str "c")), (fC (.str "cc")), (fC (.str "d")), (fC (.str "e")), (fC (.str "f")), (fC (.str "g")), (fC (.str "key")), (fC (.str "m")), (fC (.str "n")), (fC (.str "x")), (fC (.str "y")), (fC (.str "z")), (fC (.str "zzzzzzzz"))]), (fLst [])])
  (sSeq (sFor (iRange1 (fVar 1)) (gN 2) l_law_words_1)
  (sRet [0, 1] (fVar 4))))
def m_law_words : PF := fnP 5 2 [0, 1] b_law_words
def b_law_shape (self : PF) : FS := (sSeq (sIf (fTb (fN (gS oEq) [(fLen (fVar 1)), (fC (.int 1))])) (sRet [0, 1] (fIx (fVar 1) (fC (.int 0)))) sNil)
  (sSeq (sAsg (fAdd (fC (.int 1)) (fCall m_law_take [(fVar 0), (fSub (fLen (fVar 1)) (fC (.int 1)))])) (gN 2))
  (sSeq (sAsg (fCall self [(fVar 0), (fN gSlHi [(fVar 1), (fVar 2)])]) (gN 3))
  (sRet [0, 1] (fTup [(fVar 3), (fCall self [(fVar 0), (fN gSlLo [(fVar 1), (fVar 2)])])])))))
def m_law_shape : Nat → PF
  | 0 => fun _ => none
  | n + 1 => fnP 4 2 [0, 1] (b_law_shape (m_law_shape n))
def b_law_renamed (self : PF) : FS := (sSeq (sIf (fPureT (fTr (fIsi ["str"] (fVar 0)))) (sRet [0, 1] (fPure (fN gQGet [(fVar 1), (fVar 0)]))) sNil)
  (sRet [0, 1] (fPure (fTup [(fCallP self [(fIx (fVar 0) (fC (.int 0))), (fVar 1)]), (fCallP self [(fIx (fVar 0) (fC (.int 1))), (fVar 1)])]))))
def m_law_renamed : Nat → PF
  | 0 => fun _ => none
  | n + 1 => fnP 2 2 [0, 1] (b_law_renamed (m_law_renamed n))
def b_Tree_boxes : FS := (sRet [0] (fTuple (fFld "Tree" 0 (fVar 0))))
def m_Tree_boxes : PF := fnP 1 1 [0] b_Tree_boxes
def b_Tree_grown (self : PF) : FS := (sSeq (sIf (fTr (fIsi ["str"] (fVar 1))) (sSeq (sAsg (fTup [(fLen (fFld "Tree" 0 (fVar 0))), (fAdd (fLen (fFld "Tree" 0 (fVar 0))) (fC (.int 1)))]) (gN 3))
  (sSeq (sExpr (fMutP mApp (fFld "Tree" 0 (fVar 0)) (qV 1)))
  (sSeq (sDPutP (fTup []) (fFld "Tree" 2 (fVar 0)) (qV 3))
  (sRet [0, 1] (fVar 3))))) sNil)
  (sSeq (sAsg (fTup [(fMeth "Tree" self (fVar 0) [(fIx (fVar 1) (fC (.int 0)))]), (fMeth "Tree" self (fVar 0) [(fIx (fVar 1) (fC (.int 1)))])]) (gN 2))
  (sSeq (sAsg (fTup [(fIx (fIx (fVar 2) (fC (.int 0))) (fC (.int 0))), (fIx (fIx (fVar 2) (fC (.int 1))) (fC (.int 1)))]) (gN 3))
  (sSeq (sDPutP (fVar 2) (fFld "Tree" 2 (fVar 0)) (qV 3))
  (sRet [0, 1] (fVar 3))))))
def m_Tree_grown : Nat → PF
  | 0 => fun _ => none
  | n + 1 => fnP 4 2 [0, 1] (b_Tree_grown (m_Tree_grown n))
def e_tupled_1 (self : PF) : FE := (fCallP self [(fVar 1)])
def b_tupled (self : PF) : FS := (sRet [0] (fIf (fTr (fIsi ["list", "tuple"] (fVar 0))) (fTuple (fComp [1] (iSeq (fVar 0)) (gN 1) tYesE (e_tupled_1 self))) (fVar 0)))
def m_tupled : Nat → PF
  | 0 => fun _ => none
  | n + 1 => fnP 2 1 [0] (b_tupled (m_tupled n))
def b_Tree_init : FS := (sSeq (sFld "Tree" 0 0 (fLst []))
  (sSeq (sFld "Tree" 0 2 fNewT)
  (sFld "Tree" 0 1 (fMeth "Tree" (m_Tree_grown 40) (fVar 0) [(fCallP (m_tupled 40) [(fVar 1)])]))))
def m_Tree_init : PF := fnP 2 2 [0, 1] b_Tree_init
def b_boxes_in : FS := (sRet [0] (fMethP "Tree" m_Tree_boxes (fMake "Tree" m_Tree_init [(fVar 0)]) []))
def m_boxes_in : PF := fnP 1 1 [0] b_boxes_in
def b_Tree_nodes : FS := (sRet [0] (fSortX (fFld "Tree" 2 (fVar 0))))
def m_Tree_nodes : PF := fnP 1 1 [0] b_Tree_nodes
def b_nodes_in : FS := (sRet [0] (fMethP "Tree" m_Tree_nodes (fMake "Tree" m_Tree_init [(fVar 0)]) []))
def m_nodes_in : PF := fnP 1 1 [0] b_nodes_in
def b_Tree_names : FS := (sRet [0, 1] (fTuple (fSortX (fSl2 (fFld "Tree" 0 (fVar 0)) (fIx (fVar 1) (fC (.int 0))) (fIx (fVar 1) (fC (.int 1)))))))
def m_Tree_names : PF := fnP 2 2 [0, 1] b_Tree_names
def b_boxes_of : FS := (sRet [0, 1] (fMethP "Tree" m_Tree_names (fMake "Tree" m_Tree_init [(fVar 0)]) [(fCallP (m_tupled 40) [(fVar 1)])]))
def m_boxes_of : PF := fnP 2 2 [0, 1] b_boxes_of
def b_Tree_sides : FS := (sRet [0, 1] (fN gDGet [(fFld "Tree" 2 (fVar 0)), (fVar 1)]))
def m_Tree_sides : PF := fnP 2 2 [0, 1] b_Tree_sides
def b_sides_of : FS := (sSeq (sAsg (fMethP "Tree" m_Tree_sides (fMake "Tree" m_Tree_init [(fVar 0)]) [(fCallP (m_tupled 40) [(fVar 1)])]) (gN 2))
  (sRet [0, 1] (fIf (fTb (fN (gS oGtI) [(fLen (fVar 2)), (fC (.int 0))])) (fVar 2) (fC .non))))
def m_sides_of : PF := fnP 3 2 [0, 1] b_sides_of
def t_Tree_way_1 : FT := (fPureT (fTb (fChain oLeI oLtI (fIx (fVar 5) (fC (.int 0))) (fVar 2) (fIx (fVar 5) (fC (.int 1))))))
def l_Tree_way_1 : FS := (sSeq (sExpr (fMutN 3 mApp (fIx (fComp [5] (iSeq (fVar 4)) (gN 5) t_Tree_way_1 (fVar 5)) (fC (.int 0)))))
  (sAsg (fN gDGet [(fFld "Tree" 2 (fVar 0)), (fIx (fVar 3) (fNeg (fC (.int 1))))]) (gN 4)))
def t_Tree_way_2 : FT := (fTb (fN (gS oGtI) [(fLen (fVar 4)), (fC (.int 0))]))
def b_Tree_way : FS := (sSeq (sIf (fTb (fN gNotIn [(fVar 1), (fFld "Tree" 0 (fVar 0))])) sNever sNil)
  (sSeq (sAsg (fIdx (fFld "Tree" 0 (fVar 0)) (qV 1)) (gN 2))
  (sSeq (sPar (gsCons (gN 3) (gsCons (gN 4) gsNil)) [(fLst []), (fTup [(fFld "Tree" 1 (fVar 0))])])
  (sSeq (whD t_Tree_way_2 l_Tree_way_1 400)
  (sRet [0, 1] (fVar 3))))))
def m_Tree_way : PF := fnP 6 2 [0, 1] b_Tree_way
def b_way_to : FS := (sRet [0, 1] (fMethP "Tree" m_Tree_way (fMake "Tree" m_Tree_init [(fVar 0)]) [(fVar 1)]))
def m_way_to : PF := fnP 2 2 [0, 1] b_way_to
def l_Tree_below_1 : FS := (sSeq (sAsg (fPop (fVar 3)) (gN 4))
  (sSeq (sExpr (fMutN 2 mApp (fVar 4)))
  (sExpr (fMutN 3 mExt2 (fN gDGet [(fFld "Tree" 2 (fVar 0)), (fVar 4)])))))
def t_Tree_below_1 : FT := (fTb (fN (gS oGtI) [(fLen (fVar 3)), (fC (.int 0))]))
def b_Tree_below : FS := (sSeq (sPar (gsCons (gN 2) (gsCons (gN 3) gsNil)) [(fLst []), (fLst [(fVar 1)])])
  (sSeq (whD t_Tree_below_1 l_Tree_below_1 400)
  (sRet [0, 1] (fSortX (fVar 2)))))
def m_Tree_below : PF := fnP 5 2 [0, 1] b_Tree_below
def b_nodes_below : FS := (sRet [0, 1] (fMethP "Tree" m_Tree_below (fMake "Tree" m_Tree_init [(fVar 0)]) [(fCallP (m_tupled 40) [(fVar 1)])]))
def m_nodes_below : PF := fnP 2 2 [0, 1] b_nodes_below
def b_law_shifted : FS := (sRet [0, 1] (fPure (fComp [2] (iSeq (fVar 0)) (gN 2) tYesE (fTup [(fAdd (fIx (fVar 2) (fC (.int 0))) (fVar 1)), (fAdd (fIx (fVar 2) (fC (.int 1))) (fVar 1))]))))
def m_law_shifted : PF := fnP 3 2 [0, 1] b_law_shifted
def l_law_joined_right_1 : FS := (sIf (fPureT (fTb (fN (gS oNe) [(fCallP m_way_to [(fVar 5), (fVar 3)]), (fAdd (fLst [(fTup [(fC (.int 0)), (fAdd (fVar 6) (fVar 7))])]) (fCallP m_law_shifted [(fCallP m_way_to [(fVar 1), (fVar 3)]), (fVar 6)]))]))) (sRet [0, 1] (fC (.bl false))) sNil)
def l_law_joined_right_2 : FS := (sIf (fPureT (fTb (fN (gS oNe) [(fCallP m_way_to [(fVar 5), (fVar 3)]), (fAdd (fLst [(fTup [(fC (.int 0)), (fAdd (fVar 6) (fVar 7))])]) (fCallP m_way_to [(fVar 0), (fVar 3)]))]))) (sRet [0, 1] (fC (.bl false))) sNil)
def l_law_joined_right_3 : FS := (sSeq (sAsg (fPure (fTup [(fAdd (fIx (fVar 4) (fC (.int 0))) (fVar 6)), (fAdd (fIx (fVar 4) (fC (.int 1))) (fVar 6))])) (gN 8))
  (sSeq (sIf (fPureT (fTb (fN (gS oNe) [(fCallP m_boxes_of [(fVar 5), (fVar 8)]), (fCallP m_boxes_of [(fVar 1), (fVar 4)])]))) (sRet [0, 1] (fC (.bl false))) sNil)
  (sIf (fPureT (fTb (fN (gS oNe) [(fCallP m_nodes_below [(fVar 5), (fVar 8)]), (fCallP m_law_shifted [(fCallP m_nodes_below [(fVar 1), (fVar 4)]), (fVar 6)])]))) (sRet [0, 1] (fC (.bl false))) sNil)))
def b_law_joined_right : FS := (sSeq (sPar (gsCons (gN 5) (gsCons (gN 6) (gsCons (gN 7) gsNil))) [(fTup [(fVar 0), (fVar 1)]), (fPure (fLen (fCallP m_boxes_in [(fVar 0)]))), (fPure (fLen (fCallP m_boxes_in [(fVar 1)])))])
  (sSeq (sIf (fPureT (fTb (fN (gS oNe) [(fCallP m_boxes_in [(fVar 5)]), (fAdd (fCallP m_boxes_in [(fVar 0)]) (fCallP m_boxes_in [(fVar 1)]))]))) (sRet [0, 1] (fC (.bl false))) sNil)
  (sSeq (sAsg (fPure (fSortX (fAdd (fAdd (fCallP m_nodes_in [(fVar 0)]) (fCallP m_law_shifted [(fCallP m_nodes_in [(fVar 1)]), (fVar 6)])) (fLst [(fTup [(fC (.int 0)), (fAdd (fVar 6) (fVar 7))])])))) (gN 2))
  (sSeq (sIf (fPureT (fOrT (fTb (fN (gS oNe) [(fCallP m_nodes_in [(fVar 5)]), (fVar 2)])) (fTb (fN (gS oNe) [(fCallP m_sides_of [(fVar 5), (fTup [(fC (.int 0)), (fAdd (fVar 6) (fVar 7))])]), (fTup [(fTup [(fC (.int 0)), (fVar 6)]), (fTup [(fVar 6), (fAdd (fVar 6) (fVar 7))])])])))) (sRet [0, 1] (fC (.bl false))) sNil)
  (sSeq (sFor (iSeq (fPure (fCallP m_boxes_in [(fVar 1)]))) (gN 3) l_law_joined_right_1)
  (sSeq (sFor (iSeq (fPure (fCallP m_boxes_in [(fVar 0)]))) (gN 3) l_law_joined_right_2)
  (sSeq (sFor (iSeq (fPure (fCallP m_nodes_in [(fVar 1)]))) (gN 4) l_law_joined_right_3)
  (sRet [0, 1] (fPure (fN (gS oEq) [(fCallP m_boxes_of [(fVar 5), (fTup [(fC (.int 0)), (fAdd (fVar 6) (fVar 7))])]), (fTuple (fSortX (fCallP m_boxes_in [(fVar 5)])))]))))))))))
def m_law_joined_right : PF := fnP 9 2 [0, 1] b_law_joined_right
def b_law_mirrored (self : PF) : FS := (sRet [0] (fIf (fPureT (fTr (fIsi ["str"] (fVar 0)))) (fVar 0) (fTup [(fCallP self [(fIx (fVar 0) (fC (.int 1)))]), (fCallP self [(fIx (fVar 0) (fC (.int 0)))])])))
def m_law_mirrored : Nat → PF
  | 0 => fun _ => none
  | n + 1 => fnP 1 1 [0] (b_law_mirrored (m_law_mirrored n))
def l_law_turned_right_1 : FS := (sSeq (sPar (gsCons (gN 5) (gsCons (gN 6) gsNil)) [(fPure (fTup [(fSub (fVar 3) (fIx (fVar 1) (fC (.int 1)))), (fSub (fVar 3) (fIx (fVar 1) (fC (.int 0))))])), (fPure (fCallP m_sides_of [(fVar 0), (fVar 1)]))])
  (sSeq (sIf (fPureT (fTb (fN (gS oNe) [(fCallP m_boxes_of [(fVar 2), (fVar 5)]), (fCallP m_boxes_of [(fVar 0), (fVar 1)])]))) (sRet [0] (fC (.bl false))) sNil)
  (sSeq (sAsg (fC .non) (gN 4))
  (sSeq (sIf (fPureT (fTb (fN (gS oNotN) [(fVar 6), (fC .non)]))) (sAsg (fPure (fTup [(fTup [(fSub (fVar 3) (fIx (fIx (fVar 6) (fC (.int 1))) (fC (.int 1)))), (fSub (fVar 3) (fIx (fIx (fVar 6) (fC (.int 1))) (fC (.int 0))))]), (fTup [(fSub (fVar 3) (fIx (fIx (fVar 6) (fC (.int 0))) (fC (.int 1)))), (fSub (fVar 3) (fIx (fIx (fVar 6) (fC (.int 0))) (fC (.int 0))))])])) (gN 4)) sNil)
  (sIf (fPureT (fTb (fN (gS oNe) [(fCallP m_sides_of [(fVar 2), (fVar 5)]), (fVar 4)]))) (sRet [0] (fC (.bl false))) sNil)))))
def b_law_turned_right : FS := (sSeq (sPar (gsCons (gN 2) (gsCons (gN 3) gsNil)) [(fPure (fCallP (m_law_mirrored 40) [(fVar 0)])), (fPure (fLen (fCallP m_boxes_in [(fVar 0)])))])
  (sSeq (sIf (fPureT (fTb (fN (gS oNe) [(fCallP m_boxes_in [(fVar 2)]), (fRevT (fCallP m_boxes_in [(fVar 0)]))]))) (sRet [0] (fC (.bl false))) sNil)
  (sSeq (sFor (iSeq (fPure (fCallP m_nodes_in [(fVar 0)]))) (gN 1) l_law_turned_right_1)
  (sRet [0] (fPure (fN (gS oEq) [(fLen (fCallP m_nodes_in [(fVar 2)])), (fLen (fCallP m_nodes_in [(fVar 0)]))]))))))
def m_law_turned_right : PF := fnP 7 1 [0] b_law_turned_right
def l_law_right_1 : FS := (sSeq (sAsg (fCall m_law_words [(fVar 0), (fAdd (fC (.int 2)) (fCall m_law_take [(fVar 0), (fC (.int 15))]))]) (gN 2))
  (sSeq (sAsg (fAdd (fC (.int 1)) (fCall m_law_take [(fVar 0), (fSub (fLen (fVar 2)) (fC (.int 1)))])) (gN 3))
  (sSeq (sPar (gsCons (gN 6) (gsCons (gN 7) gsNil)) [(fCall (m_law_shape 40) [(fVar 0), (fN gSlHi [(fVar 2), (fVar 3)])]), (fCall (m_law_shape 40) [(fVar 0), (fN gSlLo [(fVar 2), (fVar 3)])])])
  (sSeq (sIf (fPureT (fOrT (fNotT (fTr (fCallP m_law_joined_right [(fVar 6), (fVar 7)]))) (fNotT (fTr (fCallP m_law_turned_right [(fTup [(fVar 6), (fVar 7)])]))))) (sRet [0] (fC (.bl false))) sNil)
  (sSeq (sAsg (fCall m_law_words [(fVar 0), (fLen (fVar 2))]) (gN 4))
  (sSeq (sAsg (fDictZip (fVar 2) (fVar 4)) (gN 5))
  (sSeq (sPar (gsCons (gN 8) (gsCons (gN 9) gsNil)) [(fTup [(fVar 6), (fVar 7)]), (fPure (fCallP (m_law_renamed 40) [(fTup [(fVar 6), (fVar 7)]), (fVar 5)]))])
  (sSeq (sIf (fPureT (fOrT (fTb (fN (gS oNe) [(fCallP m_nodes_in [(fVar 9)]), (fCallP m_nodes_in [(fVar 8)])])) (fTb (fN (gS oNe) [(fCallP m_boxes_in [(fVar 9)]), (fTuple (fVar 4))])))) (sRet [0] (fC (.bl false))) sNil)
  (sIf (fPureT (fTb (fN (gS oNe) [(fComp [10] (iSeq (fVar 2)) (gN 10) tYesE (fCallP m_way_to [(fVar 9), (fN gQGet [(fVar 5), (fVar 10)])])), (fComp [10] (iSeq (fVar 2)) (gN 10) tYesE (fCallP m_way_to [(fVar 8), (fVar 10)]))]))) (sRet [0] (fC (.bl false))) sNil)))))))))
def b_law_right : FS := (sSeq (sFor (iRange1 (fC (.int 6))) (gN 1) l_law_right_1)
  (sRet [0] (fC (.bl true))))
def m_law_right : PF := fnP 11 1 [0] b_law_right
def e_law_1 : FE := (fCall m_law_right [(fVar 3)])
def l_law_1 : FS := (sSeq (sAsg (fCallP m_law_box [(fVar 1), (fVar 2)]) (gN 3))
  (sIf (fNotT (fTr (fAll (fComp [4] (iRange1 (fC (.int 1))) (gN 4) tYesE e_law_1)))) (sRet [0] (fC (.bl false))) sNil))
def b_law : FS := (sSeq (sAsg (fCallP m_law_cells [(fVar 0), (fC (.int 3))]) (gN 1))
  (sSeq (sFor (iRange1 (fLen (fVar 1))) (gN 2) l_law_1)
  (sRet [0] (fC (.bl true)))))
def m_law : PF := fnP 5 1 [0] b_law
end Pu
namespace Pu
open PySem L2
local instance noTab_a : TabN := noTab
theorem R_st_val {en : En} {w : W} : R.st en (.val w) = some (en, .val w) := rfl
theorem R_st_pl {en : En} {i : Nat} : R.st en (.pl i []) = some (en, .pl i []) := rfl
theorem R_st_plc {en : En} {i k : Nat} {p : List Nat} : R.st en (.pl i (k :: p)) = match en.get i (k :: p) with
    | some w => some (en.put i (k :: p) (.sh w.d), .val (.sh w.d))
    | none => none := rfl
theorem R_d_val {en : En} {w : W} : R.d en (.val w) = some w.d := rfl
theorem R_d_pl {en : En} {i : Nat} {p : List Nat} : R.d en (.pl i p) = match en.get i p with
    | some w => some w.d
    | none => none := rfl
def vW (en : En) (i : Nat) : Option W → Option (En × R)
  | some (.sh .any) => none
  | some (.sh d) => some (en, .val (.sh d))
  | some _ => some (en, .pl i [])
  | none => none
theorem fVar_eq (i : Nat) (en : En) : fVar i en = vW en i en[i]? := by
  unfold fVar vW
  cases en[i]? with
  | none => rfl
  | some w =>
    cases w with
    | sh d => cases d <;> rfl
    | _ => rfl
theorem vW_sh {en : En} {i : Nat} {d : D} (h : d ≠ .any) : vW en i (some (.sh d)) = some (en, .val (.sh d)) := by cases d <;> first | rfl | exact absurd rfl h
theorem vW_lst {en : En} {i : Nat} {ws : List W} : vW en i (some (.lst ws)) = some (en, .pl i []) := rfl
theorem vW_dT {en : En} {i : Nat} {ks : List (List Key)} {ds : List D} : vW en i (some (.dT ks ds)) = some (en, .pl i []) := rfl
theorem vW_ins {en : En} {i : Nat} {c : Str} {ws : List W} : vW en i (some (.ins c ws)) = some (en, .pl i []) := rfl
theorem ixN_lit0 {n : Nat} : ixN (n + 1) 0 = some 0 := by unfold ixN; simp; try omega
theorem ixN_lit1 {n : Nat} : ixN (n + 1 + 1) 1 = some 1 := by unfold ixN; simp; try omega
theorem ixN_lit2 {n : Nat} : ixN (n + 1 + 1 + 1) 2 = some 2 := by unfold ixN; simp; try omega
theorem size_ok {n : Nat} (h : n ≤ 1000000) : (n ≤ sizeLine) = True := eq_true (Nat.le_trans h (by decide))
theorem size_ok1 {n : Nat} (h : n < 1000000) : (n < sizeLine) = True := eq_true (Nat.lt_of_lt_of_le h (by decide))
theorem sSeq_nx {f g : FS} {en en1 : En} {r : Option (En × Fl)} (h : f en = some (en1, .nx)) (h2 : g en1 = r) : sSeq f g en = r := by simp only [sSeq, h, h2]
theorem fnP_ret {n np : Nat} {fix : List Nat} {b : FS} {ws : List W} {en' : En} {w : W} (hl : ws.length = np) (h : b (ws ++ List.replicate (n - np) (.sh .any)) = some (en', .ret w)) : fnP n np fix b ws = some (w, outs fix 0 np en') := by
  unfold fnP
  rw [if_pos hl, h]
theorem sFor_eq {fi : FI} {g : FG} {b : FS} {en en1 : En} {ds : List D} {r : Option (En × Fl)} (h : fi en = some (en1, ds)) (h2 : forD g b ds en1 = r) : sFor fi g b en = r := by simp only [sFor, h, h2]
def sW (xs : List Str) : List W := xs.map fun x => .sh (.str x)
def sD (xs : List Str) : List D := xs.map D.str
theorem sW_len (xs : List Str) : (sW xs).length = xs.length := by simp [sW]
theorem sD_len (xs : List Str) : (sD xs).length = xs.length := by simp [sD]
theorem sW_ds : ∀ xs : List Str, W.ds (sW xs) = sD xs
  | [] => rfl
  | x :: xs => by
    have := sW_ds xs
    simp only [sW, sD, List.map_cons, W.ds, W.d] at this ⊢
    rw [this]
theorem dsh_ds : ∀ xs : List D, W.ds (xs.map W.sh) = xs
  | [] => rfl
  | x :: xs => by
    have := dsh_ds xs
    simp only [List.map_cons, W.ds, W.d] at this ⊢
    rw [this]
theorem sD_sh (xs : List Str) : (sD xs).map W.sh = sW xs := by simp [sD, sW]
theorem sW_app (xs ys : List Str) : sW (xs ++ ys) = sW xs ++ sW ys := by simp [sW]
theorem sW_erase : ∀ (xs : List Str) (k : Nat), (sW xs).eraseIdx k = sW (xs.eraseIdx k)
  | [], k => by simp [sW]
  | x :: xs, 0 => by simp [sW]
  | x :: xs, k + 1 => by
    have := sW_erase xs k
    simp only [sW, List.map_cons, List.eraseIdx_cons_succ] at this ⊢
    rw [this]
theorem sW_get (xs : List Str) (k : Nat) (h : k < xs.length) : (sW xs)[k]? = some (.sh (.str xs[k])) := by simp [sW, h]
theorem size_le {n : Nat} (h : n ≤ 1000000) : n ≤ sizeLine := Nat.le_trans h (by decide)
theorem size_lt {n : Nat} (h : n < 1000000) : n < sizeLine := Nat.lt_of_lt_of_le h (by decide)
theorem seqIx {r : Int} {n : Nat} (h0 : 0 ≤ r) (h1 : r < n) : seqIndex? r n = some r.toNat := by
  unfold seqIndex?
  simp
  omega
theorem erase_perm {α : Type} : ∀ (l : List α) (k : Nat) (h : k < l.length), (l[k] :: l.eraseIdx k).Perm l
  | x :: l, 0, _ => by simp
  | x :: l, k + 1, h => by
    simp only [List.length_cons, Nat.add_lt_add_iff_right] at h
    simp only [List.getElem_cons_succ, List.eraseIdx_cons_succ]
    exact (List.Perm.swap _ _ _).trans ((erase_perm l k h).cons x)
theorem compD_map {vs : List Nat} {g : FG} {f : FE} {en : En} (o : D → W) : ∀ (ds : List D) (acc : List W), acc.length + ds.length ≤ 1000000 → okV en vs = true →
    (∀ d ∈ ds, ∃ en1 en3 r en4, g (wipeE en vs) (.sh d) = some en1 ∧ en1.length = en.length ∧ f en1 = some (en3, r) ∧ r.tk en3 = some (en4, o d) ∧ en4.length = en.length ∧ restE en4 en vs = en) →
    compD vs g tYesE f ds en acc = some (en, acc ++ ds.map o)
  | [], acc, _, _, _ => by simp [compD]
  | d :: ds, acc, hl, hk, h => by
    obtain ⟨en1, en3, r, en4, h1, h2, h3, h4, h5, h6⟩ := h d (by simp)
    simp only [List.length_cons] at hl
    have ih := compD_map o ds (acc ++ [o d]) (by simp; omega) hk fun x hx => h x (by simp [hx])
    have hs : acc.length < sizeLine := size_lt (by omega)
    simp [compD, hk, h1, h2, tYesE, h3, h4, h5, h6, hs, ih]
theorem isi1 : isiB "tuple" ["list", "tuple"] = some true := by decide +kernel
theorem isi2 : isiB "list" ["list", "tuple"] = some true := by decide +kernel
theorem isi3 : isiB "str" ["list", "tuple"] = some false := by decide +kernel
theorem isi4 : isiB "int" ["list", "tuple"] = some false := by decide +kernel
theorem isi5 : isiB "bool" ["list", "tuple"] = some false := by decide +kernel
theorem isi6 : isiB "NoneType" ["list", "tuple"] = some false := by decide +kernel
theorem isi7 : isiB "str" ["str"] = some true := by decide +kernel
theorem isi8 : isiB "tuple" ["str"] = some false := by decide +kernel
def okD : Nat → D → Prop
  | 0, _ => False
  | n + 1, d => match d with
    | .tup ds => ds.length ≤ 10000 ∧ ∀ x ∈ ds, okD n x
    | .lst ds => ds.length ≤ 10000 ∧ ∀ x ∈ ds, okD n x
    | .str x => PyData.strOk x = true
    | .int _ => True
    | .bl _ => True
    | .non => True
    | _ => False
def okT : Nat → D → Prop
  | 0, _ => False
  | n + 1, d => match d with
    | .tup ds => ds.length ≤ 10000 ∧ ∀ x ∈ ds, okT n x
    | .str x => PyData.strOk x = true
    | .int _ => True
    | .bl _ => True
    | .non => True
    | _ => False
def toT : Nat → D → D
  | 0, d => d
  | n + 1, d => match d with
    | .tup ds => .tup (ds.map (toT n))
    | .lst ds => .tup (ds.map (toT n))
    | d => d
theorem okD_ne : ∀ {n : Nat} {d : D}, okD n d → d ≠ .any
  | 0, d, h => by simp [okD] at h
  | n + 1, d, h => by
    intro e
    subst e
    simp [okD] at h
theorem okT_D : ∀ {n : Nat} {d : D}, okT n d → okD n d
  | 0, d, h => by simp [okT] at h
  | n + 1, d, h => by
    cases d <;> simp only [okT, okD] at h ⊢
    all_goals first | exact h | exact ⟨h.1, fun x hx => okT_D (h.2 x hx)⟩
theorem toT_id : ∀ {n : Nat} {d : D}, okT n d → toT n d = d
  | 0, d, h => rfl
  | n + 1, d, h => by
    cases d <;> simp only [okT, toT] at h ⊢
    rename_i ds
    congr 1
    exact (List.map_congr_left fun x hx => toT_id (h.2 x hx)).trans (List.map_id _)
theorem okD_py : ∀ {n : Nat} {d : D}, okD n d → ∃ p, d.py = some p ∧ PyData.canLay0 p = true ∧ PyData.depth p ≤ n
  | 0, d, h => by simp [okD] at h
  | n + 1, d, h => by
    have go : ∀ ds : List D, (∀ x ∈ ds, okD n x) → ∃ ps, D.pys ds = some ps ∧ PyData.canLayAll0 ps = true ∧ PyData.depthAll ps ≤ n := fun ds => by
      induction ds with
      | nil => intro _; exact ⟨[], rfl, rfl, by simp [PyData.depthAll]⟩
      | cons x xs ih =>
        intro hx
        obtain ⟨ps, h1, h2, h3⟩ := ih fun y hy => hx y (by simp [hy])
        obtain ⟨p, h4, h5, h6⟩ := okD_py (hx x (by simp))
        refine ⟨p :: ps, by simp [D.pys, h1, h4], by simp [PyData.canLayAll0, h2, h5], ?_⟩
        simp only [PyData.depthAll]
        omega
    cases d <;> simp only [okD] at h
    case tup ds =>
      obtain ⟨ps, h1, h2, h3⟩ := go ds h.2
      exact ⟨.tuple ps, by simp [D.py, h1], by simpa [PyData.canLay0] using h2, by simp only [PyData.depth]; omega⟩
    case lst ds =>
      obtain ⟨ps, h1, h2, h3⟩ := go ds h.2
      exact ⟨.list ps, by simp [D.py, h1], by simpa [PyData.canLay0] using h2, by simp only [PyData.depth]; omega⟩
    case str x => exact ⟨.str x, rfl, by simpa [PyData.canLay0] using h, by simp [PyData.depth]⟩
    case int i => exact ⟨.int i, rfl, rfl, by simp [PyData.depth]⟩
    case bl i => exact ⟨.bool i, rfl, rfl, by simp [PyData.depth]⟩
    case non => exact ⟨.none, rfl, rfl, by simp [PyData.depth]⟩
theorem eqD_refl {n : Nat} {d : D} (h : okD n d) (hn : n ≤ 60) : eqD d d = some true := by
  obtain ⟨p, h1, h2, h3⟩ := okD_py h
  have hs : SeqAt.shaped p = true := by
    unfold SeqAt.shaped
    rw [h2, decide_eq_true (by omega)]
    rfl
  simp [eqD, h1, hs, PySem.SeqAt.eqv_refl p h2]
theorem eqI (i : Nat) : eqD (.int i) (.int i) = some true := eqD_refl (n := 1) (by simp [okD]) (by omega)
inductive Tr where
  | leaf (s : Str)
  | node (l r : Tr)
def Tr.D : Tr → D
  | .leaf s => .str s
  | .node l r => .tup [l.D, r.D]
def Tr.leaves : Tr → List Str
  | .leaf s => [s]
  | .node l r => l.leaves ++ r.leaves
def Tr.dep : Tr → Nat
  | .leaf _ => 0
  | .node l r => max l.dep r.dep + 1
theorem Tr.D_ne : ∀ t : Tr, t.D ≠ .any
  | .leaf _ => by simp [Tr.D]
  | .node _ _ => by simp [Tr.D]
theorem Tr.pos : ∀ t : Tr, 0 < t.leaves.length
  | .leaf _ => by simp [Tr.leaves]
  | .node l r => by have := l.pos; simp only [Tr.leaves, List.length_append]; omega
theorem Tr.dep_lt : ∀ t : Tr, t.dep < t.leaves.length
  | .leaf _ => by simp [Tr.leaves, Tr.dep]
  | .node l r => by
    have h1 := l.dep_lt
    have h2 := r.dep_lt
    have h3 := l.pos
    have h4 := r.pos
    simp only [Tr.leaves, Tr.dep, List.length_append]
    omega
theorem Tr.okT : ∀ {n : Nat} (t : Tr), (∀ x ∈ t.leaves, PyData.strOk x = true) → t.dep < n → okT n t.D
  | 0, _, _, h => by omega
  | n + 1, .leaf s, h, _ => by simpa [Tr.D, Pu.okT, Tr.leaves] using h
  | n + 1, .node l r, h, hd => by
    simp only [Tr.dep] at hd
    simp only [Tr.leaves, List.mem_append] at h
    simp only [Tr.D, Pu.okT]
    refine ⟨by simp, fun x hx => ?_⟩
    simp only [List.mem_cons, List.not_mem_nil, or_false] at hx
    rcases hx with rfl | rfl
    · exact l.okT (fun x z => h x (.inl z)) (by omega)
    · exact r.okT (fun x z => h x (.inr z)) (by omega)
theorem shs_sW (xs : List Str) : shs (sW xs) = sW xs := by unfold shs; rw [sW_ds, sD_sh]
theorem shs_sh (xs : List D) : shs (xs.map W.sh) = xs.map W.sh := by unfold shs; rw [dsh_ds]
theorem cut_hi {α : Type} (xs : List α) {k : Int} (h : 0 ≤ k) : cutG xs none (some k) = xs.take k.toNat := by
  unfold cutG HT.sIx
  have h1 : ¬ k < 0 := by omega
  simp only [h1, if_false, List.drop_zero, Nat.sub_zero]
  by_cases h2 : k.toNat ≤ xs.length
  · rw [Nat.min_eq_left h2]
  · rw [Nat.min_eq_right (by omega), List.take_of_length_le (Nat.le_refl _), List.take_of_length_le (by omega)]
theorem cut_lo {α : Type} (xs : List α) {k : Int} (h : 0 ≤ k) : cutG xs (some k) none = xs.drop k.toNat := by
  unfold cutG HT.sIx
  have h1 : ¬ k < 0 := by omega
  simp only [h1, if_false]
  by_cases h2 : k.toNat ≤ xs.length
  · rw [Nat.min_eq_left h2]
    exact List.take_of_length_le (by simp)
  · rw [Nat.min_eq_right (by omega), List.drop_eq_nil_of_le (Nat.le_refl _), List.drop_eq_nil_of_le (by omega)]
    simp
theorem sD_take (xs : List Str) (k : Nat) : (sD xs).take k = sD (xs.take k) := by simp [sD]
theorem sD_drop (xs : List Str) (k : Nat) : (sD xs).drop k = sD (xs.drop k) := by simp [sD]
theorem ixN_in {n : Nat} {r : Int} (h0 : 0 ≤ r) (h1 : r < n) : ixN n r = some r.toNat := by
  unfold ixN
  rw [if_pos h0, if_pos h1]
theorem sW_nil : sW [] = [] := rfl
theorem fls_sD : ∀ xs : List Str, D.fls (sD xs) = some (xs.map V.str)
  | [] => rfl
  | x :: xs => by
    have := fls_sD xs
    simp only [sD, List.map_cons, D.fls, D.fl] at this ⊢
    rw [this]
theorem flat_str (xs : List Str) : (xs.map V.str).all flatV = true := by
  induction xs with
  | nil => rfl
  | cons x xs ih => simp only [List.map_cons, List.all_cons, ih, Bool.and_true]; rfl
theorem inV_str (x : Str) (xs : List Str) : inV (.str x) (xs.map V.str) = decide (x ∈ xs) := by
  induction xs with
  | nil => simp [inV]
  | cons y ys ih =>
    unfold inV at ih ⊢
    rw [List.map_cons, List.any_cons, ih]
    show ((y == x) || decide (x ∈ ys)) = decide (x ∈ y :: ys)
    by_cases h : x = y
    · subst h; simp
    · have h2 : ¬ y = x := fun z => h z.symm
      simp [h, h2]
theorem insF_str (x : Str) (xs : List Str) : insF (.str x) (sD xs) = some (decide (x ∈ xs)) := by
  have h : flatV (.str x) = true := rfl
  simp only [insF, D.fl, fls_sD, h, flat_str, Bool.true_and, if_true, inV_str]
theorem okT_tup {n : Nat} {ds : List D} (h1 : ds.length ≤ 10000) (h2 : ∀ x ∈ ds, okT n x) : okT (n + 1) (.tup ds) := by
  simp only [okT]
  exact ⟨h1, h2⟩
theorem okT_strs {xs : List Str} {n : Nat} (h : ∀ x ∈ xs, PyData.strOk x = true) (l : xs.length ≤ 1000) (hn : 2 ≤ n) : okT n (.tup (sD xs)) := by
  obtain ⟨m, rfl⟩ : ∃ m, n = m + 2 := ⟨n - 2, by omega⟩
  refine okT_tup (n := m + 1) (by rw [sD_len]; omega) fun y hy => ?_
  obtain ⟨x, hx, rfl⟩ := List.mem_map.mp hy
  exact h x hx
theorem okD_lst {n : Nat} {ds : List D} (h1 : ds.length ≤ 10000) (h2 : ∀ x ∈ ds, okD n x) : okD (n + 1) (.lst ds) := by
  simp only [okD]
  exact ⟨h1, h2⟩
def iW (xs : List Int) : List W := xs.map fun x => .sh (.int x)
theorem iW_len (xs : List Int) : (iW xs).length = xs.length := by simp [iW]
theorem iW_get (xs : List Int) (k : Nat) (h : k < xs.length) : (iW xs)[k]? = some (.sh (.int xs[k])) := by simp [iW, h]
theorem iW_set (xs : List Int) (k : Nat) (v : Int) : (iW xs).set k (.sh (.int v)) = iW (xs.set k v) := by simp [iW, List.map_set]
theorem cut_2 {α : Type} (xs : List α) (k : Nat) (h : xs.length ≤ 63) (hk : k ≤ 63) : cutG xs (some (k : Int)) (some 63) = (xs.drop k).take (63 - k) := by
  have e1 : HT.sIx xs.length 0 (some (k : Int)) = min k xs.length := HT.sIx_nat xs.length 0 k
  have e2 : HT.sIx xs.length xs.length (some 63) = min 63 xs.length := HT.sIx_nat xs.length xs.length 63
  unfold cutG
  rw [e1, e2]
  have l : (xs.drop k).length = xs.length - k := List.length_drop
  rw [List.take_of_length_le (l := xs.drop k) (i := 63 - k) (by omega)]
  by_cases h3 : k ≤ xs.length
  · rw [Nat.min_eq_left h3]
    exact List.take_of_length_le (by omega)
  · have z1 : xs.drop k = [] := List.drop_eq_nil_of_le (by omega)
    have z2 : min k xs.length = xs.length := by omega
    rw [z1, z2, List.drop_length]
    simp
theorem fComp_eq {vs : List Nat} {fi : FI} {g : FG} {t : FT} {f : FE} {en en1 en2 : En} {ds : List D} {ws : List W} (h1 : fi en = some (en1, ds)) (h2 : compD vs g t f ds en1 [] = some (en2, ws)) : fComp vs fi g t f en = some (en2, .val (.lst ws)) := by simp only [fComp, h1, h2]
theorem ixN_neg1 (n : Nat) : ixN (n + 1) (-1) = some n := by
  unfold ixN
  simp
  omega
theorem at_last {α : Type} {l : List α} {x : α} (h : l.getLast? = some x) : atI l (-1) = some x := by
  have hl : l ≠ [] := fun z => by rw [z] at h; cases h
  have hp := List.length_pos_iff.mpr hl
  have ix : ixN l.length (-1) = some (l.length - 1) := by
    unfold ixN
    simp
    omega
  unfold atI
  rw [ix]
  rw [List.getLast?_eq_getElem?] at h
  exact h
theorem tdats_all : ∀ {ds : List D}, (∀ d ∈ ds, d.tdat = true) → D.tdats ds = true
  | [], _ => rfl
  | d :: ds, h => by
    have z := tdats_all (ds := ds) fun x hx => h x (by simp [hx])
    simp only [D.tdats, h d (by simp), z, Bool.and_self]
theorem cleans_all : ∀ {ws : List W}, (∀ w ∈ ws, w.clean = true) → W.cleans ws = true
  | [], _ => rfl
  | w :: ws, h => by
    have z := cleans_all (ws := ws) fun x hx => h x (by simp [hx])
    simp only [W.cleans, h w (by simp), z, Bool.and_self]
theorem tdats_sD (xs : List Str) : D.tdats (sD xs) = true := tdats_all fun d hd => by
  obtain ⟨x, _, rfl⟩ := List.mem_map.mp hd
  rfl
theorem cleans_sW (xs : List Str) : W.cleans (sW xs) = true := cleans_all fun d hd => by
  obtain ⟨x, _, rfl⟩ := List.mem_map.mp hd
  rfl
theorem cleans_sh {ds : List D} (h : D.tdats ds = true) : W.cleans (ds.map W.sh) = true := cleans_all fun w hw => by
  obtain ⟨x, hx, rfl⟩ := List.mem_map.mp hw
  have : ∀ {ds : List D}, D.tdats ds = true → ∀ d ∈ ds, d.tdat = true := fun {ds} => by
    induction ds with
    | nil => intro _ d hd; cases hd
    | cons y ys ih =>
      intro h d hd
      simp only [D.tdats, Bool.and_eq_true] at h
      rcases List.mem_cons.mp hd with rfl | hd
      · exact h.1
      · exact ih h.2 d hd
  exact this h x hx
theorem okD_tdat : ∀ {n : Nat} {d : D}, okD n d → (toT n d).tdat = true
  | 0, _, h => by simp [okD] at h
  | n + 1, d, h => by
    cases d <;> simp only [okD] at h <;> simp only [D.tdat, toT]
    all_goals
      refine tdats_all fun x hx => ?_
      obtain ⟨y, hy, rfl⟩ := List.mem_map.mp hx
      exact okD_tdat (h.2 y hy)
theorem Tr.tdat : ∀ t : Tr, t.D.tdat = true
  | .leaf _ => rfl
  | .node l r => by simp only [Tr.D, D.tdat, D.tdats, l.tdat, r.tdat, Bool.and_self]
theorem forD_nx {g : FG} {body : FS} {d : D} {ds : List D} {en en1 en2 : En} {r : Option (En × Fl)} (h1 : g en (.sh d) = some en1) (h2 : body en1 = some (en2, .nx)) (h3 : forD g body ds en2 = r) : forD g body (d :: ds) en = r := by
  simp only [forD, h1, h2, h3]
theorem okD_tup {n : Nat} {ds : List D} (h1 : ds.length ≤ 10000) (h2 : ∀ x ∈ ds, okD n x) : okD (n + 1) (.tup ds) := by
  simp only [okD]
  exact ⟨h1, h2⟩
theorem iW_ds : ∀ xs : List Int, W.ds (iW xs) = xs.map D.int
  | [] => rfl
  | x :: xs => by
    have := iW_ds xs
    simp only [iW, List.map_cons, W.ds, W.d] at this ⊢
    rw [this]
theorem eqII (i j : Int) : eqD (.int i) (.int j) = some (decide (i = j)) := by
  simp [eqD, D.py, SeqAt.shaped, PyData.canLay0, PyData.depth, PyData.eqv]
  rfl
theorem pys_map {β : Type} (f : β → D) (enc : β → PyData) : ∀ {bs : List β}, (∀ b ∈ bs, (f b).py = some (enc b)) → D.pys (bs.map f) = some (bs.map enc)
  | [], _ => rfl
  | b :: bs, h => by
    have z := pys_map f enc (bs := bs) fun x hx => h x (by simp [hx])
    simp only [List.map_cons, D.pys, h b (by simp), z]
/-- sorted, by what the things are -/
theorem oSortX_map {β : Type} (f : β → D) (enc : β → PyData) {bs : List β} (he : ∀ b ∈ bs, (f b).py = some (enc b)) (ha : ∀ b ∈ bs, ∀ c ∈ bs, PySem.W.alike (enc b) (enc c) = true)
    (hs : (∀ b ∈ bs, tupB (enc b) = true) ∨ ∀ b ∈ bs, notB (enc b) = true) (hd : ∀ b ∈ bs, (enc b).depth ≤ 60) (hl : bs.length ≤ 1000000) : oSortX (bs.map f) = some ((srt (PySem.W.dataLe false enc) bs).map f) := by
  unfold oSortX
  rw [pys_map f enc he]
  have h1 : alikeB (bs.map enc) = true := by
    unfold alikeB
    rw [List.all_eq_true]
    intro x hx
    obtain ⟨b, hb, rfl⟩ := List.mem_map.mp hx
    rw [List.all_eq_true]
    intro y hy
    obtain ⟨c, hc, rfl⟩ := List.mem_map.mp hy
    exact ha b hb c hc
  have h2 : sortableB (bs.map enc) = true := by
    unfold sortableB
    rw [Bool.or_eq_true, List.all_eq_true, List.all_eq_true]
    rcases hs with hs | hs
    · refine .inl fun x hx => ?_
      obtain ⟨b, hb, rfl⟩ := List.mem_map.mp hx
      exact hs b hb
    · refine .inr fun x hx => ?_
      obtain ⟨b, hb, rfl⟩ := List.mem_map.mp hx
      exact hs b hb
  have h3 : depthB (bs.map enc) = true := by
    unfold depthB
    rw [List.all_eq_true]
    intro x hx
    obtain ⟨b, hb, rfl⟩ := List.mem_map.mp hx
    simpa using hd b hb
  have h4 : (bs.map f).length ≤ sizeLine := by rw [List.length_map]; exact size_le hl
  simp only [h1, h2, h3, h4, decide_true, Bool.and_self, if_true]
  congr 1
  symm
  refine srt_map f fun a ha b hb => ?_
  simp only [leD, he a ha, he b hb, PySem.W.dataLe_eq, cond_false]
def pD (p : Nat × Nat) : D := .tup [.int (p.1 : Int), .int (p.2 : Int)]
def leP (p q : Nat × Nat) : Bool := decide (p.1 < q.1 ∨ (p.1 = q.1 ∧ p.2 ≤ q.2))
def encP (p : Nat × Nat) : PyData := .tuple [.int (p.1 : Int), .int (p.2 : Int)]
theorem pD_py (p : Nat × Nat) : (pD p).py = some (encP p) := rfl
theorem alikeP (p q : Nat × Nat) : PySem.W.alike (encP p) (encP q) = true := by simp [encP, PySem.W.alike, PySem.W.alikeAll]
theorem depthP (p : Nat × Nat) : (encP p).depth ≤ 60 := by simp [encP, PyData.depth, PyData.depthAll]
theorem dataLeP : PySem.W.dataLe false encP = leP := by
  have := PySem.W.dataLe_ii (fun p : Nat × Nat => (p.1 : Int)) (fun p => (p.2 : Int))
  refine this.trans ?_
  funext p q
  unfold leP
  congr 1
  simp only [Int.ofNat_lt, Int.ofNat_le, Int.ofNat_inj]
theorem oSortX_pairs {ps : List (Nat × Nat)} (h : ps.length ≤ 1000000) : oSortX (ps.map pD) = some ((srt leP ps).map pD) := by
  have := oSortX_map pD encP (bs := ps) (fun p _ => pD_py p) (fun p _ q _ => alikeP p q) (.inl fun p _ => rfl) (fun p _ => depthP p) h
  rw [dataLeP] at this
  exact this
theorem leP_tot (a b : Nat × Nat) (h : leP a b = false) : leP b a = true := by
  simp only [leP, decide_eq_false_iff_not, decide_eq_true_eq] at h ⊢; omega
theorem leP_tr (a b c : Nat × Nat) (h : leP a b = true) (h' : leP b c = true) : leP a c = true := by
  simp only [leP, decide_eq_true_eq] at h h' ⊢; omega
theorem leP_an (a b : Nat × Nat) (h : leP a b = true) (h' : leP b a = true) : a = b := by
  simp only [leP, decide_eq_true_eq] at h h'
  exact Prod.ext (by omega) (by omega)
def leN (x y : Str) : Bool := PySem.W.dataLe false (fun x : Str => PyData.str x) x y
theorem oSortX_names {xs : List Str} (h : xs.length ≤ 1000000) : oSortX (sD xs) = some (sD (srt leN xs)) :=
  oSortX_map D.str PyData.str (bs := xs) (fun _ _ => rfl) (fun _ _ _ _ => by simp [PySem.W.alike]) (.inr fun _ _ => rfl) (fun _ _ => by simp [PyData.depth]) h
theorem leN_iff (x y : Str) : leN x y = true ↔ x.cps.toList ≤ y.cps.toList := by
  unfold leN
  rw [PySem.W.dataLe_str, decide_eq_true_eq]
theorem leN_tot (a b : Str) (h : leN a b = false) : leN b a = true := by
  rw [leN_iff]
  have h' : ¬ a.cps.toList ≤ b.cps.toList := fun z => by rw [(leN_iff a b).mpr z] at h; cases h
  exact (List.le_total (b.cps.toList) (a.cps.toList)).resolve_right h'
theorem leN_tr (a b c : Str) (h : leN a b = true) (h' : leN b c = true) : leN a c = true := by
  rw [leN_iff] at h h' ⊢
  exact List.le_trans h h'
theorem str_ext {x y : Str} (h : x.cps.toList = y.cps.toList) : x = y := by
  cases x
  cases y
  simp only at h
  rw [Array.toList_inj] at h
  rw [h]
theorem leN_an (a b : Str) (h : leN a b = true) (h' : leN b a = true) : a = b := by
  rw [leN_iff] at h h'
  exact str_ext (List.le_antisymm h h')
theorem tdats_pD (ps : List (Nat × Nat)) : D.tdats (ps.map pD) = true := tdats_all fun w hw => by
  obtain ⟨x, hx, rfl⟩ := List.mem_map.mp hw
  rfl
theorem sh_get {en : En} {v : Nat} {x : D} (hv : en[v]? = some (.sh x)) : v < en.length := by
  rcases Nat.lt_or_ge v en.length with h | h
  · exact h
  · rw [List.getElem?_eq_none h] at hv; cases hv
theorem fn_ret {n np : Nat} {fix : List Nat} {b : FS} {ws ws' : List W} {w : W} (hl : ws.length = np) (h : ∃ en', b (ws ++ List.replicate (n - np) (.sh .any)) = some (en', .ret w) ∧ outs fix 0 np en' = ws') : fnP n np fix b ws = some (w, ws') := by
  obtain ⟨en', h1, h2⟩ := h
  rw [← h2]
  exact fnP_ret hl h1
theorem fPureT_eq {f : FT} {en en1 : En} {b : Bool} (h : f (frzE en) = some (en1, b)) : fPureT f en = some (en, b) := by
  simp [fPureT, h]
theorem forTI {α : Type} {v : Nat} {body : FS} (enc : α → D) {all : List α} (I : List α → En → Prop) (hs : ∀ pre x post en, all = pre ++ x :: post → I pre en → v < en.length ∧ ∃ en', body (en.set v (.sh (enc x))) = some (en', .nx) ∧ I (pre ++ [x]) en') : ∀ (xs pre : List α) (en : En), all = pre ++ xs → I pre en →
    ∃ en', forD (gN v) body (xs.map enc) en = some (en', .nx) ∧ I all en'
  | [], pre, en, e, h => ⟨en, by simp [forD], by rw [e, List.append_nil]; exact h⟩
  | x :: xs, pre, en, e, h => by
    obtain ⟨lv, en1, e1, h1⟩ := hs pre x xs en e h
    obtain ⟨en2, e2, h2⟩ := forTI enc I hs xs (pre ++ [x]) en1 (by rw [e]; simp) h1
    exact ⟨en2, forD_nx (by simp [gN, lv]) e1 e2, h2⟩
theorem sForT {α : Type} {v : Nat} {fi : FI} {body : FS} {en en1 : En} (enc : α → D) (xs : List α) (I : List α → En → Prop) (hi : fi en = some (en1, xs.map enc)) (h0 : I [] en1) (hs : ∀ pre x post en, xs = pre ++ x :: post → I pre en → v < en.length ∧ ∃ en', body (en.set v (.sh (enc x))) = some (en', .nx) ∧ I (pre ++ [x]) en') :
    ∃ en', sFor fi (gN v) body en = some (en', .nx) ∧ I xs en' := by
  obtain ⟨en2, e2, h2⟩ := forTI enc I hs xs [] en1 rfl h0
  exact ⟨en2, sFor_eq hi e2, h2⟩
theorem compT {α : Type} {v : Nat} {fi : FI} {t : FT} {f : FE} {en0 en : En} {z : D} (enc : α → D) (xs : List α) (p : α → Bool) (o : α → D) (hi : fi en0 = some (en, xs.map enc)) (hl : xs.length ≤ 1000000) (hv : en[v]? = some (.sh z))
    (hs : ∀ x ∈ xs, t (en.set v (.sh (enc x))) = some (en.set v (.sh (enc x)), p x) ∧ (p x = true → f (en.set v (.sh (enc x))) = some (en.set v (.sh (enc x)), .val (.sh (o x))))) :
    fComp [v] fi (gN v) t f en0 = some (en, .val (.lst (((xs.filter p).map o).map W.sh))) := by
  have lv := sh_get hv
  have go : ∀ (ys : List α) (acc : List W), acc.length + ys.length ≤ 1000000 → (∀ y ∈ ys, y ∈ xs) → compD [v] (gN v) t f (ys.map enc) en acc = some (en, acc ++ ((ys.filter p).map o).map W.sh) := fun ys => by
    induction ys with
    | nil => intro acc _ _; simp [compD]
    | cons y ys ih =>
      intro acc hl hm
      simp only [List.length_cons] at hl
      obtain ⟨h1, h2⟩ := hs y (hm y (by simp))
      have ok : okV en [v] = true := by simp [okV, hv, W.isSh]
      have g1 : gN v (wipeE en [v]) (.sh (enc y)) = some (en.set v (.sh (enc y))) := by simp [gN, wipeE, lv]
      have r1 : restE (en.set v (.sh (enc y))) en [v] = en := by
        rw [restE, hv]
        simp only [restE, List.set_set]
        exact set_get hv
      have sl : acc.length < sizeLine := size_lt (by omega)
      have len : (en.set v (.sh (enc y))).length = en.length := by simp
      cases hp : p y with
      | true =>
        have h2 := h2 hp
        rw [hp] at h1
        have i1 := ih (acc ++ [.sh (o y)]) (by simp; omega) fun x hx => hm x (by simp [hx])
        simp only [List.map_cons, compD, ok, if_true, g1, len, h1, h2, R.tk, and_self, sl, r1, i1, List.filter_cons, hp, List.append_assoc, List.singleton_append]
      | false =>
        rw [hp] at h1
        have i1 := ih acc (by omega) fun x hx => hm x (by simp [hx])
        simp only [List.map_cons, compD, ok, if_true, g1, len, h1, r1, i1, List.filter_cons, hp, Bool.false_eq_true, if_false]
  refine (fComp_eq hi (go xs [] (by simpa using hl) fun _ h => h)).trans (by simp)
theorem at_0 {α : Type} {a : α} {l : List α} : atI (a :: l) 0 = some a := by simp [atI, ixN]
theorem at_1 {α : Type} {a b : α} {l : List α} : atI (a :: b :: l) 1 = some b := by
  have : ixN (a :: b :: l).length 1 = some 1 := ixN_lit1
  simp only [atI, this]
  rfl
theorem at_2 {α : Type} {a b c : α} {l : List α} : atI (a :: b :: c :: l) 2 = some c := by
  have : ixN (a :: b :: c :: l).length 2 = some 2 := ixN_lit2
  simp only [atI, this]
  rfl
theorem at_3 {α : Type} {a b c d : α} {l : List α} : atI (a :: b :: c :: d :: l) 3 = some d := by
  have : ixN (a :: b :: c :: d :: l).length 3 = some 3 := ixN_in (by omega) (by simp only [List.length_cons]; omega)
  simp only [atI, this]
  rfl
theorem at_4 {α : Type} {a b c d e : α} {l : List α} : atI (a :: b :: c :: d :: e :: l) 4 = some e := by
  have : ixN (a :: b :: c :: d :: e :: l).length 4 = some 4 := ixN_in (by omega) (by simp only [List.length_cons]; omega)
  simp only [atI, this]
  rfl
theorem whD_nx {t : FT} {body : FS} {n : Nat} {en en1 en2 : En} {r : Option (En × Fl)} (h1 : t en = some (en1, true)) (h2 : body en1 = some (en2, .nx)) (h3 : whD t body n en2 = r) : whD t body (n + 1) en = r := by
  simp only [whD, h1, h2, h3]
theorem whD_end {t : FT} {body : FS} {n : Nat} {en en1 : En} (h1 : t en = some (en1, false)) : whD t body (n + 1) en = some (en1, .nx) := by
  simp only [whD, h1]
theorem whD_more {t : FT} {body : FS} : ∀ {n m : Nat} {en : En} {r : En × Fl}, whD t body n en = some r → n ≤ m → whD t body m en = some r
  | 0, _, _, _, h, _ => by simp [whD] at h
  | n + 1, m, en, r, h, hm => by
    obtain ⟨m, rfl⟩ : ∃ k, m = k + 1 := ⟨m - 1, by omega⟩
    simp only [whD] at h ⊢
    cases ht : t en with
    | none => rw [ht] at h; cases h
    | some p =>
      obtain ⟨en1, b⟩ := p
      rw [ht] at h
      cases b with
      | false => exact h
      | true =>
        simp only at h ⊢
        cases hb : body en1 with
        | none => rw [hb] at h; cases h
        | some p =>
          obtain ⟨en2, f⟩ := p
          rw [hb] at h
          cases f with
          | nx => exact whD_more h (by omega)
          | ct => exact whD_more h (by omega)
          | bk => exact h
          | ret w => exact h
structure STO {α : Type} (lt : α → α → Bool) : Prop where
  irr : ∀ a, lt a a = false
  tr : ∀ a b c, lt a b = true → lt b c = true → lt a c = true
  tri : ∀ a b, lt a b = false → lt b a = false → a = b
def leOf {α : Type} (lt : α → α → Bool) (a b : α) : Bool := !lt b a
theorem STO.tot {α : Type} {lt : α → α → Bool} (h : STO lt) (a b : α) (e : leOf lt a b = false) : leOf lt b a = true := by
  simp only [leOf, Bool.not_eq_false', Bool.not_eq_true'] at e ⊢
  cases z : lt a b with
  | false => rfl
  | true =>
    have := h.tr a b a z e
    rw [h.irr] at this
    cases this
theorem STO.let {α : Type} {lt : α → α → Bool} (h : STO lt) (a b c : α) (e : leOf lt a b = true) (f : leOf lt b c = true) : leOf lt a c = true := by
  simp only [leOf, Bool.not_eq_true'] at e f ⊢
  cases z : lt c a with
  | false => rfl
  | true =>
    cases y : lt a b with
    | true =>
      rw [h.tr c a b z y] at f
      cases f
    | false =>
      have := h.tri a b y e
      subst this
      rw [z] at f
      cases f
theorem STO.an {α : Type} {lt : α → α → Bool} (h : STO lt) (a b : α) (e : leOf lt a b = true) (f : leOf lt b a = true) : a = b := by
  simp only [leOf, Bool.not_eq_true'] at e f
  exact h.tri a b f e
def lexB {α : Type} [DecidableEq α] (lt : α → α → Bool) : List α → List α → Bool
  | [], [] => false
  | [], _ :: _ => true
  | _ :: _, [] => false
  | x :: xs, y :: ys => if x = y then lexB lt xs ys else lt x y
def prodB {α β : Type} [DecidableEq α] (l1 : α → α → Bool) (l2 : β → β → Bool) (p q : α × β) : Bool := if p.1 = q.1 then l2 p.2 q.2 else l1 p.1 q.1
/-- what data an encoding gives, and its order -/
structure Enc {α : Type} [DecidableEq α] (enc : α → PyData) (lt : α → α → Bool) : Prop where
  ali : ∀ x y, PySem.W.alike (enc x) (enc y) = true
  eq : ∀ x y, PyData.eqv (enc x) (enc y) = decide (x = y)
  lt : ∀ x y, PySem.W.dataLt (enc x) (enc y) = lt x y
theorem Enc.le {α : Type} [DecidableEq α] {enc : α → PyData} {lt : α → α → Bool} (h : Enc enc lt) : PySem.W.dataLe false enc = leOf lt := by
  funext a b
  show (!PySem.W.dataLt (enc b) (enc a)) = _
  rw [h.lt]
  rfl
theorem encNat : Enc (fun i : Nat => PyData.int (i : Int)) (fun a b => decide (a < b)) where
  ali := fun x y => by simp [PySem.W.alike]
  eq := fun x y => by
    simp only [PyData.eqv]
    rw [Bool.eq_iff_iff, beq_iff_eq, decide_eq_true_iff]
    omega
  lt := fun x y => by rw [PySem.W.dataLt_int]; simp only [Int.ofNat_lt]
theorem Enc.row {α : Type} [DecidableEq α] {enc : α → PyData} {lt : α → α → Bool} (h : Enc enc lt) : ∀ xs ys : List α, PySem.W.rowLt (xs.map enc) (ys.map enc) = lexB lt xs ys
  | [], [] => PyProof.Rows.lex_irrefl _
  | [], y :: ys => by
    unfold PySem.W.rowLt
    rw [List.map_cons, PySem.W.toks_all_cons]
    simp only [List.map_nil, PySem.W.keyToksAll]
    rw [PyProof.Rows.lex_diff (O := PyProof.Rows.itemOrd) (by simp)]
    rfl
  | x :: xs, [] => by
    unfold PySem.W.rowLt
    rw [List.map_cons, PySem.W.toks_all_cons]
    simp only [List.map_nil, PySem.W.keyToksAll]
    rw [PyProof.Rows.lex_diff (O := PyProof.Rows.itemOrd) (by simp)]
    rfl
  | x :: xs, y :: ys => by
    have ih := h.row xs ys
    unfold PySem.W.rowLt at ih ⊢
    rw [List.map_cons, List.map_cons, PySem.W.dataLt_cons (h.ali x y), ih, h.eq, h.lt]
    simp only [lexB, decide_eq_true_eq]
theorem Enc.alis {α : Type} [DecidableEq α] {enc : α → PyData} {lt : α → α → Bool} (h : Enc enc lt) : ∀ xs ys : List α, PySem.W.alikeAll (xs.map enc) (ys.map enc) = true
  | [], ys => by cases ys <;> simp [PySem.W.alikeAll]
  | x :: xs, [] => by simp [PySem.W.alikeAll]
  | x :: xs, y :: ys => by simp [PySem.W.alikeAll, h.ali x y, h.alis xs ys]
theorem Enc.eqs {α : Type} [DecidableEq α] {enc : α → PyData} {lt : α → α → Bool} (h : Enc enc lt) : ∀ xs ys : List α, PyData.eqvAll (xs.map enc) (ys.map enc) = decide (xs = ys)
  | [], [] => rfl
  | [], y :: ys => by simp [PyData.eqvAll]
  | x :: xs, [] => by simp [PyData.eqvAll]
  | x :: xs, y :: ys => by simp [PyData.eqvAll, h.eq x y, h.eqs xs ys]
theorem Enc.tup {α : Type} [DecidableEq α] {enc : α → PyData} {lt : α → α → Bool} (h : Enc enc lt) : Enc (fun xs : List α => PyData.tuple (xs.map enc)) (lexB lt) where
  ali := fun x y => by simp [PySem.W.alike, h.alis x y]
  eq := fun x y => by simp only [PyData.eqv]; exact h.eqs x y
  lt := fun x y => by rw [PySem.W.dataLt_tuple]; exact h.row x y
theorem Enc.pair {α β : Type} [DecidableEq α] [DecidableEq β] {e1 : α → PyData} {e2 : β → PyData} {l1 : α → α → Bool} {l2 : β → β → Bool} (h1 : Enc e1 l1) (h2 : Enc e2 l2) (irr : ∀ b, l2 b b = false) : Enc (fun x : α × β => PyData.tuple [e1 x.1, e2 x.2]) (prodB l1 l2) where
  ali := fun x y => by simp [PySem.W.alike, PySem.W.alikeAll, h1.ali, h2.ali]
  eq := fun x y => by simp [PyData.eqv, PyData.eqvAll, h1.eq, h2.eq, Prod.ext_iff]
  lt := fun x y => by
    rw [PySem.W.dataLt_pair (h1.ali _ _) (h2.ali _ _), h1.eq, h2.eq, h1.lt, h2.lt]
    simp only [prodB, decide_eq_true_eq]
    by_cases a : x.1 = y.1
    · by_cases b : x.2 = y.2
      · simp [a, b, irr]
      · simp [a, b]
    · simp [a]
def ltP : Nat × Nat → Nat × Nat → Bool := prodB (fun a b => decide (a < b)) (fun a b => decide (a < b))
theorem encPair : Enc encP ltP := Enc.pair encNat encNat (by simp)
def ddS : List Str → List Str
  | [] => []
  | x :: xs => if x ∈ xs then ddS xs else x :: ddS xs
theorem ddS_mem : ∀ {xs : List Str} {x : Str}, x ∈ ddS xs ↔ x ∈ xs
  | [], x => by simp [ddS]
  | y :: xs, x => by
    unfold ddS
    split
    · rename_i h
      rw [ddS_mem, List.mem_cons]
      exact ⟨.inr, fun z => z.elim (fun e => e ▸ h) id⟩
    · rw [List.mem_cons, List.mem_cons, ddS_mem]
theorem ddS_nodup : ∀ xs : List Str, (ddS xs).Nodup
  | [] => List.nodup_nil
  | x :: xs => by
    unfold ddS
    split
    · exact ddS_nodup xs
    · rename_i h
      exact List.nodup_cons.mpr ⟨fun z => h (ddS_mem.mp z), ddS_nodup xs⟩
def setS (xs : List Str) : List Str := srt leN (ddS xs)
theorem setS_mem {xs : List Str} {x : Str} : x ∈ setS xs ↔ x ∈ xs := ((srt_perm _ _).mem_iff).trans ddS_mem
theorem dkeys_sD : ∀ xs : List Str, dkeys (sD xs) = some (xs.map Sum.inr)
  | [] => rfl
  | x :: xs => by
    have := dkeys_sD xs
    unfold sD at this ⊢
    simp only [List.map_cons, dkeys, dkey, this]
def minL {α : Type} (lt : α → α → Bool) : α → List α → α
  | x, [] => x
  | x, y :: ys => minL lt (if lt y x then y else x) ys
theorem Enc.min {α : Type} [DecidableEq α] {enc : α → PyData} {lt : α → α → Bool} (h : Enc enc lt) : ∀ (xs : List α) (x : α), PySem.W.minD (enc x) (xs.map enc) = enc (minL lt x xs)
  | [], x => rfl
  | y :: ys, x => by
    have e : PySem.W.minD (enc x) ((y :: ys).map enc) = PySem.W.minD (if PySem.W.dataLt (enc y) (enc x) then enc y else enc x) (ys.map enc) := rfl
    unfold minL
    rw [e, h.lt, ← h.min ys]
    congr 1
    split <;> rfl
class Ed {α : Type} [DecidableEq α] (enc : α → D) where
  py : α → PyData
  pyE : ∀ x, (enc x).py = some (py x)
  lay : ∀ x, PyData.canLay0 (py x) = true
  dep : ∀ x, PyData.depth (py x) ≤ 50
  eqv : ∀ x y, PyData.eqv (py x) (py y) = decide (x = y)
  td : ∀ x, (enc x).tdat = true
  fl : ∀ x, (enc x).fl = none
  ns : ∀ x s, enc x ≠ .str s
theorem Ed.shaped {α : Type} [DecidableEq α] {enc : α → D} [h : Ed enc] (x : α) : SeqAt.shaped (h.py x) = true := by
  unfold SeqAt.shaped
  rw [h.lay, decide_eq_true (by have := h.dep x; omega)]
  rfl
theorem Ed.pys {α : Type} [DecidableEq α] {enc : α → D} [h : Ed enc] : ∀ xs : List α, D.pys (xs.map enc) = some (xs.map h.py)
  | [] => rfl
  | x :: xs => by simp only [List.map_cons, D.pys, h.pyE, Ed.pys xs]
theorem Ed.layAll {α : Type} [DecidableEq α] {enc : α → D} [h : Ed enc] : ∀ xs : List α, PyData.canLayAll0 (xs.map h.py) = true
  | [] => rfl
  | x :: xs => by simp only [List.map_cons, PyData.canLayAll0, h.lay, Ed.layAll xs, Bool.and_self]
theorem Ed.depAll {α : Type} [DecidableEq α] {enc : α → D} [h : Ed enc] : ∀ xs : List α, PyData.depthAll (xs.map h.py) ≤ 50
  | [] => by simp [PyData.depthAll]
  | x :: xs => by
    have h1 := h.dep x
    have h2 := Ed.depAll (h := h) xs
    simp only [List.map_cons, PyData.depthAll]
    omega
theorem Ed.shL {α : Type} [DecidableEq α] {enc : α → D} [h : Ed enc] (xs : List α) : SeqAt.shaped (.list (xs.map h.py)) = true := by
  unfold SeqAt.shaped
  have h1 := Ed.layAll (h := h) xs
  have h2 := Ed.depAll (h := h) xs
  have h3 : PyData.depth (.list (xs.map h.py)) ≤ 60 := by show PyData.depthAll (xs.map h.py) + 1 ≤ 60; omega
  simp only [PyData.canLay0, h1, Bool.true_and, decide_eq_true_eq]
  omega
theorem Ed.eqA {α : Type} [DecidableEq α] {enc : α → D} [h : Ed enc] : ∀ xs ys : List α, PyData.eqvAll (xs.map h.py) (ys.map h.py) = decide (xs = ys)
  | [], [] => rfl
  | [], y :: ys => rfl
  | x :: xs, [] => rfl
  | x :: xs, y :: ys => by
    simp only [List.map_cons, PyData.eqvAll, h.eqv, Ed.eqA xs ys, List.cons.injEq, Bool.decide_and]
section
variable {α : Type} [DecidableEq α] {enc : α → D} [h : Ed enc]
theorem ed_eq (x y : α) : eqD (enc x) (enc y) = some (decide (x = y)) := by
  unfold eqD
  rw [h.pyE, h.pyE]
  simp only [Ed.shaped, Bool.and_self, if_true, h.eqv]
theorem ed_eqL (xs ys : List α) : eqD (.lst (xs.map enc)) (.lst (ys.map enc)) = some (decide (xs = ys)) := by
  unfold eqD
  simp only [D.py, Ed.pys, Ed.shL, Bool.and_self, if_true, PyData.eqv, Ed.eqA]
theorem ed_nilL (xs : List α) : eqD (.lst (xs.map enc)) (.lst []) = some (decide (xs = [])) := ed_eqL (enc := enc) xs []
theorem ed_ins (x : α) (xs : List α) : ins (enc x) (xs.map enc) = some (decide (x ∈ xs)) := by
  unfold ins
  rw [h.pyE, Ed.pys]
  simp only [Ed.shaped, Ed.shL, Bool.and_self, if_true, Option.some.injEq]
  rw [Bool.eq_iff_iff, List.any_eq_true, decide_eq_true_eq]
  constructor
  · rintro ⟨p, hp, e⟩
    obtain ⟨y, hy, rfl⟩ := List.mem_map.mp hp
    rw [h.eqv, decide_eq_true_eq] at e
    exact e ▸ hy
  · intro hx
    exact ⟨_, List.mem_map.mpr ⟨x, hx, rfl⟩, by rw [h.eqv, decide_eq_true_eq]⟩
theorem ed_insF (x : α) (ds : List D) : insF (enc x) ds = none := by simp only [insF, h.fl]
theorem ed_inS (x : α) (d : D) : oInS [enc x, d] = none := by
  unfold oInS
  split
  · rename_i s t e
    injection e with e _
    exact absurd e (h.ns x s)
  · rfl
theorem ed_ninS (x : α) (d : D) : oNotInS [enc x, d] = none := by
  unfold oNotInS
  split
  · rename_i s t e
    injection e with e _
    exact absurd e (h.ns x s)
  · rfl
theorem dec_any {p : Prop} (i j : Decidable p) : @decide p i = @decide p j := by cases i <;> cases j <;> first | rfl | contradiction
theorem ed_in (x : α) (xs : List α) [i : Decidable (x ∈ xs)] : pIn [enc x, .lst (xs.map enc)] = some (.bl (decide (x ∈ xs))) := by
  simp only [pIn, por, ed_inS, oInF, D.items, ed_insF, oIn, ed_ins]
  rw [dec_any]
theorem ed_nin (x : α) (xs : List α) [i : Decidable (x ∈ xs)] : pNotIn [enc x, .lst (xs.map enc)] = some (.bl (!decide (x ∈ xs))) := by
  simp only [pNotIn, por, ed_ninS, oNotInF, D.items, ed_insF, oNotIn, ed_ins]
  rw [dec_any]
theorem ed_oEq (x y : α) [i : Decidable (x = y)] : oEq [enc x, enc y] = some (.bl (decide (x = y))) := by rw [oEq_two, ed_eq, dec_any]; rfl
theorem ed_oNe (x y : α) [i : Decidable (x = y)] : oNe [enc x, enc y] = some (.bl (!decide (x = y))) := by rw [oNe_two, ed_eq, dec_any]; rfl
theorem ed_oEqL (xs ys : List α) [i : Decidable (xs = ys)] : oEq [.lst (xs.map enc), .lst (ys.map enc)] = some (.bl (decide (xs = ys))) := by rw [oEq_two, ed_eqL, dec_any]; rfl
theorem ed_oNeL (xs ys : List α) [i : Decidable (xs = ys)] : oNe [.lst (xs.map enc), .lst (ys.map enc)] = some (.bl (!decide (xs = ys))) := by rw [oNe_two, ed_eqL, dec_any]; rfl
theorem ed_oEq0 (xs : List α) [i : Decidable (xs = [])] : oEq [.lst (xs.map enc), .lst []] = some (.bl (decide (xs = []))) := by rw [oEq_two, ed_nilL, dec_any]; rfl
theorem ed_oNe0 (xs : List α) [i : Decidable (xs = [])] : oNe [.lst (xs.map enc), .lst []] = some (.bl (!decide (xs = []))) := by rw [oNe_two, ed_nilL, dec_any]; rfl
theorem ed_un (x : α) : un (enc x) = some (enc x) := by
  have := h.td x
  cases e : enc x <;> first | rfl | (rw [e] at this; simp only [D.tdat] at this; cases this)
theorem ed_cl {n : Nat} (xs : List α) : cl (n + 1) (.lst (xs.map enc)) = true := cl_map h.td
theorem ed_up (xs : List α) : up (.lst (xs.map enc)) = .lst ((xs.map enc).map W.sh) := up_map h.td
end
instance edN : Ed pD where
  py := encP
  pyE := fun x => rfl
  lay := fun x => by simp [encP, PyData.canLay0, PyData.canLayAll0]
  dep := fun x => by simp [encP, PyData.depth, PyData.depthAll]
  eqv := fun x y => (encPair.eq x y)
  td := fun x => rfl
  fl := fun x => rfl
  ns := fun x s h => by cases h
theorem sort_nodes (ps : List (Nat × Nat)) [hs : Sm ps] : oSortX (ps.map pD) = some ((srt leP ps).map pD) := oSortX_pairs hs.le
theorem str_in (x : Str) (xs : List Str) : pIn [.str x, .lst (xs.map D.str)] = some (.bl (decide (x ∈ xs))) := by
  have := insF_str x xs
  rw [sD] at this
  simp only [pIn, por, oInS, oInF, D.items, this]
theorem str_inT (x : Str) (xs : List Str) : pIn [.str x, .tup (xs.map D.str)] = some (.bl (decide (x ∈ xs))) := by
  have := insF_str x xs
  rw [sD] at this
  simp only [pIn, por, oInS, oInF, D.items, this]
theorem str_nin (x : Str) (xs : List Str) : pNotIn [.str x, .lst (xs.map D.str)] = some (.bl (!decide (x ∈ xs))) := by
  have := insF_str x xs
  rw [sD] at this
  simp only [pNotIn, por, oNotInS, oNotInF, D.items, this]
theorem str_ninT (x : Str) (xs : List Str) : pNotIn [.str x, .tup (xs.map D.str)] = some (.bl (!decide (x ∈ xs))) := by
  have := insF_str x xs
  rw [sD] at this
  simp only [pNotIn, por, oNotInS, oNotInF, D.items, this]
theorem int_eq (i j : Int) : oEq [.int i, .int j] = some (.bl (decide (i = j))) := by rw [oEq_two, eqII]; rfl
theorem int_ne (i j : Int) : oNe [.int i, .int j] = some (.bl (!decide (i = j))) := by rw [oNe_two, eqII]; rfl
theorem bl_eq (a b : Bool) : oEq [.bl a, .bl b] = some (.bl (decide (a = b))) := by
  rw [oEq_two, show eqD (.bl a) (.bl b) = some (decide (a = b)) by cases a <;> cases b <;> decide +kernel]; rfl
theorem ret_pe {n : Nat} {f : FE} [Ow n f] {en en' : En} {d : D} {w : W} {fix : List Nat} (e : P f (en.map W.d) = some d) (hc : cl n d = true) (he : en = en') (hw : up d = w) : sRet fix (fPure f) en = some (en', .ret w) := by
  rw [ret_p e hc, he, hw]
theorem un_of {d : D} (h : d ≠ .any) : un d = some d := by cases d <;> first | rfl | exact absurd rfl h
theorem un_T (t : Tr) : un t.D = some t.D := un_of t.D_ne
theorem fn_p {n np : Nat} {fix : List Nat} {b : FS} {ws ws' : List W} {en' : En} {w : W} (hl : ws.length = np) (h : b (ws ++ List.replicate (n - np) (.sh .any)) = some (en', .ret w)) (ho : outs fix 0 np en' = ws') : fnP n np fix b ws = some (w, ws') := by
  rw [← ho]
  exact fnP_ret hl h
theorem un_int {i : Int} : un (.int i) = some (.int i) := rfl
theorem un_bl {b : Bool} : un (.bl b) = some (.bl b) := rfl
theorem un_non : un .non = some .non := rfl
theorem un_str {s : Str} : un (.str s) = some (.str s) := rfl
theorem un_tup {ds : List D} : un (.tup ds) = some (.tup ds) := rfl
theorem un_lst {ds : List D} : un (.lst ds) = some (.lst ds) := rfl
theorem un_frl {ds : List D} : un (.frl ds) = some (.frl ds) := rfl
theorem un_lT {ks : List (List Key)} {ds : List D} : un (.lT ks ds) = some (.lT ks ds) := rfl
theorem un_ins {c : Str} {ds : List D} : un (.ins c ds) = some (.ins c ds) := rfl
def enL {α : Type} : Nat → List α → List (Nat × α)
  | _, [] => []
  | k, x :: xs => (k, x) :: enL (k + 1) xs
theorem p_and {a b : Bool} : (if a = true then some b else some false) = some (a && b) := by cases a <;> rfl
theorem p_or {a b : Bool} : (if a = true then some true else some b) = some (a || b) := by cases a <;> rfl
theorem truth_bl {b : Bool} : truthD (.bl b) = some b := rfl
theorem line62 {n : Nat} (s1 : (-4611686018427387904 : Int) ≤ n) (s2 : (n : Int) < 4611686018427387904) : (-(2 ^ 62) ≤ (n : Int) ∧ (n : Int) < 2 ^ 62) := by
  simp [s1, s2]
def isUrn (u : W) : Prop := ∃ a b t : Int, u = .lst [.sh (.int a), .sh (.int b), .sh (.int t)]
theorem call_u {g : PF} {fs : List FE} {u u' w : W} {en ws ws' : List W} (hu : isUrn u) (hfs : evs fs (u :: en) = some (u :: en, ws.map R.val)) (e : g (u :: ws) = some (w, u' :: ws')) (hl : ws'.length = ws.length) : fCall g (fVar 0 :: fs) (u :: en) = some (u' :: en, .val w) := by
  obtain ⟨a, b, t, rfl⟩ := hu
  have h1 : fVar 0 (.lst [.sh (.int a), .sh (.int b), .sh (.int t)] :: en) = some (.lst [.sh (.int a), .sh (.int b), .sh (.int t)] :: en, .pl 0 []) := rfl
  have h2 : argsOf (.lst [.sh (.int a), .sh (.int b), .sh (.int t)] :: en) (.pl 0 [] :: ws.map R.val) = some (.sh .any :: en, .lst [.sh (.int a), .sh (.int b), .sh (.int t)] :: ws, some 0 :: ws.map fun _ => none) := by
    simp only [argsOf, List.getElem?_cons_zero, List.set_cons_zero, argsOf_val]
  unfold fCall
  simp only [evs, h1, R_st_pl, hfs, h2, e, List.length_cons, hl, if_true, putB, List.set_cons_zero, putB_none]
theorem compQ_onA {α β : Type} {E : α → Option β} {o : α → β} {xs : List α} (hl : xs.length ≤ 1000000) (h : ∀ x ∈ xs, E x = some (o x)) : compQ (fun _ => some true) E xs 0 = some (xs.map o) := by
  have := compQ_on (T := fun _ => some true) (E := E) (p := fun _ => true) (o := o) (xs := xs) (n := 0) (by omega) (fun _ _ => rfl) fun x hx _ => h x hx
  rwa [show xs.filter (fun _ => true) = xs from List.filter_eq_self.mpr fun _ _ => rfl] at this
theorem asg_pt {n : Nat} {f : FE} [Ow n f] {i : Nat} {en : En} {d : D} {rest : FS} {r : Option (En × Fl)} (e : P f (en.map W.d) = some d) (ht : d.tdat = true) (hi : i < en.length) (h : rest (en.set i (.sh d)) = r) : sSeq (sAsg (fPure f) (gN i)) rest en = r :=
  asg_p e (cl_tdat ht) hi (by rw [up_tdat ht]; exact h)
theorem ret_pt {n : Nat} {f : FE} [Ow n f] {en : En} {d : D} {fix : List Nat} (e : P f (en.map W.d) = some d) (ht : d.tdat = true) : sRet fix (fPure f) en = some (en, .ret (.sh d)) := ret_pe e (cl_tdat ht) rfl (up_tdat ht)
theorem tdats_mem : ∀ {ds : List D}, D.tdats ds = true → ∀ d ∈ ds, d.tdat = true
  | [], _, d, hd => by cases hd
  | y :: ys, h, d, hd => by
    simp only [D.tdats, Bool.and_eq_true] at h
    rcases List.mem_cons.mp hd with rfl | hd
    · exact h.1
    · exact tdats_mem h.2 d hd
def okN (s : List Str) : Prop := s.length ≤ 1000 ∧ ∀ x ∈ s, PyData.strOk x = true
class Cln (f : FE) : Prop where
  ok : ∀ {ρ w}, Pw f ρ = some w → w.clean = true
instance {g : PF} {fs : List FE} [FzLs fs] : Cln (fCallP g fs) := ⟨fun {ρ w} e => by
  obtain ⟨o, h1, _, h3⟩ := fCallP_fz (g := g) (fs := fs) ρ
  rw [Pw_of h1] at e
  exact h3 w e⟩
theorem clean_mem {w : W} : ∀ {ws : List W}, W.cleans ws = true → w ∈ ws → w.clean = true
  | [], _, z => by cases z
  | x :: xs, h, z => by
    simp only [W.cleans, Bool.and_eq_true] at h
    rcases List.mem_cons.mp z with rfl | z
    · exact h.1
    · exact clean_mem h.2 z
theorem clean_at {ws : List W} {k : Int} {w : W} (h : W.cleans ws = true) (e : atI ws k = some w) : w.clean = true := by
  unfold atI at e
  rw [Option.bind_eq_some_iff] at e
  obtain ⟨j, _, e⟩ := e
  exact clean_mem h (List.mem_of_getElem? e)
theorem tdat_ix {d x : D} {k : Int} (h : d.tdat = true) (e : oIxD d k = some x) : x.tdat = true := by
  cases d with
  | tup ds =>
    simp only [D.tdat] at h
    simp only [oIxD, atI] at e
    rw [Option.bind_eq_some_iff] at e
    obtain ⟨j, _, e⟩ := e
    exact tdats_mem h x (List.mem_of_getElem? e)
  | str z =>
    simp only [oIxD] at e
    split at e
    · split at e
      · cases e; rfl
      · cases e
    · cases e
  | lst ds => simp [D.tdat] at h
  | frl ds => simp [D.tdat] at h
  | _ => cases e
instance {fa fb : FE} [Fz fa] [Fz fb] [h : Cln fa] : Ow 60 (fIx fa fb) := ⟨fun {ρ w} e _ => by
  unfold Pw at e
  simp only [fIx, fN, evs, Fz.eq fa ρ] at e
  cases e1 : Pw fa ρ with
  | none => simp [e1] at e
  | some w1 =>
    simp only [e1, Option.map_some, R_st_val, Fz.eq fb ρ] at e
    cases e2 : Pw fb ρ with
    | none => simp [e2] at e
    | some w2 =>
      simp only [e2, Option.map_some, R_st_val, gIx, R.d] at e
      have c1 := h.ok e1
      cases k2 : w2.d with
      | int k =>
        simp only [k2] at e
        cases w1 with
        | sh d =>
          cases k3 : oIxD d k with
          | none => simp [k3] at e
          | some x =>
            simp only [k3, Option.some.injEq] at e
            subst e
            simp only [W.clean] at c1 ⊢
            exact tdat_ix c1 k3
        | lst ws =>
          cases k3 : atI ws k with
          | none => simp [k3] at e
          | some x =>
            simp only [k3, Option.some.injEq] at e
            subst e
            simp only [W.clean] at c1
            exact clean_at c1 k3
        | _ => simp at e
      | _ => simp [k2] at e⟩
end Pu
namespace Pu
open PySem L2
local instance noTab_b : TabN := noTab
local macro_rules
  | `(tactic| simp! only [$ts,*]) => `(tactic| simp -implicitDefEqProofs only [$ts,*, P_fCnt, P_fCkD, P_fMinK, P_fMaxK, P_three, PI_iItems, P_fC, P_fVar, P_two, P_one, P_fSub, P_fMul, P_fDiv, P_fMod, P_fPow, P_fAdd, P_fIx, P_fNeg, P_fTup, P_fLst, PL_nil, PL_cons, P_fLen, P_fAbs, P_fInt, P_fAll, P_fAny, P_fSum, P_fList, P_fTuple, P_fSorted, P_fSortX, P_fListT, P_fIsi, P_fNotV, P_fMin1, P_fMax1, P_fMinX, P_fMaxX, P_fLenSet, P_fSortSet, P_fSortSN, P_fRevL, P_fRevT, pRevT_tup, pCall_gdf, pLtX_int, pLtX_str, P_fMulL, P_fListRg, P_fTupRg, P_fListRg2, P_fTupRg2, P_fNextIt, pNextIt_lst, P_fStepL, P_fConstIx, P_fSl2, P_fIf, P_fOrV, P_fAndV, PT_fTb, PT_fTr, PT_fNotT, PT_fAndT, PT_fOrT, PT_yes, PT_pure, P_fCallP, P_fCallKP, P_fMethP, P_fCk, P_fChain, P_fFld, P_fCall, P_fMake, P_fComp, P_fC2, P_fCN, P_fSortK, cNQ, lW_d, PI_iSeq, PI_iRange1, PI_iRange2, PI_iRange3, PI_iEnumA, PI_iZipL, PI_iZipM, PI_iKeys, P_fU, P_fLstS, P_fTupS, PSt, P_fIdx, qV_fz, qC_fz, PG_gN, PGs_nil, PGs_cons, PG_tup, PG_lst, wipeD, compQ_map, compQ_nil, compQ_some, compQ_all, pTup_le, pLst_le, un_int, un_bl, un_non, un_str, un_tup, un_lst, un_frl, un_lT, un_ins, un_T, dbl, dint, pAdd_int, pAdd_lst, pAdd_tup, pIx_tup, pIx_lst, pIx_frl, pLt_int, oSub_int, oLe_int, oLt_int, oGt_int, oGe_int, oMax_int, oMin_int, oAll_map, oAny_map, oLen_lst, oLen_tup, pTuple_lst, pTuple_tup, pList_lst, pList_tup, walk_lst, walk_tup, sortX_lst, sortX_tup, sortX_lT, at_0, at_1, at_2, at_3, at_4, W.d, W.ds, pick, pFld, D.dTq, bl_eq, int_eq, int_ne, dsh_ds, sh_ds, fz_d, Option.bind_some, Option.map_some, Option.bind_none, Option.map_none, List.getElem?_cons_zero, List.getElem?_cons_succ, List.getElem?_nil, List.set_cons_zero, List.set_cons_succ, List.length_cons, List.length_nil, List.map_cons, List.map_nil, List.all_cons, List.all_nil, List.length_set, List.filterMap_cons, List.filterMap_nil, List.length_map, Nat.reduceAdd, Nat.reduceLT, Nat.reduceLeDiff, decide_true, decide_false, Bool.and_true, Bool.true_and, Bool.and_self, Bool.false_eq_true, if_true, if_false, reduceIte, Nat.zero_lt_succ, and_self, Nat.lt_add_left_iff_pos, Bool.not_true, Bool.not_false, Int.reduceLE, Int.reduceLT, List.cons_append, List.nil_append, List.replicate_succ, List.replicate_zero, Nat.reduceSub, truth_bl, up_d, p_and, p_or, ed_un, ed_oEq, ed_oNe, ed_in, ed_nin, ed_oEqL, ed_oNeL, ed_oEq0, ed_oNe0, str_in, str_inT, str_nin, str_ninT, P_fSortD, P_fDictZip])
local macro_rules
  | `(tactic| simp! [$ts,*]) => `(tactic| simp [$ts,*, fnP, sSeq, sIf, sAsg, sExpr, sRet, sRetN, sNil, sFor, sPar, sAug, sBk, sCt, gN, gsNil, gsCons, gTupT, gSetI, fC, fVar_eq, vW_sh, vW_lst, vW_ins, vW_dT, evs, fN, fU, gS, gS1, rds, rfz, rtk, R_d_val, R_d_pl, R.fz, R.tk, R_st_val, R_st_pl, R_st_plc, R.out, W.d, W.ds, En.get, En.put, W.get, W.put, oII, tt2, okMul, okDiv, okMod, okPow, oAddI, oSub, oMul, oDiv, oMod, oPow, oLtI, oLeI, oGtI, oGeI, oMax2, oMin2, oNeg, oAddS, oLtS, fAdd, fSub, fMul, fDiv, fMod, fPow, fNeg, fIx, gOr, gAdd, gAddI, fTb, fTr, truthD, fNotT, fAndT, fOrT, fNotV, fAndV, fOrV, fIf, fTup, fLst, gTupD, gLstD, fInt, oInt, fAbs, oAbs, fLen, oLen, fCall, argsOf, putB, outs, gIx, oIxD, gLt, tYesE, fIsi, oNotV, okV, wipeE, restE, W.isSh, W.owned, fMutN, mApp, R.els, D.its, iRange1, iRange2, iSeq, iEnumA, D.walk, fTuple, gTuple, fList, gList, fSorted, gSort, fMutP, qV, qC, slOf, gSl0, gSlLo, gSlHi, gSl2, fSl2, gCatL, gCatT, els2, fPure, fPureT, frzE, fMin1, fMax1, gMM, fIdx, evS, fLstS, fTupS, oIsB, oNotB, List.map_cons, List.map_nil, fCallP, fCallKP, fMethP, W.clean, W.cleans, D.tdat, D.tdats, size_ok, size_ok1, List.getElem?_cons_zero, List.getElem?_cons_succ, List.getElem?_nil, List.set_cons_zero, List.set_cons_succ, List.length_cons, List.length_nil, List.replicate_succ, List.replicate_zero, List.cons_append, List.nil_append, List.append_nil, tdats_sD, cleans_sW, Tr.tdat, dsh_ds, shs_sh, at_0, at_1, at_2, at_3, at_4])
local macro_rules
  | `(tactic| simp_arith [$ts,*]) => `(tactic| simp -implicitDefEqProofs [$ts,*, fnP, sSeq, sIf, sAsg, sExpr, sRet, sRetN, sNil, sFor, sPar, sAug, sBk, sCt, gN, gsNil, gsCons, gTupT, gSetI, fC, fVar_eq, vW_sh, vW_lst, vW_ins, vW_dT, evs, fN, fU, gS, gS1, rds, rfz, rtk, R_d_val, R_d_pl, R.fz, R.tk, R_st_val, R_st_pl, R_st_plc, R.out, W.d, W.ds, En.get, En.put, W.get, W.put, oII, tt2, okMul, okDiv, okMod, okPow, oAddI, oSub, oMul, oDiv, oMod, oPow, oLtI, oLeI, oGtI, oGeI, oMax2, oMin2, oNeg, oAddS, oLtS, fAdd, fSub, fMul, fDiv, fMod, fPow, fNeg, fIx, gOr, gAdd, gAddI, fTb, fTr, truthD, fNotT, fAndT, fOrT, fNotV, fAndV, fOrV, fIf, fTup, fLst, gTupD, gLstD, fInt, oInt, fAbs, oAbs, fLen, oLen, fCall, argsOf, putB, outs, gIx, oIxD, gLt, tYesE, fIsi, oNotV, okV, wipeE, restE, W.isSh, W.owned, fMutN, mApp, R.els, D.its, iRange1, iRange2, iSeq, iEnumA, D.walk, fTuple, gTuple, fList, gList, fSorted, gSort, fMutP, qV, qC, slOf, gSl0, gSlLo, gSlHi, gSl2, fSl2, gCatL, gCatT, els2, fPure, fPureT, frzE, fMin1, fMax1, gMM, fIdx, evS, fLstS, fTupS, oIsB, oNotB, List.map_cons, List.map_nil, fCallP, fCallKP, fMethP, W.clean, W.cleans, D.tdat, D.tdats, size_ok, size_ok1, List.getElem?_cons_zero, List.getElem?_cons_succ, List.getElem?_nil, List.set_cons_zero, List.set_cons_succ, List.length_cons, List.length_nil, List.replicate_succ, List.replicate_zero, List.cons_append, List.nil_append, List.append_nil, tdats_sD, cleans_sW, Tr.tdat, dsh_ds, shs_sh, at_0, at_1, at_2, at_3, at_4])
local macro_rules
  | `(tactic| simp_arith! [$ts,*]) => `(tactic| simp [$ts,*, fnP, sSeq, sIf, sAsg, sExpr, sRet, sRetN, sNil, sFor, sPar, sAug, sBk, sCt, gN, gsNil, gsCons, gTupT, gSetI, fC, fVar_eq, vW_sh, vW_lst, vW_ins, vW_dT, evs, fN, fU, gS, gS1, rds, rfz, rtk, R_d_val, R_d_pl, R.fz, R.tk, R_st_val, R_st_pl, R_st_plc, R.out, W.d, W.ds, En.get, En.put, W.get, W.put, oII, tt2, okMul, okDiv, okMod, okPow, oAddI, oSub, oMul, oDiv, oMod, oPow, oLtI, oLeI, oGtI, oGeI, oMax2, oMin2, oNeg, oAddS, oLtS, fAdd, fSub, fMul, fDiv, fMod, fPow, fNeg, fIx, gOr, gAdd, gAddI, fTb, fTr, truthD, fNotT, fAndT, fOrT, fNotV, fAndV, fOrV, fIf, fTup, fLst, gTupD, gLstD, fInt, oInt, fAbs, oAbs, fLen, oLen, fCall, argsOf, putB, outs, gIx, oIxD, gLt, tYesE, fIsi, oNotV, okV, wipeE, restE, W.isSh, W.owned, fMutN, mApp, R.els, D.its, iRange1, iRange2, iSeq, iEnumA, D.walk, fTuple, gTuple, fList, gList, fSorted, gSort, fMutP, qV, qC, slOf, gSl0, gSlLo, gSlHi, gSl2, fSl2, gCatL, gCatT, els2, fPure, fPureT, frzE, fMin1, fMax1, gMM, fIdx, evS, fLstS, fTupS, oIsB, oNotB, List.map_cons, List.map_nil, fCallP, fCallKP, fMethP, W.clean, W.cleans, D.tdat, D.tdats, size_ok, size_ok1, List.getElem?_cons_zero, List.getElem?_cons_succ, List.getElem?_nil, List.set_cons_zero, List.set_cons_succ, List.length_cons, List.length_nil, List.replicate_succ, List.replicate_zero, List.cons_append, List.nil_append, List.append_nil])
local macro_rules
  | `(tactic| simp_all! [$ts,*]) => `(tactic| simp [$ts,*, fnP, sSeq, sIf, sAsg, sExpr, sRet, sRetN, sNil, sFor, sPar, sAug, sBk, sCt, gN, gsNil, gsCons, gTupT, gSetI, fC, fVar_eq, vW_sh, vW_lst, vW_ins, vW_dT, evs, fN, fU, gS, gS1, rds, rfz, rtk, R_d_val, R_d_pl, R.fz, R.tk, R_st_val, R_st_pl, R_st_plc, R.out, W.d, W.ds, En.get, En.put, W.get, W.put, oII, tt2, okMul, okDiv, okMod, okPow, oAddI, oSub, oMul, oDiv, oMod, oPow, oLtI, oLeI, oGtI, oGeI, oMax2, oMin2, oNeg, oAddS, oLtS, fAdd, fSub, fMul, fDiv, fMod, fPow, fNeg, fIx, gOr, gAdd, gAddI, fTb, fTr, truthD, fNotT, fAndT, fOrT, fNotV, fAndV, fOrV, fIf, fTup, fLst, gTupD, gLstD, fInt, oInt, fAbs, oAbs, fLen, oLen, fCall, argsOf, putB, outs, gIx, oIxD, gLt, tYesE, fIsi, oNotV, okV, wipeE, restE, W.isSh, W.owned, fMutN, mApp, R.els, D.its, iRange1, iRange2, iSeq, iEnumA, D.walk, fTuple, gTuple, fList, gList, fSorted, gSort, fMutP, qV, qC, slOf, gSl0, gSlLo, gSlHi, gSl2, fSl2, gCatL, gCatT, els2, fPure, fPureT, frzE, fMin1, fMax1, gMM, fIdx, evS, fLstS, fTupS, oIsB, oNotB, List.map_cons, List.map_nil, fCallP, fCallKP, fMethP, W.clean, W.cleans, D.tdat, D.tdats, size_ok, size_ok1, List.getElem?_cons_zero, List.getElem?_cons_succ, List.getElem?_nil, List.set_cons_zero, List.set_cons_succ, List.length_cons, List.length_nil, List.replicate_succ, List.replicate_zero, List.cons_append, List.nil_append, List.append_nil, tdats_sD, cleans_sW, Tr.tdat])
def Urn (c : Nat) (u : W) : Prop := ∃ a b t : Int, u = .lst [.sh (.int a), .sh (.int b), .sh (.int t)] ∧ 0 ≤ a ∧ 0 ≤ b ∧ 0 ≤ t ∧ t ≤ c
def drawn (b t low : Int) : Int :=
  (((((b + 48271 * t) * (39373 + t) % 2147483647 + t + b / 1000003) * ((b + 48271 * t) * (39373 + t) % 2147483647 % 40009 + 7)) % 2147483629 * 48271 + (b + 48271 * t) * (39373 + t) % 2147483647) % 2147483587 / 64) % low
theorem take_ok {c : Nat} {u : W} {low : Int} (h : Urn c u) (hc : c < 1000000) (h0 : 0 < low) (h1 : low < 1000000) : ∃ u' r, m_law_take [u, .sh (.int low)] = some (.sh (.int r), [u', .sh (.int low)]) ∧ Urn (c + 1) u' ∧ 0 ≤ r ∧ r < low := by
  obtain ⟨a, b, t, rfl, ha, hb, ht, htc⟩ := h
  by_cases h2 : 0 < a
  · refine ⟨.lst [.sh (.int (a / low)), .sh (.int b), .sh (.int t)], a % low, ?_, ⟨a / low, b, t, rfl, Int.ediv_nonneg ha (by omega), hb, ht, by omega⟩, Int.emod_nonneg _ (by omega), Int.emod_lt_of_pos _ h0⟩
    have h3 : low < 1073741824 := by omega
    simp_arith! [m_law_take, b_law_take, ixN, h0, h2, h3]
  · have ha0 : a = 0 := by omega
    subst ha0
    refine ⟨.lst [.sh (.int 0), .sh (.int b), .sh (.int (t + 1))], drawn b (t + 1) low, ?_, ⟨0, b, t + 1, rfl, by omega, hb, by omega, by omega⟩, Int.emod_nonneg _ (by omega), Int.emod_lt_of_pos _ h0⟩
    have h3 : -18446744073709551616 < 39373 + (t + 1) := by omega
    have h4 : 39373 + (t + 1) < 18446744073709551616 := by omega
    have h5 : -18446744073709551616 < (b + 48271 * (t + 1)) * (39373 + (t + 1)) % 2147483647 % 40009 + 7 := by omega
    have h6 : (b + 48271 * (t + 1)) * (39373 + (t + 1)) % 2147483647 % 40009 + 7 < 18446744073709551616 := by omega
    simp_arith! [m_law_take, b_law_take, drawn, ixN, h0, h2, h3, h4, h5, h6]
theorem Urn.mono {c c' : Nat} {u : W} (h : Urn c u) (l : c ≤ c') : Urn c' u := by
  obtain ⟨a, b, t, rfl, h1, h2, h3, h4⟩ := h
  exact ⟨a, b, t, rfl, h1, h2, h3, by omega⟩
/-- the names that are drawn from -/
def pool16 : List Str := ["a", "ab", "b", "c", "cc", "d", "e", "f", "g", "key", "m", "n", "x", "y", "z", "zzzzzzzz"]
theorem words_loop : ∀ (ds : List D) (c : Nat) (u x2 : W) (m : Int) (pool found : List Str), Urn c u → c + ds.length ≤ 1000000 → ds.length ≤ pool.length → pool.length ≤ 1000 → found.length + ds.length ≤ 1000 → (∀ d ∈ ds, d ≠ D.any) → (pool ++ found).Nodup →
    ∃ u' x2' pool' found', forD (gN 2) l_law_words_1 ds [u, .sh (.int m), x2, .lst (sW pool), .lst (sW found)] = some ([u', .sh (.int m), x2', .lst (sW pool'), .lst (sW found')], .nx) ∧ Urn (c + ds.length) u' ∧
      found'.length = found.length + ds.length ∧ (pool' ++ found').Nodup ∧ (∀ x ∈ pool' ++ found', x ∈ pool ++ found)
  | [], c, u, x2, m, pool, found, h, _, _, _, _, _, nd => ⟨u, x2, pool, found, by simp [forD], by simpa using h, by simp, nd, fun _ h => h⟩
  | d :: ds, c, u, x2, m, pool, found, h, hc, hp, hp2, hf, ha, nd => by
    simp only [List.length_cons] at hc hp hf
    obtain ⟨u', r, e, hu', r0, r1⟩ := take_ok (low := (pool.length : Int)) h (by omega) (by omega) (by omega)
    obtain ⟨a, b, t, rfl, _⟩ := id h
    have hk : r.toNat < pool.length := by omega
    have hd : d ≠ .any := ha d (by simp)
    have hnd : (pool.eraseIdx r.toNat ++ (found ++ [pool[r.toNat]])).Nodup := by
      have p1 : (pool.eraseIdx r.toNat ++ (found ++ [pool[r.toNat]])).Perm (pool ++ found) := by
        refine List.Perm.trans ?_ ((erase_perm pool r.toNat hk).append_right found)
        rw [← List.append_assoc]
        exact List.perm_append_comm
      exact p1.nodup_iff.mpr nd
    obtain ⟨u2, x3, p2, f2, e2, hu2, l2, nd2, sub2⟩ := words_loop ds (c + 1) u' (.sh d) m (pool.eraseIdx r.toNat) (found ++ [pool[r.toNat]]) hu' (by omega) (by rw [List.length_eraseIdx]; split <;> omega) (by rw [List.length_eraseIdx]; split <;> omega) (by simp; omega) (fun x hx => ha x (by simp [hx])) hnd
    refine ⟨u2, x3, p2, f2, ?_, by rw [show c + (d :: ds).length = c + 1 + ds.length by simp only [List.length_cons]; omega]; exact hu2, by rw [l2]; simp; omega, nd2, fun x hx => ?_⟩
    · rw [← e2]
      have s1 : -9223372036854775808 ≤ r := by omega
      have s2 : r < 9223372036854775808 := by omega
      have s3 : found.length < sizeLine := size_lt (by omega)
      simp_arith! [forD, l_law_words_1, e, mPopAt, sW_len, sW_ds, sD_len, seqIx r0 r1, sW_get _ _ hk, s1, s2, s3, sW_erase, sW_app]
      simp [sW]
    · have := sub2 x hx
      simp only [List.mem_append, List.mem_singleton] at this ⊢
      rcases this with z | z | z
      · exact .inl (List.mem_of_mem_eraseIdx z)
      · exact .inr z
      · subst z
        exact .inl (List.getElem_mem hk)
theorem pool16_nd : (pool16 ++ []).Nodup := by decide +kernel
theorem pool16_len : pool16.length = 16 := rfl
theorem words_ok {c m : Nat} {u : W} (h : Urn c u) (hc : c + m ≤ 1000000) (hm : m ≤ 16) : ∃ u' xs, m_law_words [u, .sh (.int m)] = some (.lst (sW xs), [u', .sh (.int m)]) ∧ Urn (c + m) u' ∧ xs.length = m ∧ xs.Nodup ∧ ∀ x ∈ xs, x ∈ pool16 := by
  have hl : ((List.range m).map fun (k : Nat) => D.int (k : Int)).length = m := by simp
  obtain ⟨u', x2, p, f, e, hu, l, nd, sub⟩ := words_loop ((List.range m).map fun (k : Nat) => D.int (k : Int)) c u (.sh .any) m pool16 [] h (by rw [hl]; exact hc) (by rw [hl, pool16_len]; exact hm) (by rw [pool16_len]; omega) (by rw [hl]; simp; omega)
    (fun d hd => by
      simp only [List.mem_map] at hd
      obtain ⟨k, _, rfl⟩ := hd
      simp) pool16_nd
  rw [hl] at hu
  rw [hl] at l
  obtain ⟨a, b, t, rfl, _⟩ := id h
  refine ⟨u', f, ?_, hu, by simpa using l, (List.nodup_append.mp nd).2.1, fun x hx => by simpa using sub x (by simp [hx])⟩
  have s1 : (-4611686018427387904 : Int) ≤ m := by omega
  have s2 : (m : Int) < 4611686018427387904 := by omega
  refine fnP_ret (en' := [u', .sh (.int m), x2, .lst (sW p), .sh .any]) rfl (sSeq_nx (en1 := [.lst [.sh (.int a), .sh (.int b), .sh (.int t)], .sh (.int m), .sh .any, .lst (sW pool16), .lst (sW [])]) ?_ (sSeq_nx (sFor_eq ?_ e) ?_))
  · simp_arith! [sW, pool16]
  · simp_arith! [s1, s2]
  · simp_arith! [fnP]
theorem pool16_ok : ∀ x ∈ pool16, PyData.strOk x = true := by decide +kernel
theorem tupled_ok : ∀ {n : Nat} {d : D}, okD n d → m_tupled n [.sh d] = some (.sh (toT n d), [.sh d])
  | 0, d, h => by simp [okD] at h
  | n + 1, d, h => by
    have hd := okD_ne h
    have main : ∀ ds : List D, ds.length ≤ 10000 → (∀ x ∈ ds, okD n x) → ∀ e : D, e ≠ .any → compD [1] (gN 1) tYesE (e_tupled_1 (m_tupled n)) ds [.sh e, .sh .any] [] = some ([.sh e, .sh .any], [] ++ ds.map fun x => .sh (toT n x)) := fun ds hl hx e he => by
      refine compD_map _ ds [] (by simp; omega) (by simp_arith! [fnP]) fun x hm => ?_
      have hx1 := okD_ne (hx x hm)
      refine ⟨[.sh e, .sh x], [.sh e, .sh x], .val (.sh (toT n x)), [.sh e, .sh x], by simp_arith! [fnP], rfl, ?_, rfl, rfl, by simp_arith! [fnP]⟩
      simp_arith! [e_tupled_1, hx1, tupled_ok (hx x hm), okD_tdat (hx x hm)]
    have go : ∀ ds : List D, W.ds (ds.map fun x => W.sh (toT n x)) = ds.map (toT n) := fun ds => by
      induction ds with
      | nil => rfl
      | cons x xs ih => simp only [List.map_cons, W.ds, W.d, ih]
    cases d <;> simp only [okD] at h
    case tup ds =>
      have := main ds h.1 h.2 (.tup ds) (by simp)
      simp_arith! [m_tupled, b_tupled, oIsi, D.tyn, isi1, fComp, this, toT, go]
    case lst ds =>
      have := main ds h.1 h.2 (.lst ds) (by simp)
      simp_arith! [m_tupled, b_tupled, oIsi, D.tyn, isi2, fComp, this, toT, go]
    all_goals simp_arith! [m_tupled, b_tupled, oIsi, D.tyn, isi3, isi4, isi5, isi6, toT]
theorem srtN_eq {l r : List Str} (p : l.Perm r) : srt leN l = srt leN r := srt_uni leN_tot leN_tr leN_an ((srt_perm _ l).trans p) (srt_pw leN_tot leN_tr l)
theorem iRange1_at {f : FE} {en : En} {n : Nat} (e : f en = some (en, .val (.sh (.int (n : Int))))) (h : n ≤ 1000000) : iRange1 f en = some (en, (List.range n).map fun k : Nat => D.int (k : Int)) := by
  have l1 := line62 (n := n) (by omega) (by omega)
  simp only [iRange1, evs, e, List.map_cons, List.map_nil, R_st_val, R.d, W.d]
  rw [if_pos ⟨l1.1, l1.2⟩, Int.toNat_natCast]
theorem oNe_self {d : D} (h : okD 40 d) : oNe [d, d] = some (.bl false) := by rw [oNe_two, eqD_refl h (by omega)]; rfl
theorem shape_ok : ∀ {n c : Nat} {u : W} {row : List Str}, Urn c u → 0 < row.length → row.length < n → row.length ≤ 1000 → c + row.length ≤ 1000000 →
    ∃ u' t, m_law_shape n [u, .lst (sW row)] = some (.sh (Tr.D t), [u', .lst (sW row)]) ∧ Urn (c + (row.length - 1)) u' ∧ t.leaves = row
  | 0, _, _, _, _, _, h, _, _ => by omega
  | n + 1, c, u, row, h, h0, hl, hm, hc => by
    by_cases h1 : row.length = 1
    · obtain ⟨x, rfl⟩ := List.length_eq_one_iff.mp h1
      obtain ⟨a, b, t, rfl, ha, hb, ht, htc⟩ := id h
      refine ⟨.lst [.sh (.int a), .sh (.int b), .sh (.int t)], .leaf x, ?_, ⟨a, b, t, rfl, ha, hb, ht, by simp; omega⟩, rfl⟩
      simp_arith! [m_law_shape, b_law_shape, oEq, eqI, eqD_refl (n := 1) (d := .int 1) (by simp [okD]) (by omega), sW, ixN, Tr.D]
    · have hne : eqD (.int (row.length : Int)) (.int 1) = some false := by
        simp [eqD, D.py, SeqAt.shaped, PyData.canLay0, PyData.depth, PyData.eqv]
        omega
      obtain ⟨u1, r, e1, hu1, r0, r1⟩ := take_ok (low := (row.length : Int) - 1) h (by omega) (by omega) (by omega)
      have k0 : 0 ≤ 1 + r := by omega
      have l1 : (row.take (1 + r).toNat).length = (1 + r).toNat := by rw [List.length_take]; omega
      have l2 : (row.drop (1 + r).toNat).length = row.length - (1 + r).toNat := by rw [List.length_drop]
      obtain ⟨u2, t1, e2, hu2, v1⟩ := shape_ok (n := n) (row := row.take (1 + r).toNat) hu1 (by omega) (by omega) (by omega) (by omega)
      obtain ⟨u3, t2, e3, hu3, v2⟩ := shape_ok (n := n) (row := row.drop (1 + r).toNat) hu2 (by omega) (by omega) (by omega) (by omega)
      obtain ⟨a, b, t, rfl, _⟩ := id h
      obtain ⟨a1, b1, t1', rfl, _⟩ := id hu1
      obtain ⟨a2, b2, t2', rfl, _⟩ := id hu2
      refine ⟨u3, .node t1 t2, ?_, ?_, by rw [Tr.leaves, v1, v2, List.take_append_drop]⟩
      · simp_arith! [m_law_shape, b_law_shape, oEq, hne, sW_ds, sW_len, sD_len, e1, cut_hi _ k0, cut_lo _ k0, sD_take, sD_drop, sD_sh, shs_sW, e2, e3, Tr.D_ne, Tr.D]
      · obtain ⟨a3, b3, t3, rfl, q1, q2, q3, q4⟩ := hu3
        exact ⟨a3, b3, t3, rfl, q1, q2, q3, by omega⟩
def nodeK (a b : Nat) : List Key := [.inl (a : Int), .inl (b : Int)]
def nodeD (a b : Nat) : D := .tup [.int (a : Int), .int (b : Int)]
def Tr.grow : Tr → Nat → List (List Key) × List Pu.D → List (List Key) × List Pu.D
  | .leaf _, s, kd => (putKs kd.1 (nodeK s (s + 1)), putDs kd.1 kd.2 (nodeK s (s + 1)) (.tup []))
  | .node l r, s, kd =>
    let m := s + l.leaves.length
    let e := m + r.leaves.length
    let kd2 := r.grow m (l.grow s kd)
    (putKs kd2.1 (nodeK s e), putDs kd2.1 kd2.2 (nodeK s e) (.tup [nodeD s m, nodeD m e]))
theorem putKs_len {κ : Type} [DecidableEq κ] (ks : List κ) (k : κ) : (putKs ks k).length ≤ ks.length + 1 := by
  unfold putKs
  split <;> simp
theorem Tr.grow_len : ∀ (t : Tr) (s : Nat) (kd : List (List Key) × List Pu.D), (t.grow s kd).1.length + 1 ≤ kd.1.length + 2 * t.leaves.length
  | .leaf _, s, kd => by
    have := putKs_len kd.1 (nodeK s (s + 1))
    simp only [Tr.grow, Tr.leaves, List.length_cons, List.length_nil]
    omega
  | .node l r, s, kd => by
    have h1 := l.grow_len s kd
    have h2 := r.grow_len (s + l.leaves.length) (l.grow s kd)
    have h3 := putKs_len (r.grow (s + l.leaves.length) (l.grow s kd)).1 (nodeK s (s + l.leaves.length + r.leaves.length))
    simp only [Tr.grow, Tr.leaves, List.length_append]
    omega
theorem grown_ok : ∀ {n : Nat} (t : Tr) (bs : List Str) (kd : List (List Key) × List D), t.dep < n → bs.length + t.leaves.length ≤ 1000 → kd.1.length + 2 * t.leaves.length ≤ 10000 →
    m_Tree_grown n [.ins "Tree" [.lst (sW bs), .sh .any, .dT kd.1 kd.2], .sh t.D] =
      some (.sh (nodeD bs.length (bs.length + t.leaves.length)), [.ins "Tree" [.lst (sW (bs ++ t.leaves)), .sh .any, .dT (t.grow bs.length kd).1 (t.grow bs.length kd).2], .sh t.D])
  | 0, _, _, _, h, _, _ => by omega
  | n + 1, .leaf s, bs, kd, h, hb, hk => by
    simp only [Tr.leaves, List.length_cons, List.length_nil] at hb hk
    have h1 : bs.length < sizeLine := size_lt (by omega)
    have h2 : kd.1.length < sizeLine := size_lt (by omega)
    simp_all! [m_Tree_grown, b_Tree_grown, Tr.D, Tr.leaves, Tr.grow, nodeD, nodeK, oIsi, D.tyn, isi7, fFld, fMutP, sDPutP, D.tkey, D.keys, D.key, sW_ds, sD_len, sW_len, sW_app, h1, h2]
    simp [sW]
  | n + 1, .node l r, bs, kd, h, hb, hk => by
    simp only [Tr.dep] at h
    simp only [Tr.leaves, List.length_append] at hb hk
    have g1 := l.grow_len bs.length kd
    have e1 := grown_ok (n := n) l bs kd (by omega) (by omega) (by omega)
    have e2 := grown_ok (n := n) r (bs ++ l.leaves) (l.grow bs.length kd) (by omega) (by simp; omega) (by omega)
    have g2 := r.grow_len (bs.length + l.leaves.length) (l.grow bs.length kd)
    rw [List.length_append] at e2
    have h2 : (r.grow (bs.length + l.leaves.length) (l.grow bs.length kd)).1.length < sizeLine := size_lt (by omega)
    simp_all! [m_Tree_grown, b_Tree_grown, Tr.D, Tr.leaves, Tr.grow, oIsi, D.tyn, isi8, fFld, fMeth, fCk, R.cls, sDPutP, ixN, atI, e1, e2, nodeD, nodeK, D.tkey, D.keys, D.key, h2]
    omega
/-- the nodes from the left, each behind its sides -/
def Tr.prs : Tr → Nat → List (Nat × Nat)
  | .leaf _, s => [(s, s + 1)]
  | .node l r, s => l.prs s ++ (r.prs (s + l.leaves.length) ++ [(s, s + l.leaves.length + r.leaves.length)])
def pK (p : Nat × Nat) : List Key := nodeK p.1 p.2
/-- their sides -/
def Tr.vals : Tr → Nat → List Pu.D
  | .leaf _, _ => [.tup []]
  | .node l r, s => l.vals s ++ (r.vals (s + l.leaves.length) ++ [.tup [pD (s, s + l.leaves.length), pD (s + l.leaves.length, s + l.leaves.length + r.leaves.length)]])
theorem Tr.prs_len : ∀ (t : Tr) (s : Nat), (t.prs s).length + 1 = 2 * t.leaves.length
  | .leaf _, s => rfl
  | .node l r, s => by
    have h1 := l.prs_len s
    have h2 := r.prs_len (s + l.leaves.length)
    simp only [Tr.prs, Tr.leaves, List.length_append, List.length_cons, List.length_nil]
    omega
theorem Tr.prs_mem : ∀ (t : Tr) (s : Nat) (p : Nat × Nat), p ∈ t.prs s → s ≤ p.1 ∧ p.1 < p.2 ∧ p.2 ≤ s + t.leaves.length
  | .leaf _, s, p, h => by
    simp only [Tr.prs, List.mem_singleton] at h
    subst h
    simp [Tr.leaves]
  | .node l r, s, p, h => by
    simp only [Tr.prs, List.mem_append, List.mem_singleton] at h
    have hl := l.pos
    have hr := r.pos
    simp only [Tr.leaves, List.length_append]
    rcases h with h | h | h
    · have := l.prs_mem s p h
      omega
    · have := r.prs_mem _ p h
      omega
    · subst h
      simp only
      omega
theorem nodeK_inj {a b c d : Nat} (h : nodeK a b = nodeK c d) : a = c ∧ b = d := by
  simp only [nodeK, List.cons.injEq, Sum.inl.injEq, Int.ofNat_inj, and_true] at h
  exact h
theorem Tr.grow_eq : ∀ (t : Tr) (s : Nat) (ks : List (List Key)) (ds : List Pu.D), (∀ k ∈ ks, ∃ a b : Nat, k = nodeK a b ∧ b ≤ s) → t.grow s (ks, ds) = (ks ++ (t.prs s).map pK, ds ++ t.vals s)
  | .leaf _, s, ks, ds, h => by
    have hn : nodeK s (s + 1) ∉ ks := fun z => by
      obtain ⟨a, b, e, hb⟩ := h _ z
      obtain ⟨_, rfl⟩ := nodeK_inj e
      omega
    simp only [Tr.grow, putKs, putDs, hn, if_false, Tr.prs, Tr.vals, List.map_cons, List.map_nil, pK]
  | .node l r, s, ks, ds, h => by
    have hl := l.pos
    have hr := r.pos
    have e1 := l.grow_eq s ks ds h
    have h2 : ∀ k ∈ ks ++ (l.prs s).map pK, ∃ a b : Nat, k = nodeK a b ∧ b ≤ s + l.leaves.length := fun k hk => by
      rcases List.mem_append.mp hk with z | z
      · obtain ⟨a, b, e, hb⟩ := h _ z
        exact ⟨a, b, e, by omega⟩
      · obtain ⟨p, hp, rfl⟩ := List.mem_map.mp z
        exact ⟨p.1, p.2, rfl, (l.prs_mem s p hp).2.2⟩
    have e2 := r.grow_eq (s + l.leaves.length) _ (ds ++ l.vals s) h2
    have hn : nodeK s (s + l.leaves.length + r.leaves.length) ∉ ks ++ (l.prs s).map pK ++ (r.prs (s + l.leaves.length)).map pK := fun z => by
      rcases List.mem_append.mp z with z | z
      · obtain ⟨a, b, e, hb⟩ := h2 _ z
        obtain ⟨_, rfl⟩ := nodeK_inj e
        omega
      · obtain ⟨p, hp, e⟩ := List.mem_map.mp z
        obtain ⟨e', _⟩ := nodeK_inj e
        have := (r.prs_mem _ p hp).1
        omega
    simp only [Tr.grow]
    rw [e1, e2]
    unfold putKs putDs
    rw [if_neg hn, if_neg hn]
    simp only [Tr.prs, Tr.vals, List.map_append, List.map_cons, List.map_nil, pK, List.append_assoc, nodeD, pD]
def Tr.obj (t : Tr) : Pu.D := .ins "Tree" [.lst (sD t.leaves), pD (0, t.leaves.length), .dT ((t.prs 0).map pK) (t.vals 0)]
def Tr.objW (t : Tr) : W := .ins "Tree" [.lst (sW t.leaves), .sh (pD (0, t.leaves.length)), .dT ((t.prs 0).map pK) (t.vals 0)]
theorem Tr.objW_d (t : Tr) : t.objW.d = t.obj := by simp only [Tr.objW, Tr.obj, W.d, W.ds, sW_ds]
theorem Tr.cls (t : Tr) (en : En) : R.cls en (.val t.objW) = some "Tree" := rfl
theorem treeT {t : Tr} (h : t.leaves.length ≤ 30) (hok : ∀ x ∈ t.leaves, PyData.strOk x = true) : okT 40 t.D := t.okT hok (by have := t.dep_lt; omega)
/-- g is the tree t, with lists for some of its tuples -/
structure TrG (g : D) (t : Tr) : Prop where
  ok : okD 40 g
  eq : toT 40 g = t.D
  len : t.leaves.length ≤ 30
  str : ∀ x ∈ t.leaves, PyData.strOk x = true
theorem TrG.self {t : Tr} (h : t.leaves.length ≤ 30) (hok : ∀ x ∈ t.leaves, PyData.strOk x = true) : TrG t.D t := ⟨okT_D (treeT h hok), toT_id (treeT h hok), h, hok⟩
theorem TrG.ne {g : D} {t : Tr} (h : TrG g t) : g ≠ .any := okD_ne h.ok
theorem init_ok {g : D} {t : Tr} (h : TrG g t) :
    m_Tree_init [.ins "Tree" [], .sh g] = some (.sh .non, [t.objW, .sh g]) := by
  have td := h.ne
  have tu := tupled_ok h.ok
  rw [h.eq] at tu
  have hl := h.len
  have g := grown_ok (n := 40) t [] ([], []) (by have := t.dep_lt; omega) (by simp; omega) (by simp; omega)
  rw [sW_nil] at g
  simp only [List.length_nil, Nat.zero_add, List.nil_append] at g
  rw [t.grow_eq 0 [] [] (fun k hk => by cases hk)] at g
  simp only [List.nil_append] at g
  simp_all! [m_Tree_init, b_Tree_init, Tr.objW, pD, nodeD, sFld, putW, fNewT, fMeth, fCk, R.cls, td, tu, g]
theorem make_ok {g : D} {t : Tr} (h : TrG g t) {f : FE} {en en1 : En} (e : f en = some (en1, .val (.sh g))) : fMake "Tree" m_Tree_init [f] en = some (en1, .val t.objW) := by
  have i := init_ok h
  have td := h.ne
  simp_all! [fMake, e, i, td]
theorem map_tkeyD (ps : List (Nat × Nat)) : (ps.map pK).map tkeyD = ps.map pD := by
  rw [List.map_map]
  rfl
def Tr.knots (t : Tr) : List (Nat × Nat) := srt leP (t.prs 0)
def pW (ps : List (Nat × Nat)) : List W := (ps.map pD).map W.sh
theorem pW_mk (ps : List (Nat × Nat)) : (ps.map pD).map W.sh = pW ps := rfl
theorem Tr.knots_len (t : Tr) : t.knots.length + 1 = 2 * t.leaves.length := by
  unfold Tr.knots
  rw [(srt_perm leP _).length_eq]
  exact t.prs_len 0
theorem pW_ds (ps : List (Nat × Nat)) : W.ds (pW ps) = ps.map pD := dsh_ds _
theorem cleans_pW (ps : List (Nat × Nat)) : W.cleans (pW ps) = true := cleans_all fun w hw => by
  obtain ⟨x, hx, rfl⟩ := List.mem_map.mp hw
  obtain ⟨y, hy, rfl⟩ := List.mem_map.mp hx
  rfl
theorem pW_app (a b : List (Nat × Nat)) : pW (a ++ b) = pW a ++ pW b := by simp [pW]
theorem pW_one (p : Nat × Nat) : pW [p] = [.sh (pD p)] := rfl
theorem pW_len (a : List (Nat × Nat)) : (pW a).length = a.length := by simp [pW]
theorem shs_pW (ps : List (Nat × Nat)) : shs (pW ps) = pW ps := shs_sh _
theorem tree_boxes_ok (t : Tr) : m_Tree_boxes [.sh t.obj] = some (.sh (.tup (sD t.leaves)), [.sh t.obj]) := by
  simp_all! [m_Tree_boxes, b_Tree_boxes, Tr.obj, fFld]
theorem boxes_in_ok {g : D} {t : Tr} (h : TrG g t) : m_boxes_in [.sh g] = some (.sh (.tup (sD t.leaves)), [.sh g]) := by
  have td := h.ne
  have b := tree_boxes_ok t
  have mk := make_ok h (f := fVar 0) (en := [.sh g]) (en1 := [.sh g]) (by simp_all! [td])
  simp_all! [m_boxes_in, b_boxes_in, fCk, Tr.cls, mk, Tr.objW_d, b]
theorem cells_loop : ∀ (xs : List Int) (n : Nat) (cs : List Int) (w0 x3 x4 x5 : W), n + xs.length ≤ 1000 → cs.length = 3 →
    ∃ cs' y3 y4 y5, forD (gTupT 2 (gsCons (gN 3) (gsCons (gN 4) gsNil))) l_law_cells_1 (enumD n (xs.map D.int)) [w0, .sh (.int 3), .lst (iW cs), x3, x4, x5] = some ([w0, .sh (.int 3), .lst (iW cs'), y3, y4, y5], .nx) ∧ cs'.length = 3
  | [], n, cs, w0, x3, x4, x5, _, h => ⟨cs, x3, x4, x5, by simp [forD, enumD], h⟩
  | x :: xs, n, cs, w0, x3, x4, x5, hn, h => by
    simp only [List.length_cons] at hn
    have k0 : 0 ≤ (n : Int) % 3 := by omega
    have k1 : (n : Int) % 3 < ((iW cs).length : Nat) := by rw [iW_len, h]; omega
    have ix := ixN_in k0 k1
    have hk : ((n : Int) % 3).toNat < cs.length := by omega
    obtain ⟨cs', y3, y4, y5, e, hl⟩ := cells_loop xs (n + 1) (cs.set ((n : Int) % 3).toNat (cs[((n : Int) % 3).toNat] + x * ((n : Int) + 2))) w0 (.sh (.int n)) (.sh (.int x)) (.sh (.int ((n : Int) % 3))) (by omega) (by simpa using h)
    refine ⟨cs', y3, y4, y5, ?_, hl⟩
    have m1 : -18446744073709551616 < (n : Int) + 2 := by omega
    have m2 : (n : Int) + 2 < 18446744073709551616 := by omega
    rw [← e]
    simp_all! [forD, enumD, l_law_cells_1, ix, iW_get _ _ hk, iW_set, m1, m2]
theorem cleans_iW (cs : List Int) : W.cleans (iW cs) = true := cleans_all fun w hw => by
  obtain ⟨x, _, rfl⟩ := List.mem_map.mp hw
  rfl
theorem cells_ok (ns : List Int) (h : ns.length ≤ 63) : ∃ cs, m_law_cells [.sh (.frl (ns.map D.int)), .sh (.int 3)] = some (.lst (iW cs), [.sh (.frl (ns.map D.int)), .sh (.int 3)]) ∧ 0 < cs.length ∧ cs.length ≤ 3 := by
  have c1 : cutG (ns.map D.int) none (some 3) = (ns.take 3).map D.int := by rw [cut_hi _ (by omega)]; simp
  have c2 : cutG (ns.map D.int) (some 3) (some 63) = ((ns.drop 3).take (63 - 3)).map D.int := by have z := cut_2 (ns.map D.int) 3 (by simpa using h) (by omega); rw [show ((3 : Nat) : Int) = (3 : Int) from rfl] at z; rw [z]; simp
  by_cases h0 : ns = []
  · subst h0
    refine ⟨[0], fnP_ret (en' := [.sh (.frl []), .sh (.int 3), .sh .any, .sh .any, .sh .any, .sh .any]) rfl (sSeq_nx (en1 := [.sh (.frl []), .sh (.int 3), .lst (iW [0]), .sh .any, .sh .any, .sh .any]) ?_ (sSeq_nx (en1 := [.sh (.frl []), .sh (.int 3), .lst (iW [0]), .sh .any, .sh .any, .sh .any]) (sFor_eq (en1 := [.sh (.frl []), .sh (.int 3), .lst (iW [0]), .sh .any, .sh .any, .sh .any]) (ds := []) ?_ rfl) ?_)), by simp, by simp⟩
    · simp only [List.map_nil] at c1
      simp_all! [c1, iW]
    · simp only [List.map_nil, List.drop_nil, List.take_nil] at c2
      simp_all! [iEnumA, c2, D.litems, enumD]
    · simp_all! [fnP]
  · have hp : 0 < ns.length := List.length_pos_iff.mpr h0
    have ht : ns.take 3 ≠ [] := by
      cases ns with
      | nil => exact absurd rfl h0
      | cons a as => simp
    have lt : (ns.take 3).length = min 3 ns.length := List.length_take
    have first : sAsg (fOrV (fList (fN gSlHi [(fVar 0), (fVar 1)])) (fLst [(fC (.int 0))])) (gN 2) [.sh (.frl (ns.map D.int)), .sh (.int 3), .sh .any, .sh .any, .sh .any, .sh .any] = some ([.sh (.frl (ns.map D.int)), .sh (.int 3), .lst (iW (ns.take 3)), .sh .any, .sh .any, .sh .any], .nx) := by
      simp_all! [c1, ht, dsh_ds, h0, -List.map_take, -List.map_map]
      simp [iW]
      rfl
    have second : ∃ cs y3 y4 y5, forD (gTupT 2 (gsCons (gN 3) (gsCons (gN 4) gsNil))) l_law_cells_1 (enumD 0 (((ns.drop 3).take (63 - 3)).map D.int)) [.sh (.frl (ns.map D.int)), .sh (.int 3), .lst (iW (ns.take 3)), .sh .any, .sh .any, .sh .any] = some ([.sh (.frl (ns.map D.int)), .sh (.int 3), .lst (iW cs), y3, y4, y5], .nx) ∧ 0 < cs.length ∧ cs.length ≤ 3 := by
      by_cases h3 : ns.length ≤ 3
      · have z : ns.drop 3 = [] := List.drop_eq_nil_of_le h3
        refine ⟨ns.take 3, .sh .any, .sh .any, .sh .any, ?_, by omega, by omega⟩
        rw [z]
        rfl
      · obtain ⟨cs, y3, y4, y5, e, hl⟩ := cells_loop ((ns.drop 3).take (63 - 3)) 0 (ns.take 3) (.sh (.frl (ns.map D.int))) (.sh .any) (.sh .any) (.sh .any) (by rw [List.length_take]; omega) (by omega)
        exact ⟨cs, y3, y4, y5, e, by omega, by omega⟩
    obtain ⟨cs, y3, y4, y5, e, l0, l3⟩ := second
    refine ⟨cs, fnP_ret (en' := [.sh (.frl (ns.map D.int)), .sh (.int 3), .sh .any, y3, y4, y5]) rfl (sSeq_nx (en1 := [.sh (.frl (ns.map D.int)), .sh (.int 3), .lst (iW (ns.take 3)), .sh .any, .sh .any, .sh .any]) first (sSeq_nx (en1 := [.sh (.frl (ns.map D.int)), .sh (.int 3), .lst (iW cs), y3, y4, y5]) (sFor_eq (en1 := [.sh (.frl (ns.map D.int)), .sh (.int 3), .lst (iW (ns.take 3)), .sh .any, .sh .any, .sh .any]) (ds := enumD 0 (((ns.drop 3).take (63 - 3)).map D.int)) ?_ e) ?_)), l0, l3⟩
    · simp_all! [iEnumA, c2, D.litems, -List.map_take, -List.map_drop, dsh_ds]
      rw [← List.map_map, dsh_ds]
    · simp_all! [fnP]
theorem tree_nodes_ok {t : Tr} (h : t.leaves.length ≤ 1000) : m_Tree_nodes [.sh t.obj] = some (.lst (pW t.knots), [.sh t.obj]) := by
  have hl := t.prs_len 0
  have o := oSortX_pairs (ps := t.prs 0) (by omega)
  simp_all! [m_Tree_nodes, b_Tree_nodes, Tr.obj, fFld, fSortX, gSortX, R.dT, map_tkeyD, o, Tr.knots, pW, -List.map_map]
theorem nodes_in_ok {g : D} {t : Tr} (h : TrG g t) : m_nodes_in [.sh g] = some (.lst (pW t.knots), [.sh g]) := by
  have td := h.ne
  have b := tree_nodes_ok (t := t) (by have := h.len; omega)
  have mk := make_ok h (f := fVar 0) (en := [.sh g]) (en1 := [.sh g]) (by simp_all! [td])
  simp_all! [m_nodes_in, b_nodes_in, fCk, Tr.cls, mk, Tr.objW_d, b, cleans_pW]
/-- what spans holds of each node -/
def Tr.lvals : Tr → Nat → List Pu.D
  | .leaf _, _ => [.lst []]
  | .node l r, s => l.lvals s ++ (r.lvals (s + l.leaves.length) ++ [.lst [pD (s, s + l.leaves.length), pD (s + l.leaves.length, s + l.leaves.length + r.leaves.length)]])
theorem pK_inj {p q : Nat × Nat} (h : pK p = pK q) : p = q := by
  obtain ⟨h1, h2⟩ := nodeK_inj h
  exact Prod.ext h1 h2
theorem tkey_pD (p : Nat × Nat) : (pD p).tkey = some (pK p) := rfl
theorem pD_ne (p : Nat × Nat) : pD p ≠ .any := by simp [pD]
-- new
def Tr.mir : Tr → Tr
  | .leaf x => .leaf x
  | .node l r => .node r.mir l.mir
theorem mir_leaves : ∀ t : Tr, t.mir.leaves = t.leaves.reverse
  | .leaf _ => rfl
  | .node l r => by simp only [Tr.mir, Tr.leaves, mir_leaves l, mir_leaves r, List.reverse_append]
theorem mir_len (t : Tr) : t.mir.leaves.length = t.leaves.length := by rw [mir_leaves, List.length_reverse]
theorem mir_mem {t : Tr} {x : Str} : x ∈ t.mir.leaves ↔ x ∈ t.leaves := by rw [mir_leaves, List.mem_reverse]
theorem mir_nd {t : Tr} (h : t.leaves.Nodup) : t.mir.leaves.Nodup := by rw [mir_leaves]; exact (List.reverse_perm _).nodup_iff.mpr h
/-- where a node is parted -/
def Tr.split : Tr → Nat → Nat × Nat → Option Nat
  | .leaf _, _, _ => none
  | .node l r, s, p => if p = (s, s + l.leaves.length + r.leaves.length) then some (s + l.leaves.length) else if p.2 ≤ s + l.leaves.length then l.split s p else r.split (s + l.leaves.length) p
def sideL (o : Option Nat) (p : Nat × Nat) : List (Nat × Nat) := match o with
  | none => []
  | some m => [(p.1, m), (m, p.2)]
def Tr.side (t : Tr) (s : Nat) (p : Nat × Nat) : List (Nat × Nat) := sideL (t.split s p) p
def Tr.valF (f : List Pu.D → Pu.D) : Tr → Nat → List Pu.D
  | .leaf _, _ => [f []]
  | .node l r, s => l.valF f s ++ (r.valF f (s + l.leaves.length) ++ [f [pD (s, s + l.leaves.length), pD (s + l.leaves.length, s + l.leaves.length + r.leaves.length)]])
theorem Tr.valF_len (f : List Pu.D → Pu.D) : ∀ (t : Tr) (s : Nat), (t.valF f s).length = (t.prs s).length
  | .leaf _, s => rfl
  | .node l r, s => by simp only [Tr.valF, Tr.prs, List.length_append, List.length_cons, List.length_nil, l.valF_len f s, r.valF_len]
theorem Tr.vals_F : ∀ (t : Tr) (s : Nat), t.vals s = t.valF .tup s
  | .leaf _, s => rfl
  | .node l r, s => by simp only [Tr.vals, Tr.valF, l.vals_F s, r.vals_F]
theorem look_app {κ : Type} [DecidableEq κ] : ∀ (xs ys : List κ) (ds es : List D) (k : κ), xs.length = ds.length → lookD (xs ++ ys) (ds ++ es) k = if k ∈ xs then lookD xs ds k else lookD ys es k
  | [], ys, [], es, k, _ => by simp
  | x :: xs, ys, d :: ds, es, k, h => by
    have ih := look_app xs ys ds es k (by simpa using h)
    by_cases e : x = k
    · subst e; simp [lookD]
    · have e' : ¬ k = x := fun z => e z.symm
      simp [lookD, e, e', ih]
  | [], _, _ :: _, _, _, h => by simp at h
  | _ :: _, _, [], _, _, h => by simp at h
theorem mem_pK {p : Nat × Nat} {ps : List (Nat × Nat)} : pK p ∈ ps.map pK ↔ p ∈ ps := by
  rw [List.mem_map]
  exact ⟨fun ⟨q, hq, e⟩ => by rw [← pK_inj e]; exact hq, fun h => ⟨p, h, rfl⟩⟩
theorem Tr.look (f : List Pu.D → Pu.D) : ∀ (t : Tr) (s : Nat) (p : Nat × Nat), p ∈ t.prs s → lookD ((t.prs s).map pK) (t.valF f s) (pK p) = some (f ((t.side s p).map pD))
  | .leaf x, s, p, h => by
    simp only [Tr.prs, List.mem_singleton] at h
    subst h
    simp [Tr.prs, Tr.valF, lookD, Tr.side, Tr.split, sideL]
  | .node l r, s, p, h => by
    have hl := l.pos
    have hr := r.pos
    have lenl : ((l.prs s).map pK).length = (l.valF f s).length := by rw [List.length_map, l.valF_len]
    have lenr : ((r.prs (s + l.leaves.length)).map pK).length = (r.valF f (s + l.leaves.length)).length := by rw [List.length_map, r.valF_len]
    simp only [Tr.prs, Tr.valF, List.map_append]
    rw [look_app _ _ _ _ _ lenl, look_app _ _ _ _ _ lenr]
    simp only [mem_pK, Tr.side, Tr.split]
    simp only [Tr.prs, List.mem_append, List.mem_singleton] at h
    by_cases h1 : p ∈ l.prs s
    · have b := l.prs_mem s p h1
      have n1 : p ≠ (s, s + l.leaves.length + r.leaves.length) := fun z => by subst z; simp only at b; omega
      rw [if_pos h1, if_neg n1, if_pos b.2.2, l.look f s p h1]
      rfl
    · rw [if_neg h1]
      by_cases h2 : p ∈ r.prs (s + l.leaves.length)
      · have b := r.prs_mem _ p h2
        have n1 : p ≠ (s, s + l.leaves.length + r.leaves.length) := fun z => by subst z; simp only at b; omega
        have n2 : ¬ p.2 ≤ s + l.leaves.length := by omega
        rw [if_pos h2, if_neg n1, if_neg n2, r.look f _ p h2]
        rfl
      · have e : p = (s, s + l.leaves.length + r.leaves.length) := by
          rcases h with z | z | z
          · exact absurd z h1
          · exact absurd z h2
          · exact z
        rw [if_neg h2, if_pos e]
        subst e
        simp [lookD, sideL]
theorem Tr.head_mem (t : Tr) (s : Nat) : (s, s + t.leaves.length) ∈ t.prs s := by
  cases t with
  | leaf _ => simp [Tr.prs, Tr.leaves]
  | node a b => simp [Tr.prs, Tr.leaves, Nat.add_assoc]
theorem Tr.split_mem : ∀ (t : Tr) (s : Nat) (p : Nat × Nat), p ∈ t.prs s → (t.split s p = none ∧ p.2 = p.1 + 1) ∨ ∃ m, t.split s p = some m ∧ p.1 < m ∧ m < p.2 ∧ (p.1, m) ∈ t.prs s ∧ (m, p.2) ∈ t.prs s
  | .leaf x, s, p, h => by
    simp only [Tr.prs, List.mem_singleton] at h
    subst h
    exact .inl ⟨rfl, rfl⟩
  | .node l r, s, p, h => by
    have hl := l.pos
    have hr := r.pos
    simp only [Tr.prs, List.mem_append, List.mem_singleton] at h ⊢
    simp only [Tr.split]
    rcases h with h | h | h
    · have b := l.prs_mem s p h
      have n1 : p ≠ (s, s + l.leaves.length + r.leaves.length) := fun z => by subst z; simp only at b; omega
      rw [if_neg n1, if_pos b.2.2]
      rcases l.split_mem s p h with z | ⟨m, e, h1, h2, h3, h4⟩
      · exact .inl z
      · exact .inr ⟨m, e, h1, h2, .inl h3, .inl h4⟩
    · have b := r.prs_mem _ p h
      have n1 : p ≠ (s, s + l.leaves.length + r.leaves.length) := fun z => by subst z; simp only at b; omega
      have n2 : ¬ p.2 ≤ s + l.leaves.length := by omega
      rw [if_neg n1, if_neg n2]
      rcases r.split_mem _ p h with z | ⟨m, e, h1, h2, h3, h4⟩
      · exact .inl z
      · exact .inr ⟨m, e, h1, h2, .inr (.inl h3), .inr (.inl h4)⟩
    · subst h
      rw [if_pos rfl]
      refine .inr ⟨_, rfl, by simp only; omega, by simp only; omega, .inl ?_, .inr (.inl ?_)⟩
      · exact l.head_mem s
      · exact r.head_mem _
/-- the names of a node's boxes -/
def Tr.part (t : Tr) (p : Nat × Nat) : List Str := (t.leaves.drop p.1).take (p.2 - p.1)
def Tr.names (t : Tr) (p : Nat × Nat) : List Str := srt leN (t.part p)
theorem cut_ab {α : Type} (xs : List α) {a b : Nat} (h1 : a ≤ b) (h2 : b ≤ xs.length) : cutG xs (some (a : Int)) (some (b : Int)) = (xs.drop a).take (b - a) := by
  have e1 : HT.sIx xs.length 0 (some (a : Int)) = min a xs.length := HT.sIx_nat xs.length 0 a
  have e2 : HT.sIx xs.length xs.length (some (b : Int)) = min b xs.length := HT.sIx_nat xs.length xs.length b
  unfold cutG
  rw [e1, e2, Nat.min_eq_left h2, Nat.min_eq_left (by omega)]
theorem Tr.part_len (t : Tr) {p : Nat × Nat} (h2 : p.2 ≤ t.leaves.length) : (t.part p).length = p.2 - p.1 := by
  unfold Tr.part
  rw [List.length_take, List.length_drop]
  omega
theorem Tr.names_len (t : Tr) {p : Nat × Nat} (h2 : p.2 ≤ t.leaves.length) : (t.names p).length = p.2 - p.1 := by
  unfold Tr.names
  rw [(srt_perm leN _).length_eq, t.part_len h2]
theorem Tr.names_sub (t : Tr) {p : Nat × Nat} {x : Str} (h : x ∈ t.names p) : x ∈ t.leaves := by
  have := (srt_perm leN _).mem_iff.mp h
  exact List.mem_of_mem_drop (List.mem_of_mem_take this)
def dfs (sd : Nat × Nat → List (Nat × Nat)) : Nat → List (Nat × Nat) → List (Nat × Nat) → List (Nat × Nat)
  | 0, f, _ => f
  | n + 1, f, w => match w.getLast? with
    | none => f
    | some h => dfs sd n (f ++ [h]) (w.dropLast ++ sd h)
def wt (p : Nat × Nat) : Nat := 2 * (p.2 - p.1) - 1
def wts (w : List (Nat × Nat)) : Nat := (w.map wt).sum
theorem wts_app (a b : List (Nat × Nat)) : wts (a ++ b) = wts a + wts b := by simp [wts]
theorem wts_nil : wts [] = 0 := rfl
theorem wts_one (p : Nat × Nat) : wts [p] = wt p := by simp [wts]
theorem wt_pos {t : Tr} {p : Nat × Nat} (h : p ∈ t.prs 0) : 0 < wt p := by
  have := t.prs_mem 0 p h
  unfold wt
  omega
theorem wts_side {t : Tr} {p : Nat × Nat} (h : p ∈ t.prs 0) : wts (t.side 0 p) + 1 = wt p ∧ (∀ q ∈ t.side 0 p, q ∈ t.prs 0) ∧ (t.side 0 p).length ≤ 2 := by
  rcases t.split_mem 0 p h with ⟨e, h1⟩ | ⟨m, e, h1, h2, h3, h4⟩
  · simp only [Tr.side, e, sideL, wts_nil, wt]
    exact ⟨by omega, fun q hq => (by cases hq), by simp⟩
  · simp only [Tr.side, e, sideL]
    refine ⟨?_, fun q hq => ?_, by simp⟩
    · simp only [wts, wt, List.map_cons, List.map_nil, List.sum_cons, List.sum_nil]
      omega
    · simp only [List.mem_cons, List.not_mem_nil, or_false] at hq
      rcases hq with rfl | rfl
      · exact h3
      · exact h4
/-- what is below a node, in the order in which a stack finds it -/
def Tr.found (t : Tr) (p : Nat × Nat) : List (Nat × Nat) := dfs (t.side 0) (wt p) [] [p]
def Tr.belows (t : Tr) (p : Nat × Nat) : List (Nat × Nat) := srt leP (t.found p)
theorem dfs_len {sd : Nat × Nat → List (Nat × Nat)} : ∀ (n : Nat) (f w : List (Nat × Nat)), (dfs sd n f w).length ≤ f.length + n
  | 0, f, w => Nat.le_refl _
  | n + 1, f, w => by
    unfold dfs
    split
    · omega
    · have := dfs_len (sd := sd) n (f ++ [‹Nat × Nat›]) (w.dropLast ++ sd ‹Nat × Nat›)
      simp only [List.length_append, List.length_cons, List.length_nil] at this
      omega
theorem Tr.below_len (t : Tr) (p : Nat × Nat) : (t.belows p).length ≤ wt p := by
  unfold Tr.belows Tr.found
  rw [(srt_perm leP _).length_eq]
  simpa using dfs_len (sd := t.side 0) (wt p) [] [p]
theorem wts_zero {t : Tr} : ∀ {w : List (Nat × Nat)}, (∀ q ∈ w, q ∈ t.prs 0) → wts w = 0 → w = []
  | [], _, _ => rfl
  | q :: w, h, e => by
    have := wt_pos (h q (by simp))
    simp only [wts, List.map_cons, List.sum_cons] at e
    omega
theorem vals_look {t : Tr} {p : Nat × Nat} (h : p ∈ t.prs 0) : lookD ((t.prs 0).map pK) (t.vals 0) (pK p) = some (.tup ((t.side 0 p).map pD)) := by
  rw [t.vals_F]
  exact t.look .tup 0 p h
theorem tree_names_ok {t : Tr} {p : Nat × Nat} (h1 : p.1 ≤ p.2) (h2 : p.2 ≤ t.leaves.length) (h : t.leaves.length ≤ 1000) : m_Tree_names [.sh t.obj, .sh (pD p)] = some (.sh (.tup (sD (t.names p))), [.sh t.obj, .sh (pD p)]) := by
  have ct : cutG (sD t.leaves) (some (p.1 : Int)) (some (p.2 : Int)) = sD (t.part p) := by
    rw [cut_ab _ h1 (by rw [sD_len]; exact h2), sD_drop, sD_take]
    rfl
  have os : oSortX (sD (t.part p)) = some (sD (t.names p)) := oSortX_names (by rw [t.part_len h2]; omega)
  simp_all! [m_Tree_names, b_Tree_names, Tr.obj, pD, fFld, fSl2, slOf, sPart, ct, fSortX, gSortX, R.dT, R.els, D.its, ixN, atI, oIxD, os, dsh_ds]
theorem boxes_of_ok {g d : D} {t : Tr} {p : Nat × Nat} (T : TrG g t) (od : okD 40 d) (ed : toT 40 d = pD p) (h1 : p.1 ≤ p.2) (h2 : p.2 ≤ t.leaves.length) : m_boxes_of [.sh g, .sh d] = some (.sh (.tup (sD (t.names p))), [.sh g, .sh d]) := by
  have td := T.ne
  have dd := okD_ne od
  have tu := tupled_ok od
  rw [ed] at tu
  have b := tree_names_ok h1 h2 (by have := T.len; omega)
  have mk := make_ok T (f := fVar 0) (en := [.sh g, .sh d]) (en1 := [.sh g, .sh d]) (by simp_all! [td])
  have pt : (pD p).tdat = true := rfl
  simp_all! [m_boxes_of, b_boxes_of, fCk, Tr.cls, mk, Tr.objW_d, dd, tu, pt, b]
theorem lvals_look {t : Tr} {p : Nat × Nat} (h : p ∈ t.prs 0) : lookD ((t.prs 0).map pK) (t.lvals 0) (pK p) = some (.lst ((t.side 0 p).map pD)) := by
  have : ∀ (t : Tr) (s : Nat), t.lvals s = t.valF .lst s := fun t => by
    induction t with
    | leaf _ => intro s; rfl
    | node l r ihl ihr => intro s; simp only [Tr.lvals, Tr.valF, ihl, ihr]
  rw [this]
  exact t.look .lst 0 p h
theorem okD_pD {n : Nat} (p : Nat × Nat) : okD (n + 2) (pD p) := by
  simp only [pD, okD]
  refine ⟨by simp, fun x hx => ?_⟩
  simp only [List.mem_cons, List.not_mem_nil, or_false] at hx
  rcases hx with rfl | rfl <;> trivial
theorem okD_names {n : Nat} {xs : List Str} (hl : xs.length ≤ 1000) (h : ∀ x ∈ xs, PyData.strOk x = true) (hn : 2 ≤ n) : okD n (.tup (sD xs)) := okT_D (okT_strs h hl hn)
theorem okD_pLs {n : Nat} {ps : List (Nat × Nat)} (h : ps.length ≤ 10000) : okD (n + 3) (.lst (ps.map pD)) := okD_lst (n := n + 2) (by simpa using h) fun x hx => by
  obtain ⟨p, _, rfl⟩ := List.mem_map.mp hx
  exact okD_pD p
theorem below_loop {t : Tr} {x1 : W} : ∀ (n k : Nat) (f w : List (Nat × Nat)) (x4 : W), wts w = n → n ≤ k → (∀ q ∈ w, q ∈ t.prs 0) → f.length + 2 * n ≤ 10000 → w.length + 2 * n ≤ 10000 →
    ∃ y4, whD t_Tree_below_1 l_Tree_below_1 (k + 1) [.sh t.obj, x1, .lst (pW f), .lst (pW w), x4] = some ([.sh t.obj, x1, .lst (pW (dfs (t.side 0) n f w)), .lst [], y4], .nx)
  | 0, k, f, w, x4, hw, _, hm, _, _ => by
    have := wts_zero hm hw
    subst this
    refine ⟨x4, whD_end ?_⟩
    simp_all! [t_Tree_below_1, pW, W.ds, dfs]
  | n + 1, k, f, w, x4, hw, hk, hm, hf, hl => by
    rcases List.eq_nil_or_concat w with rfl | ⟨w', h, rfl⟩
    · simp [wts] at hw
    rw [List.concat_eq_append] at *
    have hh : h ∈ t.prs 0 := hm h (by simp)
    obtain ⟨s1, s2, s3⟩ := wts_side hh
    have look := vals_look hh
    rw [wts_app, wts_one] at hw
    obtain ⟨k', rfl⟩ : ∃ k', k = k' + 1 := ⟨k - 1, by omega⟩
    simp only [List.length_append, List.length_cons, List.length_nil] at hl
    obtain ⟨y4, ih⟩ := below_loop (t := t) (x1 := x1) n k' (f ++ [h]) (w' ++ t.side 0 h) (.sh (pD h)) (by rw [wts_app]; omega) (by omega) (fun q hq => by
      rcases List.mem_append.mp hq with z | z
      · exact hm q (by simp [z])
      · exact s2 q z) (by simp only [List.length_append, List.length_cons, List.length_nil]; omega) (by simp only [List.length_append]; omega)
    have ed : dfs (t.side 0) (n + 1) f (w' ++ [h]) = dfs (t.side 0) n (f ++ [h]) (w' ++ t.side 0 h) := by
      conv => lhs; unfold dfs
      simp
    rw [ed]
    refine ⟨y4, whD_nx (en1 := [.sh t.obj, x1, .lst (pW f), .lst (pW (w' ++ [h])), x4]) (en2 := [.sh t.obj, x1, .lst (pW (f ++ [h])), .lst (pW (w' ++ t.side 0 h)), .sh (pD h)]) ?_ ?_ ih⟩
    · have : 0 < (W.ds (pW (w' ++ [h]))).length := by rw [pW_ds]; simp
      simp_all! [t_Tree_below_1, this]
    · have hs : f.length < sizeLine := size_lt (by omega)
      have hs2 : w'.length + (t.side 0 h).length ≤ sizeLine := size_le (by omega)
      have tk := tkey_pD h
      have pn := pD_ne h
      rw [pW_app, pW_app, pW_app, pW_one]
      unfold l_Tree_below_1 Tr.obj
      generalize (t.prs 0).map pK = ks at look ⊢
      generalize t.vals 0 = ds at look ⊢
      apply sSeq_nx
      · simp_all! [fPop]; rfl
      apply sSeq_nx
      · simp_all! [pn, pW_len, hs]; rfl
      · simp_all! [fFld, gDGet, R.dT, pn, tk, look, mExt2, mExt, mExtT, pW_len, hs2]
        simp [pW]
theorem tree_below_ok {t : Tr} {p : Nat × Nat} (hp : p ∈ t.prs 0) (h : t.leaves.length ≤ 30) : m_Tree_below [.sh t.obj, .sh (pD p)] = some (.lst (pW (t.belows p)), [.sh t.obj, .sh (pD p)]) := by
  have b := t.prs_mem 0 p hp
  have hw : wt p ≤ 60 := by unfold wt; omega
  obtain ⟨y4, lp⟩ := below_loop (t := t) (x1 := .sh (pD p)) (wt p) 399 [] [p] (.sh .any) (by rw [wts_one]) (by omega) (fun q hq => by simp only [List.mem_singleton] at hq; subst hq; exact hp) (by simp; omega) (by simp; omega)
  have fl : (t.found p).length ≤ 60 := by
    have := dfs_len (sd := t.side 0) (wt p) [] [p]
    simp only [List.length_nil, Nat.zero_add] at this
    exact Nat.le_trans this hw
  have os : oSortX ((t.found p).map pD) = some ((t.belows p).map pD) := oSortX_pairs (by omega)
  have pn := pD_ne p
  refine fnP_ret (n := 5) (np := 2) (b := b_Tree_below) rfl (en' := [.sh t.obj, .sh (pD p), .lst (pW (t.found p)), .lst [], y4]) ?_
  have on : t.obj ≠ .any := by simp [Tr.obj]
  unfold b_Tree_below
  apply sSeq_nx
  · simp_all! [pn]; rfl
  apply sSeq_nx
  · exact lp
  · show sRet _ _ [.sh t.obj, .sh (pD p), .lst (pW (t.found p)), .lst [], y4] = _
    simp_all! [fSortX, gSortX, R.dT, R.els, pW_ds, os, pW_mk, shs_pW, -List.map_map]
theorem nodes_below_ok {g d : D} {t : Tr} {p : Nat × Nat} (T : TrG g t) (od : okD 40 d) (ed : toT 40 d = pD p) (hp : p ∈ t.prs 0) : m_nodes_below [.sh g, .sh d] = some (.lst (pW (t.belows p)), [.sh g, .sh d]) := by
  have td := T.ne
  have dd := okD_ne od
  have tu := tupled_ok od
  rw [ed] at tu
  have b := tree_below_ok hp T.len
  have mk := make_ok T (f := fVar 0) (en := [.sh g, .sh d]) (en1 := [.sh g, .sh d]) (by simp_all! [td])
  have pt : (pD p).tdat = true := rfl
  simp_all! [m_nodes_below, b_nodes_below, fCk, Tr.cls, mk, Tr.objW_d, dd, tu, pt, b, cleans_pW]
theorem tree_sides_ok {t : Tr} {p : Nat × Nat} (hp : p ∈ t.prs 0) : m_Tree_sides [.sh t.obj, .sh (pD p)] = some (.sh (.tup ((t.side 0 p).map pD)), [.sh t.obj, .sh (pD p)]) := by
  have look : lookD ((t.prs 0).map pK) (t.vals 0) (pK p) = some (.tup ((t.side 0 p).map pD)) := by
    rw [t.vals_F]
    exact t.look .tup 0 p hp
  have tk := tkey_pD p
  have pn := pD_ne p
  unfold Tr.obj
  generalize (t.prs 0).map pK = ks at look ⊢
  generalize t.vals 0 = ds at look ⊢
  simp_all! [m_Tree_sides, b_Tree_sides, fFld, gDGet, R.dT, pn, tk, look]
def Tr.pairD (t : Tr) (p : Nat × Nat) : Pu.D := if t.side 0 p = [] then .non else .tup ((t.side 0 p).map pD)
theorem sides_of_ok {g d : D} {t : Tr} {p : Nat × Nat} (T : TrG g t) (od : okD 40 d) (ed : toT 40 d = pD p) (hp : p ∈ t.prs 0) : m_sides_of [.sh g, .sh d] = some (.sh (t.pairD p), [.sh g, .sh d]) := by
  have td := T.ne
  have dd := okD_ne od
  have tu := tupled_ok od
  rw [ed] at tu
  have b := tree_sides_ok hp
  have mk := make_ok T (f := fVar 0) (en := [.sh g, .sh d, .sh .any]) (en1 := [.sh g, .sh d, .sh .any]) (by simp_all! [td])
  have pt : (pD p).tdat = true := rfl
  have tt := tdats_pD (t.side 0 p)
  unfold Tr.pairD
  by_cases h : t.side 0 p = []
  · rw [h] at b tt ⊢
    simp_all! [m_sides_of, b_sides_of, fCk, Tr.cls, mk, Tr.objW_d, dd, tu, pt, b, tt]
  · have hp : 0 < (t.side 0 p).length := List.length_pos_iff.mpr h
    simp_all! [m_sides_of, b_sides_of, fCk, Tr.cls, mk, Tr.objW_d, dd, tu, pt, b, tt, h, hp]
theorem box_ok {cs : List Int} {k : Nat} (h : k < cs.length) : ∃ u, m_law_box [.sh (.lst (cs.map D.int)), .sh (.int k)] = some (u, [.sh (.lst (cs.map D.int)), .sh (.int k)]) ∧ Urn 0 u ∧ u.clean = true := by
  have k0 : 0 ≤ (k : Int) := by omega
  have ix := ixN_in (n := cs.length) k0 (by omega)
  generalize hx : cs[k] = x
  have g : (cs.map D.int)[k]? = some (.int x) := by simp [h, hx]
  have dl : (cs.map D.int).length = cs.length := by simp
  generalize cs.map D.int = ds at g dl ⊢
  have ha : atI ds (k : Int) = some (.int x) := by
    unfold atI
    rw [dl, ix]
    exact g
  refine ⟨.lst [.sh (.int ((if x < 0 then -x else x) * (if decide (10 ^ 18 ≤ (if x < 0 then -x else x)) = true then 1 else 0))), .sh (.int (x % 2305843009213693951 + 39373 * (k : Int) + 518)), .sh (.int 0)], ?_, ⟨_, _, _, rfl, ?_, by omega, by omega, by omega⟩, rfl⟩
  · by_cases z : 1000000000000000000 ≤ (if x < 0 then -x else x)
    · simp_all! [m_law_box, b_law_box, h, dl, ha, z]
    · simp_all! [m_law_box, b_law_box, h, dl, ha, z]
  · split <;> split <;> omega
-- new
/-- the trees left -/
def Tr.left : Tr → List Str → List Pu.D
  | .leaf s, gone => if s ∈ gone then [] else [.str s]
  | .node l r, gone => if (l.leaves ++ r.leaves).filter (fun x => decide (x ∈ gone)) = [] then [.tup [l.D, r.D]] else l.left gone ++ r.left gone
def lefts (ts : List Tr) (gone : List Str) : List D := ts.flatMap fun t => t.left gone
def behind (ts : List Tr) (gone fresh : List Str) : D := .tup (lefts ts gone ++ sD fresh)
def qD : Option (Nat × Nat) → D
  | none => .tup []
  | some q => pD q
def encQ : Option (Nat × Nat) → PyData
  | none => .tuple []
  | some q => encP q
abbrev Pc := (Nat × Nat) × Option (Nat × Nat)
def pcD (x : Pc) : D := .tup [pD x.1, qD x.2]
def encPc (x : Pc) : PyData := .tuple [encP x.1, encQ x.2]
theorem pcD_py (x : Pc) : (pcD x).py = some (encPc x) := by
  obtain ⟨p, _ | q⟩ := x <;> rfl
instance edPc : Ed pcD where
  py := encPc
  pyE := pcD_py
  lay := fun x => by obtain ⟨p, _ | q⟩ := x <;> simp [encPc, encQ, encP, PyData.canLay0, PyData.canLayAll0]
  dep := fun x => by obtain ⟨p, _ | q⟩ := x <;> simp [encPc, encQ, encP, PyData.depth, PyData.depthAll]
  eqv := fun x y => by
    have e1 : ∀ a b : Nat, ((a : Int) == (b : Int)) = decide (a = b) := fun a b => by
      rw [Bool.eq_iff_iff, beq_iff_eq, decide_eq_true_iff]
      omega
    obtain ⟨⟨a, b⟩, _ | ⟨c, d⟩⟩ := x <;> obtain ⟨⟨a', b'⟩, _ | ⟨c', d'⟩⟩ := y <;> simp [encPc, encQ, encP, PyData.eqv, PyData.eqvAll, e1]
  td := fun x => by obtain ⟨p, _ | q⟩ := x <;> rfl
  fl := fun x => rfl
  ns := fun x s h => by cases h
def torn (num : List Nat) (p : Nat × Nat) : Bool := num.any fun k => decide (p.1 ≤ k) && decide (k < p.2)
def Tr.sp (t : Tr) (s : Nat) : Nat × Nat := (s, s + t.leaves.length)
def Tr.tornS (t : Tr) (num : List Nat) (p : Nat × Nat) : List (Nat × Nat) := (t.side 0 p).filter (torn num)
/-- u stands at place s of t, t itself at place a -/
inductive Sub : Tr → Nat → Tr → Nat → Prop
  | refl (t : Tr) (a : Nat) : Sub t a t a
  | left {l r u : Tr} {a s : Nat} (h : Sub l a u s) : Sub (.node l r) a u s
  | right {l r u : Tr} {a s : Nat} (h : Sub r (a + l.leaves.length) u s) : Sub (.node l r) a u s
theorem Sub.bound {t u : Tr} {a s : Nat} (h : Sub t a u s) : a ≤ s ∧ s + u.leaves.length ≤ a + t.leaves.length := by
  induction h with
  | refl t a => exact ⟨Nat.le_refl _, Nat.le_refl _⟩
  | left h ih => simp only [Tr.leaves, List.length_append]; omega
  | right h ih => simp only [Tr.leaves, List.length_append]; omega
theorem Sub.mem {t u : Tr} {a s : Nat} (h : Sub t a u s) : u.sp s ∈ t.prs a := by
  induction h with
  | refl t a => exact t.head_mem a
  | left h ih => simp only [Tr.prs, List.mem_append]; exact .inl ih
  | right h ih => simp only [Tr.prs, List.mem_append]; exact .inr (.inl ih)
def Tr.kids : Tr → Nat → List (Nat × Nat)
  | .leaf _, _ => []
  | .node l r, s => [l.sp s, r.sp (s + l.leaves.length)]
theorem Sub.side {t u : Tr} {a s : Nat} (h : Sub t a u s) : t.side a (u.sp s) = u.kids s := by
  induction h with
  | refl t a =>
    cases t with
    | leaf x => rfl
    | node l r => simp [Tr.side, Tr.split, Tr.sp, Tr.kids, Tr.leaves, sideL, Nat.add_assoc]
  | @left l r u a s h ih =>
    have b := h.bound
    have p := r.pos
    have q := u.pos
    rw [← ih, show u.sp s = (s, s + u.leaves.length) from rfl]
    unfold Tr.side
    congr 1
    simp only [Tr.split, Prod.mk.injEq]
    rw [if_neg (by omega), if_pos (by omega)]
  | @right l r u a s h ih =>
    have b := h.bound
    have p := l.pos
    have q := u.pos
    rw [← ih, show u.sp s = (s, s + u.leaves.length) from rfl]
    unfold Tr.side
    congr 1
    simp only [Tr.split, Prod.mk.injEq]
    rw [if_neg (by omega), if_neg (by omega)]
theorem Sub.trans {t u v : Tr} {a s r : Nat} (h : Sub t a u s) (h2 : Sub u s v r) : Sub t a v r := by
  induction h with
  | refl t a => exact h2
  | left h ih => exact .left (ih h2)
  | right h ih => exact .right (ih h2)
def Tr.tk (num : List Nat) (t : Tr) (s : Nat) : List (Nat × Nat) := (t.kids s).filter (torn num)
theorem Sub.tornS {t u : Tr} {s : Nat} {num : List Nat} (h : Sub t 0 u s) : t.tornS num (u.sp s) = u.tk num s := by
  unfold Tr.tornS Tr.tk
  rw [h.side]
/-- the row that begins at the root, and the rows below it -/
def Tr.row (num : List Nat) : Tr → Nat → List (Nat × Nat)
  | .leaf x, s => [(Tr.leaf x).sp s]
  | .node l r, s => (Tr.node l r).sp s :: match torn num (l.sp s), torn num (r.sp (s + l.leaves.length)) with
    | true, false => l.row num s
    | false, true => r.row num (s + l.leaves.length)
    | _, _ => []
def Tr.rest (num : List Nat) : Tr → Nat → List (List (Nat × Nat))
  | .leaf _, _ => []
  | .node l r, s => match torn num (l.sp s), torn num (r.sp (s + l.leaves.length)) with
    | true, false => l.rest num s
    | false, true => r.rest num (s + l.leaves.length)
    | true, true => (l.row num s :: l.rest num s) ++ (r.row num (s + l.leaves.length) :: r.rest num (s + l.leaves.length))
    | false, false => []
def Tr.rowF (t : Tr) (num : List Nat) : Nat → Nat × Nat → List (Nat × Nat)
  | 0, p => [p]
  | n + 1, p => match t.tornS num p with
    | [q] => p :: t.rowF num n q
    | _ => [p]
theorem Sub.row {t : Tr} {num : List Nat} : ∀ {n : Nat} {u : Tr} {s : Nat}, Sub t 0 u s → u.leaves.length ≤ n → t.rowF num n (u.sp s) = u.row num s
  | 0, u, s, _, h => by have := u.pos; omega
  | n + 1, .leaf x, s, h, hn => by
    have e := h.tornS (num := num)
    simp only [Tr.tk, Tr.kids, List.filter_nil] at e
    simp only [Tr.rowF, e, Tr.row]
  | n + 1, .node l r, s, h, hn => by
    have e := h.tornS (num := num)
    have p1 := l.pos
    have p2 := r.pos
    simp only [Tr.leaves, List.length_append] at hn
    have hl := Sub.row (num := num) (n := n) (h.trans (.left (.refl l s))) (by omega)
    have hr := Sub.row (num := num) (n := n) (h.trans (.right (.refl r _))) (by omega)
    simp only [Tr.tk, Tr.kids] at e
    cases a : torn num (l.sp s) <;> cases b : torn num (r.sp (s + l.leaves.length)) <;> simp only [List.filter_cons, List.filter_nil, a, b, if_true, Bool.false_eq_true, if_false] at e <;> simp only [Tr.rowF, e, Tr.row, a, b, hl, hr]
def long (r : List (Nat × Nat)) : Bool := decide (1 < r.length)
def Tr.rowsOf (num : List Nat) (x : Tr × Nat) : List (List (Nat × Nat)) := (x.1.row num x.2 :: x.1.rest num x.2).filter long
theorem prs_sub : ∀ (t : Tr) (a : Nat) (p : Nat × Nat), p ∈ t.prs a → ∃ u s, Sub t a u s ∧ p = u.sp s
  | .leaf x, a, p, h => by
    simp only [Tr.prs, List.mem_singleton] at h
    exact ⟨.leaf x, a, .refl _ _, by rw [h]; rfl⟩
  | .node l r, a, p, h => by
    simp only [Tr.prs, List.mem_append, List.mem_singleton] at h
    rcases h with h | h | h
    · obtain ⟨u, s, h1, h2⟩ := prs_sub l a p h
      exact ⟨u, s, .left h1, h2⟩
    · obtain ⟨u, s, h1, h2⟩ := prs_sub r _ p h
      exact ⟨u, s, .right h1, h2⟩
    · exact ⟨.node l r, a, .refl _ _, by rw [h]; simp [Tr.sp, Tr.leaves, Nat.add_assoc]⟩
theorem dfs_sub {t : Tr} : ∀ (u : Tr) (s n : Nat) (f w : List (Nat × Nat)), Sub t 0 u s → ∃ o, o.Perm (u.prs s) ∧ dfs (t.side 0) (2 * u.leaves.length - 1 + n) f (w ++ [u.sp s]) = dfs (t.side 0) n (f ++ o) w
  | .leaf x, s, n, f, w, h => by
    have hs := h.side
    refine ⟨[(Tr.leaf x).sp s], List.Perm.refl _, ?_⟩
    rw [show 2 * (Tr.leaf x).leaves.length - 1 + n = n + 1 by simp [Tr.leaves]; omega]
    simp [dfs, hs, Tr.kids]
  | .node l r, s, n, f, w, h => by
    have hs := h.side
    have pl := l.pos
    have pr := r.pos
    obtain ⟨o2, p2, e2⟩ := dfs_sub r (s + l.leaves.length) (2 * l.leaves.length - 1 + n) (f ++ [(Tr.node l r).sp s]) (w ++ [l.sp s]) (h.trans (.right (.refl r _)))
    obtain ⟨o1, p1, e1⟩ := dfs_sub l s n (f ++ [(Tr.node l r).sp s] ++ o2) w (h.trans (.left (.refl l _)))
    refine ⟨[(Tr.node l r).sp s] ++ o2 ++ o1, ?_, ?_⟩
    · simp only [Tr.prs]
      have e : (s, s + l.leaves.length + r.leaves.length) = (Tr.node l r).sp s := by simp only [Tr.sp, Tr.leaves, List.length_append, Nat.add_assoc]
      rw [e]
      refine ((List.perm_append_comm (l₁ := [(Tr.node l r).sp s] ++ o2) (l₂ := o1)).trans ?_)
      exact p1.append (List.perm_append_comm.trans (p2.append (List.Perm.refl _)))
    · rw [show 2 * (Tr.node l r).leaves.length - 1 + n = 2 * r.leaves.length - 1 + (2 * l.leaves.length - 1 + n) + 1 by simp only [Tr.leaves, List.length_append]; omega]
      conv => lhs; unfold dfs
      simp only [List.getLast?_append, List.getLast?_singleton, List.dropLast_concat, hs, Tr.kids, Option.some_or]
      rw [show w ++ [l.sp s, r.sp (s + l.leaves.length)] = w ++ [l.sp s] ++ [r.sp (s + l.leaves.length)] by simp, e2, e1]
      simp
def inP (p : Nat × Nat) (k : Nat) : Prop := p.1 ≤ k ∧ k < p.2
instance inP_dec (p : Nat × Nat) (k : Nat) : Decidable (inP p k) := inferInstanceAs (Decidable (p.1 ≤ k ∧ k < p.2))
theorem sub_part {t u : Tr} {s : Nat} (h : Sub t 0 u s) : t.part (u.sp s) = u.leaves := by
  have go : ∀ {t u : Tr} {a s : Nat}, Sub t a u s → (t.leaves.drop (s - a)).take u.leaves.length = u.leaves := fun h => by
    induction h with
    | refl t a => simp
    | @left l r u a s h ih =>
      have b := h.bound
      simp only [Tr.leaves]
      rw [List.drop_append_of_le_length (by omega), List.take_append_of_le_length (by rw [List.length_drop]; omega)]
      exact ih
    | @right l r u a s h ih =>
      have b := h.bound
      simp only [Tr.leaves]
      rw [show s - a = l.leaves.length + (s - (a + l.leaves.length)) by omega, List.drop_append]
      rw [List.drop_of_length_le (by omega), List.nil_append]
      simpa using ih
  have e := go h
  unfold Tr.part Tr.sp
  simpa using e
def Tr.lones (num : List Nat) : Tr → Nat → List ((Nat × Nat) × (Nat × Nat))
  | .leaf _, _ => []
  | .node l r, s => l.lones num s ++ (r.lones num (s + l.leaves.length) ++ match torn num (l.sp s), torn num (r.sp (s + l.leaves.length)) with
    | true, false => [((s, s + l.leaves.length + r.leaves.length), l.sp s)]
    | false, true => [((s, s + l.leaves.length + r.leaves.length), r.sp (s + l.leaves.length))]
    | _, _ => [])
def Tr.loneF (t : Tr) (num : List Nat) (p : Nat × Nat) : Option ((Nat × Nat) × (Nat × Nat)) := match t.tornS num p with
  | [q] => some (p, q)
  | _ => none
theorem Sub.lones {t : Tr} {num : List Nat} : ∀ {u : Tr} {s : Nat}, Sub t 0 u s → (u.prs s).filterMap (t.loneF num) = u.lones num s
  | .leaf x, s, h => by
    have e := h.tornS (num := num)
    simp only [Tr.tk, Tr.kids, List.filter_nil] at e
    have e2 : t.loneF num (s, s + 1) = none := by
      unfold Tr.loneF
      rw [show (s, s + 1) = (Tr.leaf x).sp s from rfl, e]
    simp only [Tr.prs, Tr.lones, List.filterMap_cons, List.filterMap_nil, e2]
  | .node l r, s, h => by
    have e := h.tornS (num := num)
    have hl := Sub.lones (num := num) (h.trans (.left (.refl l s)))
    have hr := Sub.lones (num := num) (h.trans (.right (.refl r _)))
    have sp : (Tr.node l r).sp s = (s, s + l.leaves.length + r.leaves.length) := by simp [Tr.sp, Tr.leaves, Nat.add_assoc]
    rw [sp] at e
    simp only [Tr.tk, Tr.kids] at e
    simp only [Tr.prs, Tr.lones, List.filterMap_append, hl, hr]
    congr 2
    have e2 : t.loneF num (s, s + l.leaves.length + r.leaves.length) = match List.filter (torn num) [l.sp s, r.sp (s + l.leaves.length)] with
      | [q] => some ((s, s + l.leaves.length + r.leaves.length), q)
      | _ => none := by
      unfold Tr.loneF
      rw [e]
    rw [List.filterMap_cons, List.filterMap_nil, e2]
    cases a : torn num (l.sp s) <;> cases b : torn num (r.sp (s + l.leaves.length)) <;> simp [List.filter_cons, a, b]
def firsts (L : List ((Nat × Nat) × (Nat × Nat))) : List (Nat × Nat) := (L.map Prod.fst).filter fun p => !(L.map Prod.snd).contains p
def Tr.lone1 (num : List Nat) : Tr → Nat → List (Nat × Nat)
  | .leaf _, _ => []
  | .node l r, s => match torn num (l.sp s), torn num (r.sp (s + l.leaves.length)) with
    | true, false => [(s, s + l.leaves.length + r.leaves.length)]
    | false, true => [(s, s + l.leaves.length + r.leaves.length)]
    | _, _ => []
def Tr.inner (num : List Nat) : Tr → Nat → List (Nat × Nat)
  | .leaf _, _ => []
  | .node l r, s => match torn num (l.sp s), torn num (r.sp (s + l.leaves.length)) with
    | true, false => l.inner num s
    | false, true => r.inner num (s + l.leaves.length)
    | true, true => (l.lone1 num s ++ l.inner num s) ++ (r.lone1 num (s + l.leaves.length) ++ r.inner num (s + l.leaves.length))
    | false, false => []
theorem Tr.row_ne (num : List Nat) (u : Tr) (s : Nat) : u.row num s ≠ [] := by cases u <;> simp [Tr.row]
theorem Sub.row1 {t : Tr} {num : List Nat} (ht : t.leaves.length ≤ 30) {u : Tr} {s : Nat} (h : Sub t 0 u s) : [u.row num s].filter long = (u.lone1 num s).map (t.rowF num 40) := by
  have e := h.row (num := num) (n := 40) (by have := h.bound; omega)
  cases u with
  | leaf x => simp [Tr.row, long, Tr.lone1]
  | node l r =>
    have sp : (Tr.node l r).sp s = (s, s + l.leaves.length + r.leaves.length) := by simp [Tr.sp, Tr.leaves, Nat.add_assoc]
    rw [sp] at e
    have nl := List.length_pos_iff.mpr (l.row_ne num s)
    have nr := List.length_pos_iff.mpr (r.row_ne num (s + l.leaves.length))
    cases a : torn num (l.sp s) <;> cases b : torn num (r.sp (s + l.leaves.length)) <;> simp only [Tr.row, Tr.lone1, a, b, List.map_cons, List.map_nil, e]
    all_goals simp [long, nl, nr]
theorem Sub.rows {t : Tr} {num : List Nat} (ht : t.leaves.length ≤ 30) : ∀ {u : Tr} {s : Nat}, Sub t 0 u s → (u.rest num s).filter long = (u.inner num s).map (t.rowF num 40)
  | .leaf x, s, h => rfl
  | .node l r, s, h => by
    have hl := Sub.rows (num := num) ht (h.trans (.left (.refl l s)))
    have hr := Sub.rows (num := num) ht (h.trans (.right (.refl r _)))
    have h1 := Sub.row1 (num := num) ht (h.trans (.left (.refl l s)))
    have h2 := Sub.row1 (num := num) ht (h.trans (.right (.refl r _)))
    cases a : torn num (l.sp s) <;> cases b : torn num (r.sp (s + l.leaves.length)) <;> simp only [Tr.rest, Tr.inner, a, b]
    · rfl
    · exact hr
    · exact hl
    · rw [← List.singleton_append, ← List.singleton_append (l := r.rest num _), List.filter_append, List.filter_append, List.filter_append, hl, hr, h1, h2]
      simp only [List.map_append]
def within (a b : Int) : D → W
  | .int o => .sh (.bl (decide (a ≤ o) && decide (o < b)))
  | d => .sh d
def leR : List (Nat × Nat) → List (Nat × Nat) → Bool := leOf (lexB ltP)
def spotsF (gone : List Str) : Nat → List Str → List Nat
  | _, [] => []
  | n, x :: xs => if x ∈ gone then n :: spotsF gone (n + 1) xs else spotsF gone (n + 1) xs
def Tr.spots (t : Tr) (gone : List Str) : List Nat := spotsF gone 0 t.leaves
/-- o is the set gone, a tuple or a list -/
structure OutG (o : D) (gone : List Str) : Prop where
  ok : okD 40 o
  eq : toT 40 o = .tup (sD gone)
theorem OutG.ne {o : D} {gone : List Str} (h : OutG o gone) : o ≠ .any := okD_ne h.ok
theorem OutG.tup {gone : List Str} (h : gone.length ≤ 10000) (hs : ∀ x ∈ gone, PyData.strOk x = true) : OutG (.tup (sD gone)) gone :=
  ⟨okD_tup (n := 39) (by rw [sD_len]; exact h) fun x hx => by
    obtain ⟨y, hy, rfl⟩ := List.mem_map.mp hx
    exact hs y hy, by
    simp only [toT, sD, List.map_map, Function.comp_def]⟩
theorem OutG.lst {gone : List Str} (h : gone.length ≤ 10000) (hs : ∀ x ∈ gone, PyData.strOk x = true) : OutG (.lst (sD gone)) gone :=
  ⟨okD_lst (n := 39) (by rw [sD_len]; exact h) fun x hx => by
    obtain ⟨y, hy, rfl⟩ := List.mem_map.mp hx
    exact hs y hy, by
    simp only [toT, sD, List.map_map, Function.comp_def]⟩
def Tr.rowsS (t : Tr) (gone : List Str) : List (List (Nat × Nat)) := srt leR ((firsts (t.lones (t.spots gone) 0)).map (t.rowF (t.spots gone) 40))
def Tr.tl (t : Tr) (num : List Nat) (p : Nat × Nat) : Nat × Nat := (t.tornS num p).headD (0, 0)
def Tr.K0 (t : Tr) : List (List Key) := (t.prs 0).map pK
def Tr.gs (t : Tr) (num : List Nat) (p : Nat × Nat) : Nat × Nat := ((t.side 0 p).filter fun q => !torn num q).headD (0, 0)
abbrev P2 := (Nat × Nat) × (Nat × Nat)
def ends2 (r : List (Nat × Nat)) : P2 := (r.headD (0, 0), r.getLastD (0, 0))
def pc2 (x : P2) : Pc := (x.1, some x.2)
/-- the pieces of the least header -/
def Tr.hdr (t : Tr) (gone : List Str) : List Pc := if t.spots gone = [] then [((0, t.leaves.length), none)] else ((t.rowsS gone).map ends2).map pc2
def Tr.cutN (t : Tr) : Option (Nat × Nat) → List Str
  | none => []
  | some q => t.names q
def Tr.reach (t : Tr) (x : Pc) : List Str := (t.names x.1).filter fun y => !decide (y ∈ t.cutN x.2)
/-- does a piece reach one of these? -/
def Tr.meets (t : Tr) (bs : List Str) (x : Pc) : Bool := (t.reach x).any fun y => decide (y ∈ bs)
theorem found_perm {t u : Tr} {s : Nat} (h : Sub t 0 u s) : (t.belows (u.sp s)).Perm (u.prs s) := by
  obtain ⟨o, p, e⟩ := dfs_sub u s 0 [] [] h
  unfold Tr.belows Tr.found
  refine (srt_perm _ _).trans ?_
  have w : wt (u.sp s) = 2 * u.leaves.length - 1 + 0 := by
    unfold wt Tr.sp
    have := u.pos
    omega
  rw [w]
  simp only [List.nil_append] at e
  rw [e]
  unfold dfs
  exact p
def Tr.keep (t : Tr) (gs : List (List Str)) (k : Nat) (g : List Str) : List Pc := match gs[k + 1]? with
  | none => t.hdr g
  | some b => (t.hdr g).filter (t.meets b)
def over (p k : Nat × Nat) : Bool := decide (k.1 ≤ p.1) && decide (p.2 ≤ k.2)
def cnt (ps : List (Nat × Nat)) (p : Nat × Nat) : Nat := (ps.filter (over p)).length
theorem cnt_app (a b : List (Nat × Nat)) (p : Nat × Nat) : cnt (a ++ b) p = cnt a p + cnt b p := by simp [cnt]
/-- nothing of a tree holds what isn't within it -/
theorem cnt_out {t : Tr} {s : Nat} {p : Nat × Nat} (h : p.1 < s ∨ s + t.leaves.length < p.2) : cnt (t.prs s) p = 0 := by
  unfold cnt
  rw [List.length_eq_zero_iff, List.filter_eq_nil_iff]
  intro k hk
  have := t.prs_mem s k hk
  unfold over
  simp only [Bool.and_eq_true, decide_eq_true_eq, not_and]
  intro a b
  omega
/-- the tree itself is the only one of its nodes that holds all of it -/
theorem cnt_root : ∀ (t : Tr) (s : Nat), cnt (t.prs s) (t.sp s) = 1
  | .leaf x, s => by simp [cnt, Tr.prs, Tr.sp, Tr.leaves, over]
  | .node l r, s => by
    have pl := l.pos
    have pr := r.pos
    have e : (Tr.node l r).sp s = (s, s + l.leaves.length + r.leaves.length) := by simp [Tr.sp, Tr.leaves, Nat.add_assoc]
    rw [e]
    simp only [Tr.prs]
    rw [cnt_app, cnt_app, cnt_out (t := l) (.inr (by simp only; omega)), cnt_out (t := r) (.inl (by simp only; omega))]
    simp [cnt, over]
theorem cnt_inner {l r : Tr} {s : Nat} {p : Nat × Nat} : cnt ((Tr.node l r).prs s) p = cnt (l.prs s) p + (cnt (r.prs (s + l.leaves.length)) p + cnt [(s, s + l.leaves.length + r.leaves.length)] p) := by
  simp only [Tr.prs]
  rw [cnt_app, cnt_app]
theorem cnt_top {s e : Nat} {p : Nat × Nat} (h1 : s ≤ p.1) (h2 : p.2 ≤ e) : cnt [(s, e)] p = 1 := by simp [cnt, over, h1, h2]
theorem Sub.deeper {t u : Tr} {a s : Nat} (h : Sub t a u s) : ∀ q ∈ u.kids s, cnt (t.prs a) q = cnt (t.prs a) (u.sp s) + 1 := by
  induction h with
  | refl t a =>
    intro q hq
    cases t with
    | leaf x => cases hq
    | node l r =>
      have pl := l.pos
      have pr := r.pos
      rw [cnt_root]
      simp only [Tr.kids, List.mem_cons, List.not_mem_nil, or_false] at hq
      rw [cnt_inner]
      rcases hq with rfl | rfl
      · rw [cnt_root, cnt_out (t := r) (.inl (by simp only [Tr.sp]; omega)), cnt_top (by simp [Tr.sp]) (by simp only [Tr.sp]; omega)]
      · rw [cnt_root, cnt_out (t := l) (.inr (by simp only [Tr.sp]; omega)), cnt_top (by simp [Tr.sp]) (by simp only [Tr.sp]; omega)]
  | @left l r u a s h ih =>
    intro q hq
    have b := h.bound
    have pu := u.pos
    have pr := r.pos
    have z := ih q hq
    have hk : s ≤ q.1 ∧ q.1 < q.2 ∧ q.2 ≤ s + u.leaves.length := by
      cases u with
      | leaf x => cases hq
      | node c d =>
        have pc := c.pos
        have pd := d.pos
        simp only [Tr.kids, List.mem_cons, List.not_mem_nil, or_false] at hq
        simp only [Tr.leaves, List.length_append]
        rcases hq with rfl | rfl <;> simp only [Tr.sp] <;> omega
    rw [cnt_inner, cnt_inner, z, cnt_out (t := r) (p := q) (.inl (by omega)), cnt_out (t := r) (p := u.sp s) (.inl (by simp only [Tr.sp]; omega)), cnt_top (by omega) (by omega), cnt_top (by simp only [Tr.sp]; omega) (by simp only [Tr.sp]; omega)]
  | @right l r u a s h ih =>
    intro q hq
    have b := h.bound
    have pu := u.pos
    have pl := l.pos
    have z := ih q hq
    have hk : s ≤ q.1 ∧ q.1 < q.2 ∧ q.2 ≤ s + u.leaves.length := by
      cases u with
      | leaf x => cases hq
      | node c d =>
        have pc := c.pos
        have pd := d.pos
        simp only [Tr.kids, List.mem_cons, List.not_mem_nil, or_false] at hq
        simp only [Tr.leaves, List.length_append]
        rcases hq with rfl | rfl <;> simp only [Tr.sp] <;> omega
    rw [cnt_inner, cnt_inner, z, cnt_out (t := l) (p := q) (.inr (by omega)), cnt_out (t := l) (p := u.sp s) (.inr (by simp only [Tr.sp]; omega)), cnt_top (by omega) (by omega), cnt_top (by simp only [Tr.sp]; omega) (by simp only [Tr.sp]; omega)]
    omega
theorem srtP_eq {l r : List (Nat × Nat)} (p : l.Perm r) : srt leP l = srt leP r := srt_uni leP_tot leP_tr leP_an ((srt_perm _ l).trans p) (srt_pw leP_tot leP_tr l)
def shP (k : Nat) (p : Nat × Nat) : Nat × Nat := (p.1 + k, p.2 + k)
theorem sp_sh (u : Tr) (s k : Nat) : u.sp (s + k) = shP k (u.sp s) := Prod.ext rfl (show s + k + u.leaves.length = s + u.leaves.length + k by omega)
section
variable {f l : Tr} {G gone its : List Str}
end
section
variable {f l : Tr} {G : List Str}
end
-- new
def Tr.mapN (f : Str → Str) : Tr → Tr
  | .leaf x => .leaf (f x)
  | .node l r => .node (l.mapN f) (r.mapN f)
theorem mapN_leaves (f : Str → Str) : ∀ t : Tr, (t.mapN f).leaves = t.leaves.map f
  | .leaf x => rfl
  | .node l r => by simp only [Tr.mapN, Tr.leaves, List.map_append, mapN_leaves f l, mapN_leaves f r]
def InjL (f : Str → Str) (xs : List Str) : Prop := ∀ x ∈ xs, ∀ y ∈ xs, f x = f y → x = y
theorem InjL.mem {f : Str → Str} {xs g : List Str} (hf : InjL f xs) (hg : ∀ y ∈ g, y ∈ xs) : ∀ x ∈ xs, f x ∈ g.map f ↔ x ∈ g := fun x hx => by
  rw [List.mem_map]
  exact ⟨fun ⟨y, hy, e⟩ => hf y (hg y hy) x hx e ▸ hy, fun h => ⟨x, h, rfl⟩⟩
theorem InjL.nodup {f : Str → Str} {xs : List Str} : ∀ {g : List Str}, InjL f xs → (∀ y ∈ g, y ∈ xs) → g.Nodup → (g.map f).Nodup
  | [], _, _, _ => by simp
  | a :: g, hf, hg, hn => by
    rw [List.nodup_cons] at hn
    rw [List.map_cons, List.nodup_cons]
    refine ⟨fun z => ?_, InjL.nodup hf (fun y hy => hg y (by simp [hy])) hn.2⟩
    obtain ⟨y, hy, e⟩ := List.mem_map.mp z
    exact hn.1 (hf y (hg y (by simp [hy])) a (hg a (by simp)) e ▸ hy)
def fZ : List Str → List Str → Str → Str
  | b :: bs, x :: xs, s => if s = b then x else fZ bs xs s
  | _, _, s => s
def isG (G : D) (t : Tr) : Prop := G = .dT t.K0 (t.lvals 0) ∨ G = .lT t.K0 (t.lvals 0)
theorem isG.look {G : D} {t : Tr} (h : isG G t) {p : Nat × Nat} (hp : p ∈ t.prs 0) : pDGet [G, pD p] = some (.lst ((t.side 0 p).map pD)) := by
  have l := lvals_look hp
  have tk := tkey_pD p
  rcases h with rfl | rfl <;> simp only [pDGet, D.dTq, Option.bind_some, tk, Tr.K0, l]
theorem isG.un {G : D} {t : Tr} (h : isG G t) : un G = some G := by rcases h with rfl | rfl <;> rfl
theorem ix0 {p : Nat × Nat} : pIx [pD p, .int 0] = some (.int (p.1 : Int)) := rfl
theorem ix1 {p : Nat × Nat} : pIx [pD p, .int 1] = some (.int (p.2 : Int)) := rfl
def GW (G : W) (t : Tr) : Prop := G = .dT t.K0 (t.lvals 0) ∨ G = .sh (.lT t.K0 (t.lvals 0))
theorem GW.g {G : W} {t : Tr} (h : GW G t) : isG G.d t := by rcases h with rfl | rfl <;> simp [isG, W.d]
-- new
def Tr.way (k : Nat) : Tr → Nat → List (Nat × Nat)
  | .leaf _, s => [(s, s + 1)]
  | .node l r, s => (s, s + (l.leaves.length + r.leaves.length)) :: (if k < s + l.leaves.length then l.way k s else r.way k (s + l.leaves.length))
theorem Tr.way_len (k : Nat) : ∀ (u : Tr) (s : Nat), (u.way k s).length ≤ u.leaves.length
  | .leaf _, s => by simp [Tr.way, Tr.leaves]
  | .node l r, s => by
    have h1 := l.way_len k s
    have h2 := r.way_len k (s + l.leaves.length)
    have p1 := l.pos
    have p2 := r.pos
    simp only [Tr.way, Tr.leaves, List.length_append, List.length_cons]
    split <;> omega
theorem idx_str : ∀ (xs : List Str) (x : Str), x ∈ xs → ∃ j, ixF (.str x) (sD xs) = some j ∧ xs[j]? = some x ∧ j < xs.length := by
  have fls : ∀ xs : List Str, D.fls (sD xs) = some (xs.map V.str) := fun xs => by
    induction xs with
    | nil => rfl
    | cons x xs ih =>
      simp only [sD, List.map_cons, D.fls, D.fl] at ih ⊢
      rw [ih]
  have flat : ∀ xs : List Str, (xs.map V.str).all flatV = true := fun xs => by
    induction xs with
    | nil => rfl
    | cons x xs ih => simp only [List.map_cons, List.all_cons, ih, Bool.and_true]; rfl
  have go : ∀ (xs : List Str) (x : Str), x ∈ xs → ∃ j, ixV (.str x) (xs.map V.str) = some j ∧ xs[j]? = some x ∧ j < xs.length := fun xs => by
    induction xs with
    | nil => intro x h; cases h
    | cons y ys ih =>
      intro x h
      by_cases e : y = x
      · subst e
        refine ⟨0, ?_, rfl, by simp⟩
        simp [ixV, eqV]
      · obtain ⟨j, h1, h2, h3⟩ := ih x ((List.mem_cons.mp h).resolve_left fun z => e z.symm)
        refine ⟨j + 1, ?_, by simpa using h2, by simpa using h3⟩
        simp [ixV, eqV, e, h1]
  intro xs x h
  obtain ⟨j, h1, h2⟩ := go xs x h
  refine ⟨j, ?_, h2⟩
  unfold ixF
  rw [fls]
  have : flatV (.str x) = true := rfl
  simp only [D.fl, this, flat, Bool.and_self, if_true, h1]
-- new
def Tr.hang (t : Tr) (way : List (Nat × Nat)) (p l : Nat × Nat) : List Pc := ((t.side 0 l).filter fun s => !decide (s ∈ way)).map fun s => (p, some s)
def Tr.gAt (t : Tr) (way : List (Nat × Nat)) (x : Nat × (Nat × Nat)) : List Pc := (way.drop x.1).flatMap fun l => t.hang way x.2 l
def Tr.givenRaw (t : Tr) (way : List (Nat × Nat)) : List Pc := ((0, t.leaves.length), none) :: (enL 0 way).flatMap fun x => t.gAt way x
def Tr.given (t : Tr) (k : Nat) : List Pc := srt (PySem.W.dataLe false encPc) (t.givenRaw (t.way k 0))
def inB (k : Nat) (p : Nat × Nat) : Bool := decide (p.1 ≤ k) && decide (k < p.2)
theorem way_step {t : Tr} {x1 : W} {k : Nat} {f h : List (Nat × Nat)} {p : Nat × Nat} (hp : p ∈ t.prs 0) (hh : h.filter (inB k) = [p]) (hl : h.length ≤ 1000) (hf : f.length ≤ 10000) :
    l_Tree_way_1 [.sh t.obj, x1, .sh (.int (k : Int)), .lst (pW f), .sh (.tup (h.map pD)), .sh .any] = some ([.sh t.obj, x1, .sh (.int (k : Int)), .lst (pW (f ++ [p])), .sh (.tup ((t.side 0 p).map pD)), .sh .any], .nx) := by
  have c1 := compT (v := 5) (fi := iSeq (fVar 4)) (t := t_Tree_way_1) (f := fVar 5) (en0 := [.sh t.obj, x1, .sh (.int (k : Int)), .lst (pW f), .sh (.tup (h.map pD)), .sh .any]) (en := [.sh t.obj, x1, .sh (.int (k : Int)), .lst (pW f), .sh (.tup (h.map pD)), .sh .any]) (z := .any) pD h (inB k) pD (by
      generalize h.map pD = hd at *
      generalize t.obj = td at *
      simp! [fnP]) (by omega) rfl fun q hq => by
    refine ⟨fPureT_eq (en1 := frzE [.sh t.obj, x1, .sh (.int (k : Int)), .lst (pW f), .sh (.tup (h.map pD)), .sh (pD q)]) ?_, fun _ => by
      have qn := pD_ne q
      generalize pD q = qd at *
      generalize h.map pD = hd at *
      generalize t.obj = td at *
      simp! [qn]⟩
    generalize h.map pD = hd at *
    generalize t.obj = td at *
    generalize pW f = fd at *
    unfold pD inB
    by_cases h1 : q.1 ≤ k <;> simp! [frzE, fChain, D.v, h1]
  rw [hh] at c1
  have look := vals_look hp
  have tk := tkey_pD p
  have pn := pD_ne p
  have hs : (pW f).length < sizeLine := size_lt (by rw [pW_len]; omega)
  have la : atI (W.ds (pW f ++ [.sh (pD p)])) (-1) = some (pD p) := by
    rw [ds_map]
    exact at_last (by simp [W.d])
  have lb : ixN ((pW f).length + 1) (-1) = some (pW f).length := by
    exact ixN_neg1 _
  have lc : (pW f ++ [W.sh (pD p)])[(pW f).length]? = some (.sh (pD p)) := by simp
  have i0 : ixN 1 0 = some 0 := ixN_lit0
  rw [pW_app, pW_one]
  unfold l_Tree_way_1 Tr.obj at *
  generalize fComp [5] (iSeq (fVar 4)) (gN 5) t_Tree_way_1 (fVar 5) = fc at *
  generalize (t.prs 0).map pK = ks at *
  generalize t.vals 0 = ds at *
  generalize sD t.leaves = ld at *
  generalize pD (0, t.leaves.length) = hd0 at *
  generalize h.map pD = hd at *
  generalize pW f = fw at *
  generalize (t.side 0 p).map pD = sd at *
  simp only [List.map_cons, List.map_nil] at c1
  apply sSeq_nx (en1 := [.sh (.ins "Tree" [.lst ld, hd0, .dT ks ds]), x1, .sh (.int (k : Int)), .lst (fw ++ [.sh (pD p)]), .sh (.tup hd), .sh .any])
  · generalize pD p = pd at *
    simp! [c1, R.els, pn, hs, i0]
  · simp! [fFld, gDGet, R.dT, la, lb, lc, tk, look, pn]
theorem way_loop {t : Tr} {x1 : W} {k : Nat} : ∀ (u : Tr) (s n : Nat) (f h : List (Nat × Nat)), Sub t 0 u s → s ≤ k → k < s + u.leaves.length → u.leaves.length ≤ n → f.length + u.leaves.length ≤ 10000 → h.length ≤ 2 → h.filter (inB k) = [u.sp s] →
    whD t_Tree_way_2 l_Tree_way_1 (n + 1) [.sh t.obj, x1, .sh (.int (k : Int)), .lst (pW f), .sh (.tup (h.map pD)), .sh .any] = some ([.sh t.obj, x1, .sh (.int (k : Int)), .lst (pW (f ++ u.way k s)), .sh (.tup []), .sh .any], .nx) := by
  have tst : ∀ (f h : List (Nat × Nat)), t_Tree_way_2 [.sh t.obj, x1, .sh (.int (k : Int)), .lst (pW f), .sh (.tup (h.map pD)), .sh .any] = some ([.sh t.obj, x1, .sh (.int (k : Int)), .lst (pW f), .sh (.tup (h.map pD)), .sh .any], decide (h ≠ [])) := fun f h => by
    have e : decide (h ≠ []) = decide (0 < ((h.map pD).length : Int)) := by cases h <;> simp
    rw [e]
    unfold t_Tree_way_2
    generalize h.map pD = hd at *
    generalize pW f = fw at *
    generalize t.obj = td at *
    simp! [oGtI]
  intro u
  induction u with
  | leaf x =>
    intro s n f h hs h1 h2 hn hf hl hh
    obtain ⟨n, rfl⟩ : ∃ m, n = m + 1 := ⟨n - 1, by simp [Tr.leaves] at hn; omega⟩
    have ne : h ≠ [] := fun z => by rw [z] at hh; cases hh
    have hp := hs.mem
    have st := way_step (x1 := x1) (f := f) hp hh (by omega) (by omega)
    rw [hs.side] at st
    refine whD_nx ((tst f h).trans (by rw [decide_eq_true ne])) st (whD_end ?_)
    exact tst _ []
  | node l r il ir =>
    intro s n f h hs h1 h2 hn hf hl hh
    have p1 := l.pos
    have p2 := r.pos
    simp only [Tr.leaves, List.length_append] at h2 hn hf
    obtain ⟨n, rfl⟩ : ∃ m, n = m + 1 := ⟨n - 1, by omega⟩
    have ne : h ≠ [] := fun z => by rw [z] at hh; cases hh
    have hp := hs.mem
    have st := way_step (x1 := x1) (f := f) hp hh (by omega) (by omega)
    rw [hs.side] at st
    have es : (Tr.node l r).sp s = (s, s + (l.leaves.length + r.leaves.length)) := by simp [Tr.sp, Tr.leaves]
    refine whD_nx ((tst f h).trans (by rw [decide_eq_true ne])) st ?_
    have ek : (Tr.node l r).kids s = [l.sp s, r.sp (s + l.leaves.length)] := rfl
    rw [ek, es]
    by_cases w : k < s + l.leaves.length
    · have e1 : ([l.sp s, r.sp (s + l.leaves.length)] : List (Nat × Nat)).filter (inB k) = [l.sp s] := by
        have a : inB k (l.sp s) = true := by unfold inB Tr.sp; rw [Bool.and_eq_true, decide_eq_true_eq, decide_eq_true_eq]; dsimp only; omega
        have b : inB k (r.sp (s + l.leaves.length)) = false := by unfold inB Tr.sp; rw [Bool.and_eq_false_iff, decide_eq_false_iff_not, decide_eq_false_iff_not]; dsimp only; omega
        simp [a, b]
      have := il s n (f ++ [(s, s + (l.leaves.length + r.leaves.length))]) _ (hs.trans (.left (.refl l s))) h1 w (by omega) (by simp only [List.length_append, List.length_singleton]; omega) (by simp) e1
      simp only [Tr.way, if_pos w]
      rw [List.append_assoc] at this
      exact this
    · have e1 : ([l.sp s, r.sp (s + l.leaves.length)] : List (Nat × Nat)).filter (inB k) = [r.sp (s + l.leaves.length)] := by
        have a : inB k (l.sp s) = false := by unfold inB Tr.sp; rw [Bool.and_eq_false_iff, decide_eq_false_iff_not, decide_eq_false_iff_not]; dsimp only; omega
        have b : inB k (r.sp (s + l.leaves.length)) = true := by unfold inB Tr.sp; rw [Bool.and_eq_true, decide_eq_true_eq, decide_eq_true_eq]; dsimp only; omega
        simp [a, b]
      have := ir (s + l.leaves.length) n (f ++ [(s, s + (l.leaves.length + r.leaves.length))]) _ (hs.trans (.right (.refl r _))) (by omega) (by omega) (by omega) (by simp only [List.length_append, List.length_singleton]; omega) (by simp) e1
      simp only [Tr.way, if_neg w]
      rw [List.append_assoc] at this
      exact this
theorem tree_way_ok {t : Tr} {x : Str} (ht : t.leaves.length ≤ 30) (hx : x ∈ t.leaves) : ∃ k, t.leaves[k]? = some x ∧ m_Tree_way [.sh t.obj, .sh (.str x)] = some (.lst (pW (t.way k 0)), [.sh t.obj, .sh (.str x)]) := by
  obtain ⟨k, h1, h2, h3⟩ := idx_str t.leaves x hx
  refine ⟨k, h2, ?_⟩
  have e1 : ([t.sp 0] : List (Nat × Nat)).filter (inB k) = [t.sp 0] := by
    have a : inB k (t.sp 0) = true := by unfold inB Tr.sp; rw [Bool.and_eq_true, decide_eq_true_eq, decide_eq_true_eq]; dsimp only; omega
    simp [a]
  have lp := way_loop (t := t) (x1 := .sh (.str x)) (k := k) t 0 30 [] [t.sp 0] (.refl t 0) (by omega) (by omega) ht (by simp; omega) (by simp) e1
  have lp := whD_more (m := 400) lp (by omega)
  have gi := insF_str x t.leaves
  rw [decide_eq_true hx] at gi
  have es : [t.sp 0].map pD = [pD (0, t.leaves.length)] := by simp [Tr.sp]
  rw [es] at lp
  refine fn_ret (n := 6) (np := 2) (b := b_Tree_way) rfl ⟨[.sh t.obj, .sh (.str x), .sh (.int (k : Int)), .sh .any, .sh (.tup []), .sh .any], ?_, rfl⟩
  have pn := pD_ne (0, t.leaves.length)
  unfold b_Tree_way Tr.obj at *
  generalize whD t_Tree_way_2 l_Tree_way_1 400 = wh at *
  generalize (t.prs 0).map pK = ks at *
  generalize t.vals 0 = ds at *
  generalize sD t.leaves = ld at *
  generalize pD (0, t.leaves.length) = hd0 at *
  apply sSeq_nx (en1 := [.sh (.ins "Tree" [.lst ld, hd0, .dT ks ds]), .sh (.str x), .sh .any, .sh .any, .sh .any, .sh .any])
  · simp! [fFld, gNotIn, oNotInS, oNotInF, D.items, gi]
  apply sSeq_nx (en1 := [.sh (.ins "Tree" [.lst ld, hd0, .dT ks ds]), .sh (.str x), .sh (.int (k : Int)), .sh .any, .sh .any, .sh .any])
  · simp! [fFld, h1]
  apply sSeq_nx (en1 := [.sh (.ins "Tree" [.lst ld, hd0, .dT ks ds]), .sh (.str x), .sh (.int (k : Int)), .lst [], .sh (.tup [hd0]), .sh .any])
  · simp! [fFld, pn]
  apply sSeq_nx lp
  simp! [fnP]
theorem way_to_ok {g : D} {t : Tr} {x : Str} (T : TrG g t) (hx : x ∈ t.leaves) : ∃ k, t.leaves[k]? = some x ∧ m_way_to [.sh g, .sh (.str x)] = some (.lst (pW (t.way k 0)), [.sh g, .sh (.str x)]) := by
  obtain ⟨k, h1, e⟩ := tree_way_ok T.len hx
  refine ⟨k, h1, ?_⟩
  have gn := T.ne
  have mk := make_ok T (f := fVar 0) (en := [.sh g, .sh (.str x)]) (en1 := [.sh g, .sh (.str x)]) (by simp! [gn])
  have cl := t.cls
  have wc : W.cleans (pW (t.way k 0)) = true := cleans_sh (tdats_pD _)
  have od := t.objW_d
  refine fn_ret (n := 2) (np := 2) (b := b_way_to) rfl ⟨[.sh g, .sh (.str x)], ?_, rfl⟩
  unfold b_way_to
  generalize fMake "Tree" m_Tree_init [fVar 0] = fm at *
  generalize m_Tree_way = f1 at *
  generalize pW (t.way k 0) = wd at *
  generalize t.objW = tw at *
  generalize t.obj = td at *
  simp! [fCk, mk, cl, e, wc, od]
def Tr.cnt (num : List Nat) (u : Tr) (s : Nat) : Nat := if torn num (u.sp s) then (Tr.rowsOf num (u, s)).length else 0
def Tr.top (num : List Nat) (u : Tr) (s : Nat) : Bool := torn num (u.sp s) && long (u.row num s)
def Tr.size (t : Tr) (gone : List Str) : Nat := (t.hdr gone).length
def shL : Nat → Tr
  | 0 => .leaf ""
  | n + 1 => .node (shL n) (.leaf "")
theorem Sub.inP {u v : Tr} {s r k : Nat} (h : Sub u s v r) (hk : inP (v.sp r) k) : inP (u.sp s) k := by
  have b := h.bound
  unfold Pu.inP at *
  simp only [Tr.sp] at *
  omega
def putS (a c : List Str) : List Str := setS (a ++ c)
def addN (L : List (List Str)) (s : List Str) : List (List Str) := if s ∈ L then L else L ++ [s]
theorem addN_mem {L : List (List Str)} {s x : List Str} : x ∈ addN L s ↔ x ∈ L ∨ x = s := by
  unfold addN
  split
  · rename_i h
    exact ⟨.inl, fun z => z.elim id fun e => e ▸ h⟩
  · simp
theorem addN_nodup {L : List (List Str)} {s : List Str} (h : L.Nodup) : (addN L s).Nodup := by
  unfold addN
  split
  · exact h
  · rename_i z
    refine List.nodup_append.mpr ⟨h, by simp, fun a ha b hb e => ?_⟩
    simp only [List.mem_singleton] at hb
    exact z (hb ▸ e ▸ ha)
theorem adds_mem : ∀ (ss L : List (List Str)) (x : List Str), x ∈ ss.foldl addN L ↔ x ∈ L ∨ x ∈ ss
  | [], L, x => by simp
  | s :: ss, L, x => by
    rw [List.foldl_cons, adds_mem, addN_mem, List.mem_cons, or_assoc]
theorem adds_nodup : ∀ (ss L : List (List Str)), L.Nodup → (ss.foldl addN L).Nodup
  | [], L, h => h
  | s :: ss, L, h => by
    rw [List.foldl_cons]
    exact adds_nodup ss _ (addN_nodup h)
def nextK (cs K : List (List Str)) : List (List Str) := (K.flatMap fun o => cs.map fun c => putS o c).foldl addN []
def knownK (cs : List (List Str)) (b : List Str) : Nat → List (List Str)
  | 0 => [b]
  | m + 1 => nextK cs (knownK cs b m)
/-- all parts of a row -/
def powL : List Str → List (List Str)
  | [] => [[]]
  | x :: xs => powL xs ++ (powL xs).map fun s => x :: s
theorem powL_len : ∀ xs : List Str, (powL xs).length = 2 ^ xs.length
  | [] => rfl
  | x :: xs => by
    rw [powL, List.length_append, List.length_map, powL_len xs, List.length_cons, Nat.pow_succ]
    omega
theorem powL_sub : ∀ {xs s : List Str}, s.Sublist xs → s ∈ powL xs
  | [], s, h => by
    have := List.eq_nil_of_sublist_nil h
    subst this
    simp [powL]
  | x :: xs, s, h => by
    cases h with
    | cons _ h => exact List.mem_append.mpr (.inl (powL_sub h))
    | cons_cons _ h => exact List.mem_append.mpr (.inr (List.mem_map.mpr ⟨_, powL_sub h, rfl⟩))
theorem setS_row {row a : List Str} (hn : row.Nodup) (ha : ∀ x ∈ a, x ∈ row) : setS a = (srt leN row).filter fun x => decide (x ∈ a) := by
  symm
  refine srt_uni leN_tot leN_tr leN_an ?_ ((srt_pw leN_tot leN_tr _).filter _)
  refine (List.perm_ext_iff_of_nodup (((srt_perm leN _).nodup_iff.mpr hn).filter _) (ddS_nodup _)).mpr fun y => ?_
  rw [List.mem_filter, (srt_perm leN _).mem_iff, ddS_mem]
  exact ⟨fun h => by simpa using h.2, fun h => ⟨ha y h, by simpa using h⟩⟩
theorem nodup_leS : ∀ {xs ys : List (List Str)}, xs.Nodup → (∀ x ∈ xs, x ∈ ys) → xs.length ≤ ys.length
  | [], _, _, _ => Nat.zero_le _
  | x :: xs, ys, h, s => by
    obtain ⟨n1, n2⟩ := List.nodup_cons.mp h
    have hx := s x (by simp)
    have := nodup_leS (ys := ys.erase x) n2 fun y hy => (List.mem_erase_of_ne fun e => n1 (by rw [← e]; exact hy)).mpr (s y (by simp [hy]))
    rw [List.length_erase_of_mem hx] at this
    have hp := List.length_pos_of_mem hx
    simp only [List.length_cons]
    omega
/-- the matter of a search: a row of boxes, circles and what was begun with -/
structure Sr (row : List Str) (cs : List (List Str)) (b : List Str) : Prop where
  nd : row.Nodup
  len : row.length ≤ 8
  ok : ∀ x ∈ row, PyData.strOk x = true
  cin : ∀ c ∈ cs, ∀ x ∈ c, x ∈ row
  cl : ∀ c ∈ cs, c.length ≤ 100
  cn : cs.length ≤ 4000
  bin : ∀ x ∈ b, x ∈ row
  bl : b.length ≤ 100
section
variable {row b : List Str} {cs : List (List Str)}
theorem Sr.in (h : Sr row cs b) : ∀ (m : Nat), ∀ s ∈ knownK cs b m, ∀ x ∈ s, x ∈ row
  | 0, s, hs, x, hx => by
    simp only [knownK, List.mem_singleton] at hs
    exact h.bin x (hs ▸ hx)
  | m + 1, s, hs, x, hx => by
    simp only [knownK, nextK] at hs
    rcases (adds_mem _ _ _).mp hs with z | z
    · cases z
    · obtain ⟨o, ho, z⟩ := List.mem_flatMap.mp z
      obtain ⟨c, hc, rfl⟩ := List.mem_map.mp z
      rcases List.mem_append.mp (setS_mem.mp hx) with y | y
      · exact h.in m o ho x y
      · exact h.cin c hc x y
theorem Sr.set (h : Sr row cs b) {a : List Str} (ha : ∀ x ∈ a, x ∈ row) : (setS a).Sublist (srt leN row) := by
  rw [setS_row h.nd ha]
  exact List.filter_sublist
/-- lists of unions are short -/
theorem Sr.short (h : Sr row cs b) {L : List (List Str)} (hn : L.Nodup) (hL : ∀ s ∈ L, s.Sublist (srt leN row)) : L.length ≤ 256 := by
  have := nodup_leS hn fun s hs => powL_sub (hL s hs)
  rw [powL_len, (srt_perm leN _).length_eq] at this
  exact Nat.le_trans this (Nat.le_trans (Nat.pow_le_pow_right (by omega) h.len) (by omega))
theorem Sr.known (h : Sr row cs b) : ∀ (m : Nat), ∀ o ∈ knownK cs b m, (∀ x ∈ o, x ∈ row) ∧ o.length ≤ 200
  | 0, o, ho => by
    simp only [knownK, List.mem_singleton] at ho
    subst ho
    exact ⟨h.bin, by have := h.bl; omega⟩
  | m + 1, o, ho => by
    refine ⟨h.in (m + 1) o ho, ?_⟩
    simp only [knownK, nextK] at ho
    rcases (adds_mem _ _ _).mp ho with z | z
    · cases z
    · obtain ⟨p, hp, z⟩ := List.mem_flatMap.mp z
      obtain ⟨c, hc, rfl⟩ := List.mem_map.mp z
      have i1 := (h.known m p hp).1
      have := (h.set (a := p ++ c) fun x hx => (List.mem_append.mp hx).elim (i1 x) (h.cin c hc x)).length_le
      rw [(srt_perm leN _).length_eq] at this
      have := h.len
      show (setS (p ++ c)).length ≤ 200
      omega
theorem Sr.many (h : Sr row cs b) : ∀ m : Nat, (knownK cs b m).length ≤ 256
  | 0 => by simp [knownK]
  | m + 1 => by
    refine h.short (adds_nodup _ _ List.nodup_nil) fun s hs => ?_
    rcases (adds_mem _ _ _).mp hs with z | z
    · cases z
    · obtain ⟨p, hp, z⟩ := List.mem_flatMap.mp z
      obtain ⟨c, hc, rfl⟩ := List.mem_map.mp z
      have i1 := (h.known m p hp).1
      exact h.set (a := p ++ c) fun x hx => (List.mem_append.mp hx).elim (i1 x) (h.cin c hc x)
theorem Sr.okK (h : Sr row cs b) (m : Nat) : ∀ s ∈ knownK cs b m, okN s := fun s hs => by
  obtain ⟨h1, h2⟩ := h.known m s hs
  exact ⟨by omega, fun x hx => h.ok x (h1 x hx)⟩
end
theorem prs_sh (k : Nat) : ∀ (u : Tr) (s : Nat), u.prs (s + k) = (u.prs s).map (shP k)
  | .leaf _, s => by simp only [Tr.prs, List.map_cons, List.map_nil, shP]; rw [show s + k + 1 = s + 1 + k by omega]
  | .node l r, s => by
    simp only [Tr.prs, List.map_append, List.map_cons, List.map_nil, prs_sh k l s, ← prs_sh k r (s + l.leaves.length), shP]
    rw [show s + k + l.leaves.length = s + l.leaves.length + k by omega, show s + l.leaves.length + k + r.leaves.length = s + l.leaves.length + r.leaves.length + k by omega]
theorem sub_sh (k : Nat) : ∀ {t u : Tr} {a s : Nat}, Sub t a u s → Sub t (a + k) u (s + k)
  | _, _, _, _, .refl t a => .refl t (a + k)
  | _, _, _, _, .left h => .left (sub_sh k h)
  | _, _, _, _, .right (l := l) (r := r) (a := a) h => by
    have := sub_sh k h
    rw [show a + l.leaves.length + k = a + k + l.leaves.length by omega] at this
    exact .right this
theorem way_sh (j k : Nat) : ∀ (u : Tr) (s : Nat), u.way (k + j) (s + j) = (u.way k s).map (shP j)
  | .leaf _, s => by simp only [Tr.way, List.map_cons, List.map_nil, shP]; rw [show s + j + 1 = s + 1 + j by omega]
  | .node l r, s => by
    have e1 := way_sh j k l s
    have e2 := way_sh j k r (s + l.leaves.length)
    rw [show s + l.leaves.length + j = s + j + l.leaves.length by omega] at e2
    simp only [Tr.way, List.map_cons, e1, e2, shP]
    rw [show s + j + (l.leaves.length + r.leaves.length) = s + (l.leaves.length + r.leaves.length) + j by omega]
    congr 1
    by_cases h : k < s + l.leaves.length
    · rw [if_pos h, if_pos (by omega)]
    · rw [if_neg h, if_neg (by omega)]
theorem leP_sh {k : Nat} {a b : Nat × Nat} : leP (shP k a) (shP k b) = leP a b := by
  unfold leP shP
  rw [decide_eq_decide]
  simp only
  omega
theorem srt_sh (k : Nat) (xs : List (Nat × Nat)) : srt leP (xs.map (shP k)) = (srt leP xs).map (shP k) :=
  (srt_map (r := leP) (s := leP) (shP k) fun a _ b _ => leP_sh.symm).symm
section
variable {l r : Tr}
theorem way_l {k : Nat} (h : k < l.leaves.length) : (Tr.node l r).way k 0 = (0, l.leaves.length + r.leaves.length) :: l.way k 0 := by
  simp only [Tr.way, Nat.zero_add]
  rw [if_pos h]
theorem way_r {k : Nat} : (Tr.node l r).way (k + l.leaves.length) 0 = (0, l.leaves.length + r.leaves.length) :: (r.way k 0).map (shP l.leaves.length) := by
  have := way_sh l.leaves.length k r 0
  simp only [Tr.way, Nat.zero_add] at this ⊢
  rw [if_neg (by omega), this]
theorem knots_node : (Tr.node l r).knots = srt leP (l.knots ++ r.knots.map (shP l.leaves.length) ++ [(0, l.leaves.length + r.leaves.length)]) := by
  unfold Tr.knots
  refine srtP_eq ?_
  simp only [Tr.prs, Nat.zero_add]
  have e := prs_sh l.leaves.length r 0
  rw [Nat.zero_add] at e
  rw [e]
  simp only [List.append_assoc]
  have h1 : (l.prs 0).Perm (srt leP (l.prs 0)) := (srt_perm leP _).symm
  have h2 : (r.prs 0).Perm (srt leP (r.prs 0)) := (srt_perm leP _).symm
  exact h1.append ((h2.map _).append_right _)
theorem sub_in_r {u : Tr} {s : Nat} (h : Sub r 0 u s) : Sub (.node l r) 0 u (s + l.leaves.length) := by
  have := sub_sh l.leaves.length h
  exact .right this
theorem part_r {p : Nat × Nat} (hp : p ∈ r.prs 0) : (Tr.node l r).names (shP l.leaves.length p) = r.names p := by
  obtain ⟨u, s, h, rfl⟩ := prs_sub r 0 p hp
  have e : shP l.leaves.length (u.sp s) = u.sp (s + l.leaves.length) := (sp_sh u s _).symm
  unfold Tr.names
  rw [e, sub_part (sub_in_r h), sub_part h]
theorem mem_r {p : Nat × Nat} (hp : p ∈ r.prs 0) : shP l.leaves.length p ∈ (Tr.node l r).prs 0 := by
  obtain ⟨u, s, h, rfl⟩ := prs_sub r 0 p hp
  rw [show shP l.leaves.length (u.sp s) = u.sp (s + l.leaves.length) from (sp_sh u s _).symm]
  exact (sub_in_r h).mem
theorem below_srt {t u : Tr} {s : Nat} (h : Sub t 0 u s) : t.belows (u.sp s) = srt leP (u.prs s) := by
  have p := found_perm h
  have e : srt leP (t.belows (u.sp s)) = t.belows (u.sp s) := by
    unfold Tr.belows
    exact (srt_uni leP_tot leP_tr leP_an (List.Perm.refl _) (srt_pw leP_tot leP_tr _)).symm
  rw [← e]
  exact srtP_eq p
theorem below_r {p : Nat × Nat} (hp : p ∈ r.prs 0) : (Tr.node l r).belows (shP l.leaves.length p) = (r.belows p).map (shP l.leaves.length) := by
  obtain ⟨u, s, h, rfl⟩ := prs_sub r 0 p hp
  rw [show shP l.leaves.length (u.sp s) = u.sp (s + l.leaves.length) from (sp_sh u s _).symm, below_srt (sub_in_r h), below_srt h, prs_sh, srt_sh]
theorem side_top : (Tr.node l r).side 0 (0, l.leaves.length + r.leaves.length) = [(0, l.leaves.length), (l.leaves.length, l.leaves.length + r.leaves.length)] := by
  have := (Sub.refl (Tr.node l r) 0).side
  simp only [Tr.sp, Tr.leaves, List.length_append, Nat.zero_add] at this
  rw [this]
  simp [Tr.kids, Tr.sp]
end
def flP (n : Nat) (p : Nat × Nat) : Nat × Nat := (n - p.2, n - p.1)
theorem sub_bound : ∀ {t u : Tr} {a s : Nat}, Sub t a u s → a ≤ s ∧ s + u.leaves.length ≤ a + t.leaves.length
  | _, _, _, _, .refl t a => ⟨Nat.le_refl _, Nat.le_refl _⟩
  | _, _, _, _, .left h => by
    have := sub_bound h
    simp only [Tr.leaves, List.length_append]
    omega
  | _, _, _, _, .right h => by
    have := sub_bound h
    simp only [Tr.leaves, List.length_append]
    omega
theorem sub_mir : ∀ {t u : Tr} {a s : Nat} (b : Nat), Sub t a u s → Sub t.mir b u.mir (b + t.leaves.length - (s - a) - u.leaves.length)
  | _, _, _, _, b, .refl t a => by
    rw [show b + t.leaves.length - (a - a) - t.leaves.length = b by omega]
    exact .refl _ _
  | _, u, a, s, b, .left (l := l) (r := r) h => by
    have bd := sub_bound h
    have := sub_mir (b + r.mir.leaves.length) h
    simp only [Tr.mir, Tr.leaves, List.length_append]
    rw [mir_len] at this
    rw [show b + (l.leaves.length + r.leaves.length) - (s - a) - u.leaves.length = b + r.leaves.length + l.leaves.length - (s - a) - u.leaves.length by omega]
    refine .right ?_
    rw [mir_len]
    exact this
  | _, u, a, s, b, .right (l := l) (r := r) h => by
    have bd := sub_bound h
    have := sub_mir b h
    simp only [Tr.mir, Tr.leaves, List.length_append]
    rw [show b + (l.leaves.length + r.leaves.length) - (s - a) - u.leaves.length = b + r.leaves.length - (s - (a + l.leaves.length)) - u.leaves.length by omega]
    exact .left this
section
variable {t : Tr} {p : Nat × Nat}
theorem fl_sub (hp : p ∈ t.prs 0) : ∃ u s, Sub t 0 u s ∧ p = u.sp s ∧ Sub t.mir 0 u.mir (t.leaves.length - s - u.leaves.length) ∧ flP t.leaves.length p = u.mir.sp (t.leaves.length - s - u.leaves.length) ∧ s + u.leaves.length ≤ t.leaves.length := by
  obtain ⟨u, s, h, rfl⟩ := prs_sub t 0 p hp
  have bd := sub_bound h
  have m := sub_mir 0 h
  rw [show 0 + t.leaves.length - (s - 0) - u.leaves.length = t.leaves.length - s - u.leaves.length by omega] at m
  refine ⟨u, s, h, rfl, m, ?_, by omega⟩
  unfold flP Tr.sp
  rw [mir_len]
  exact Prod.ext (by simp only; omega) (by simp only; omega)
theorem fl_mem (hp : p ∈ t.prs 0) : flP t.leaves.length p ∈ t.mir.prs 0 := by
  obtain ⟨u, s, h, e, m, e2, _⟩ := fl_sub hp
  rw [e2]
  exact m.mem
theorem fl_names (hp : p ∈ t.prs 0) : t.mir.names (flP t.leaves.length p) = t.names p := by
  obtain ⟨u, s, h, e, m, e2, _⟩ := fl_sub hp
  unfold Tr.names
  rw [e2, e, sub_part m, sub_part h, mir_leaves]
  exact srtN_eq (List.reverse_perm _)
theorem fl_side (hp : p ∈ t.prs 0) : t.mir.side 0 (flP t.leaves.length p) = ((t.side 0 p).map (flP t.leaves.length)).reverse := by
  obtain ⟨u, s, h, e, m, e2, bd⟩ := fl_sub hp
  rw [e2, e, m.side, h.side]
  cases u with
  | leaf x => rfl
  | node a b =>
    simp only [Tr.leaves, List.length_append] at bd
    simp only [Tr.mir, Tr.kids, Tr.sp, Tr.leaves, List.length_append, List.map_cons, List.map_nil, List.reverse_cons, List.reverse_nil, List.nil_append, List.cons_append, mir_len, flP]
    have h1 : t.leaves.length - s - (a.leaves.length + b.leaves.length) + b.leaves.length = t.leaves.length - (s + a.leaves.length) := by omega
    have h2 : t.leaves.length - s - (a.leaves.length + b.leaves.length) = t.leaves.length - (s + a.leaves.length + b.leaves.length) := by omega
    have h3 : t.leaves.length - (s + a.leaves.length) + a.leaves.length = t.leaves.length - s := by omega
    rw [h1, h2, h3]
theorem mir_knots : t.mir.knots.length = t.knots.length := by
  have h1 := t.mir.knots_len
  have h2 := t.knots_len
  rw [mir_len] at h1
  omega
end
section
variable {t l r : Tr} {p : Nat × Nat} {k : Nat} {x : Str}
structure C6 (t : Tr) : Prop where
  ht : t.leaves.length ≤ 16
  nd : t.leaves.Nodup
  hx : ∀ x ∈ t.leaves, PyData.strOk x = true
theorem C6.T (C : C6 t) : TrG t.D t := TrG.self (by have := C.ht; omega) C.hx
theorem C6.lft (C : C6 (.node l r)) : C6 l := by
  have h := C.ht
  have n := C.nd
  have x := C.hx
  simp only [Tr.leaves, List.length_append] at h n x
  exact ⟨by omega, (List.nodup_append.mp n).1, fun y hy => x y (List.mem_append.mpr (.inl hy))⟩
theorem C6.rgt (C : C6 (.node l r)) : C6 r := by
  have h := C.ht
  have n := C.nd
  have x := C.hx
  simp only [Tr.leaves, List.length_append] at h n x
  exact ⟨by omega, (List.nodup_append.mp n).2.1, fun y hy => x y (List.mem_append.mpr (.inr hy))⟩
theorem uni6 {xs : List Str} {y : Str} {i j : Nat} (nd : xs.Nodup) (h1 : xs[i]? = some y) (h2 : xs[j]? = some y) : i = j := by
  have l1 := (List.getElem?_eq_some_iff.mp h1).1
  have l2 := (List.getElem?_eq_some_iff.mp h2).1
  have a := (List.getElem?_eq_some_iff.mp h1).2
  have b := (List.getElem?_eq_some_iff.mp h2).2
  have pw := List.pairwise_iff_getElem.mp nd
  rcases Nat.lt_trichotomy i j with z | z | z
  · exact absurd (a.trans b.symm) (pw i j l1 l2 z)
  · exact z
  · exact absurd (b.trans a.symm) (pw j i l2 l1 z)
theorem f_boxes (C : C6 t) : pCall m_boxes_in [t.D] = some (.tup (sD t.leaves)) := pCall_of (boxes_in_ok C.T) rfl (tdats_sD _)
theorem f_nodes (C : C6 t) : pCall m_nodes_in [t.D] = some (.lst (t.knots.map pD)) := pCall_of (nodes_in_ok C.T) (by rw [W.d, pW_ds]) (cleans_pW _)
theorem pairD_td6 (t : Tr) (p : Nat × Nat) : (t.pairD p).tdat = true := by
  unfold Tr.pairD
  split
  · rfl
  · exact tdats_pD _
theorem f_sides (C : C6 t) (hp : p ∈ t.prs 0) : pCall m_sides_of [t.D, pD p] = some (t.pairD p) := pCall_of (sides_of_ok C.T (okD_pD (n := 38) p) rfl hp) rfl (pairD_td6 t p)
theorem f_set (C : C6 t) (hp : p ∈ t.prs 0) : pCall m_boxes_of [t.D, pD p] = some (.tup (sD (t.names p))) := by
  have pm := t.prs_mem 0 p hp
  exact pCall_of (boxes_of_ok C.T (okD_pD (n := 38) p) rfl (by omega) (by omega)) rfl (tdats_sD _)
theorem f_below (C : C6 t) (hp : p ∈ t.prs 0) : pCall m_nodes_below [t.D, pD p] = some (.lst ((t.belows p).map pD)) := pCall_of (nodes_below_ok C.T (okD_pD (n := 38) p) rfl hp) (by rw [W.d, pW_ds]) (cleans_pW _)
theorem f_way (C : C6 t) (hk : t.leaves[k]? = some x) : pCall m_way_to [t.D, .str x] = some (.lst ((t.way k 0).map pD)) := by
  obtain ⟨k', hk', e⟩ := way_to_ok C.T (List.mem_of_getElem? hk)
  have : k' = k := uni6 C.nd hk' hk
  subst this
  exact pCall_of e (by rw [W.d, pW_ds]) (cleans_pW _)
theorem shifted_p {ps : List (Nat × Nat)} (h : ps.length ≤ 1000) : pCall m_law_shifted [.lst (ps.map pD), .int (k : Int)] = some (.lst ((ps.map (shP k)).map pD)) := by
  suffices q : m_law_shifted [.sh (.lst (ps.map pD)), .sh (.int (k : Int))] = some (.lst (pW (ps.map (shP k))), [.sh (.lst (ps.map pD)), .sh (.int (k : Int))]) from pCall_of q (by rw [W.d, pW_ds]) (cleans_pW _)
  apply fn_p (n := 3) (np := 2) (b := b_law_shifted) (en' := [.sh (.lst (ps.map pD)), .sh (.int (k : Int)), .sh .any]) rfl
  case h =>
    unfold b_law_shifted
    refine ret_pe (n := 1) (d := .lst ((ps.map (shP k)).map pD)) ?_ (ed_cl _) rfl (ed_up _)
    simp! only [P_fVar]
    rw [compQ_onA (o := fun p => pD (shP k p)) (by omega) fun p _ => ?_]
    · rw [Option.map_some, List.map_map]
      rfl
    · have up := ed_un (enc := pD) p
      have i0 : pIx [pD p, .int 0] = some (.int (p.1 : Int)) := rfl
      have i1 : pIx [pD p, .int 1] = some (.int (p.2 : Int)) := rfl
      simp! only [up, i0, i1]
      rfl
  case ho => rfl
end
theorem if_f6 {t : FT} {a b : FS} {en : En} {r : Option (En × Fl)} (e : PT t (en.map W.d) = some false) (h : b en = r) : sIf (fPureT t) a b en = r := if_p e h
section
variable {t l r : Tr} {p : Nat × Nat} {k : Nat} {x : Str}
theorem D_node (l r : Tr) : (Tr.node l r).D = .tup [l.D, r.D] := rfl
theorem way6_len (u : Tr) (k s : Nat) (h : u.leaves.length ≤ 16) : (u.way k s).length ≤ 16 := by
  have := u.way_len k s
  omega
theorem un_B : un (.tup [l.D, r.D]) = some (.tup [l.D, r.D]) := rfl
theorem sum6 (C : C6 (.node l r)) : l.leaves.length + r.leaves.length ≤ 16 ∧ 0 < l.leaves.length ∧ 0 < r.leaves.length := by
  have h := C.ht
  simp only [Tr.leaves, List.length_append] at h
  exact ⟨h, l.pos, r.pos⟩
theorem headD6 : D.tup [.int 0, .int ((l.leaves.length : Int) + (r.leaves.length : Int))] = pD (0, l.leaves.length + r.leaves.length) := by
  unfold pD
  simp
theorem step_r {x2 x4 x8 : W} (C : C6 (.node l r)) (hx : x ∈ r.leaves) : l_law_joined_right_1 [.sh l.D, .sh r.D, x2, .sh (.str x), x4, .sh (.tup [l.D, r.D]), .sh (.int (l.leaves.length : Int)), .sh (.int (r.leaves.length : Int)), x8] =
    some ([.sh l.D, .sh r.D, x2, .sh (.str x), x4, .sh (.tup [l.D, r.D]), .sh (.int (l.leaves.length : Int)), .sh (.int (r.leaves.length : Int)), x8], .nx) := by
  obtain ⟨s1, s2, s3⟩ := sum6 C
  obtain ⟨k, hk, e⟩ := List.mem_iff_getElem.mp hx
  have g1 : r.leaves[k]? = some x := by rw [List.getElem?_eq_getElem hk, e]
  have g2 : (Tr.node l r).leaves[k + l.leaves.length]? = some x := by
    show (l.leaves ++ r.leaves)[k + l.leaves.length]? = some x
    rw [List.getElem?_append_right (by omega), Nat.add_sub_cancel]
    exact g1
  have w1 := f_way C g2
  have w2 := f_way C.rgt g1
  rw [way_r, D_node, List.map_cons] at w1
  have wl := way6_len r k 0 (by omega)
  have sh := shifted_p (k := l.leaves.length) (ps := r.way k 0) (by omega)
  have tl := un_T l
  have tr := un_T r
  have hd := headD6 (l := l) (r := r)
  have ne : oNe [.lst (pD (0, l.leaves.length + r.leaves.length) :: ((r.way k 0).map (shP l.leaves.length)).map pD), .lst (pD (0, l.leaves.length + r.leaves.length) :: ((r.way k 0).map (shP l.leaves.length)).map pD)] = some (.bl false) := by
    have := ed_oNeL (enc := pD) ((0, l.leaves.length + r.leaves.length) :: (r.way k 0).map (shP l.leaves.length)) ((0, l.leaves.length + r.leaves.length) :: (r.way k 0).map (shP l.leaves.length))
    rw [decide_eq_true rfl] at this
    exact this
  unfold l_law_joined_right_1
  refine (if_f6 ?_ rfl)
  have ub := un_B (l := l) (r := r)
  simp! only [tl, tr, ub, w1, w2, sh, hd]
  rw [if_pos (size_le (by omega))]
  simp! only [ne]
theorem step_l {x2 x4 x8 : W} (C : C6 (.node l r)) (hx : x ∈ l.leaves) : l_law_joined_right_2 [.sh l.D, .sh r.D, x2, .sh (.str x), x4, .sh (.tup [l.D, r.D]), .sh (.int (l.leaves.length : Int)), .sh (.int (r.leaves.length : Int)), x8] =
    some ([.sh l.D, .sh r.D, x2, .sh (.str x), x4, .sh (.tup [l.D, r.D]), .sh (.int (l.leaves.length : Int)), .sh (.int (r.leaves.length : Int)), x8], .nx) := by
  obtain ⟨s1, s2, s3⟩ := sum6 C
  obtain ⟨k, hk, e⟩ := List.mem_iff_getElem.mp hx
  have g1 : l.leaves[k]? = some x := by rw [List.getElem?_eq_getElem hk, e]
  have g2 : (Tr.node l r).leaves[k]? = some x := by
    show (l.leaves ++ r.leaves)[k]? = some x
    rw [List.getElem?_append_left hk]
    exact g1
  have w1 := f_way C g2
  have w2 := f_way C.lft g1
  rw [way_l hk, D_node, List.map_cons] at w1
  have wl := way6_len l k 0 (by omega)
  have tl := un_T l
  have tr := un_T r
  have hd := headD6 (l := l) (r := r)
  have ne : oNe [.lst (pD (0, l.leaves.length + r.leaves.length) :: (l.way k 0).map pD), .lst (pD (0, l.leaves.length + r.leaves.length) :: (l.way k 0).map pD)] = some (.bl false) := by
    have := ed_oNeL (enc := pD) ((0, l.leaves.length + r.leaves.length) :: l.way k 0) ((0, l.leaves.length + r.leaves.length) :: l.way k 0)
    rw [decide_eq_true rfl] at this
    exact this
  unfold l_law_joined_right_2
  refine (if_f6 ?_ rfl)
  have ub := un_B (l := l) (r := r)
  simp! only [tl, tr, ub, w1, w2, hd]
  rw [if_pos (size_le (by omega))]
  simp! only [ne]
theorem setN (xs : List Str) (h : xs.length ≤ 1000) (hx : ∀ x ∈ xs, PyData.strOk x = true) : oNe [.tup (sD xs), .tup (sD xs)] = some (.bl false) := oNe_self (okD_names h hx (by omega))
theorem step_k {x2 x3 x8 : W} (C : C6 (.node l r)) (hp : p ∈ r.prs 0) : ∃ y8, l_law_joined_right_3 [.sh l.D, .sh r.D, x2, x3, .sh (pD p), .sh (.tup [l.D, r.D]), .sh (.int (l.leaves.length : Int)), .sh (.int (r.leaves.length : Int)), x8] =
    some ([.sh l.D, .sh r.D, x2, x3, .sh (pD p), .sh (.tup [l.D, r.D]), .sh (.int (l.leaves.length : Int)), .sh (.int (r.leaves.length : Int)), y8], .nx) := by
  obtain ⟨s1, s2, s3⟩ := sum6 C
  have hq := mem_r (l := l) hp
  have w1 := f_set C hq
  have w2 := f_set C.rgt hp
  have w3 := f_below C hq
  have w4 := f_below C.rgt hp
  rw [part_r hp, D_node] at w1
  rw [below_r hp, D_node] at w3
  have pm := r.prs_mem 0 p hp
  have bl := r.below_len p
  unfold wt at bl
  have sh := shifted_p (k := l.leaves.length) (ps := r.belows p) (by omega)
  have tl := un_T l
  have tr := un_T r
  have up := ed_un (enc := pD) p
  have uq := ed_un (enc := pD) (shP l.leaves.length p)
  have n1 := setN (r.names p) (by have := r.names_len (p := p) (by omega); omega) fun x hx => C.rgt.hx x (r.names_sub hx)
  have n2 := ed_oNeL (enc := pD) ((r.belows p).map (shP l.leaves.length)) ((r.belows p).map (shP l.leaves.length))
  rw [decide_eq_true rfl] at n2
  have i0 : pIx [pD p, .int 0] = some (.int (p.1 : Int)) := rfl
  have i1 : pIx [pD p, .int 1] = some (.int (p.2 : Int)) := rfl
  refine ⟨.sh (pD (shP l.leaves.length p)), ?_⟩
  unfold l_law_joined_right_3
  have ub := un_B (l := l) (r := r)
  refine asg_pt (d := pD (shP l.leaves.length p)) ?_ rfl (by simp) ?_
  · simp! only [up, i0, i1]
    rfl
  refine seq_no ?_ (if_f6 ?_ rfl)
  · simp! only [ub, uq, w1, up, tr, w2, n1]
  · simp! only [ub, uq, w3, up, tr, w4, sh, n2]
end
section
variable {t l r : Tr} {p : Nat × Nat} {k : Nat} {x : Str}
theorem joined_ok (C : C6 (.node l r)) : m_law_joined_right [.sh l.D, .sh r.D] = some (.sh (.bl true), [.sh l.D, .sh r.D]) := by
  obtain ⟨s1, s2, s3⟩ := sum6 C
  have tl := un_T l
  have tr := un_T r
  have ub := un_B (l := l) (r := r)
  have b1 := f_boxes C.lft
  have b2 := f_boxes C.rgt
  have b3 := f_boxes C
  have n1 := f_nodes C.lft
  have n2 := f_nodes C.rgt
  have n3 := f_nodes C
  rw [D_node] at b3 n3
  have kl := l.knots_len
  have kr := r.knots_len
  have kb := (Tr.node l r).knots_len
  have ll : (Tr.node l r).leaves = l.leaves ++ r.leaves := rfl
  have sh := shifted_p (k := l.leaves.length) (ps := r.knots) (by omega)
  have hd := headD6 (l := l) (r := r)
  have hm : (0, l.leaves.length + r.leaves.length) ∈ (Tr.node l r).prs 0 := by
    have := (Tr.node l r).head_mem 0
    rw [Nat.zero_add, ll, List.length_append] at this
    exact this
  have sd := f_sides C hm
  have sx := f_set C hm
  rw [D_node] at sd sx
  have pr : (Tr.node l r).pairD (0, l.leaves.length + r.leaves.length) = .tup [pD (0, l.leaves.length), pD (l.leaves.length, l.leaves.length + r.leaves.length)] := by
    unfold Tr.pairD
    rw [side_top, if_neg (by simp)]
    rfl
  rw [pr] at sd
  have nm : (Tr.node l r).names (0, l.leaves.length + r.leaves.length) = srt leN (l.leaves ++ r.leaves) := by
    unfold Tr.names Tr.part
    simp only [List.drop_zero, Nat.sub_zero, ll]
    rw [List.take_of_length_le (by rw [List.length_append]; omega)]
  rw [nm] at sx
  have so : oSortX (((l.knots ++ r.knots.map (shP l.leaves.length)) ++ [(0, l.leaves.length + r.leaves.length)]).map pD) = some ((Tr.node l r).knots.map pD) := by
    rw [knots_node]
    haveI : Sm ((l.knots ++ r.knots.map (shP l.leaves.length)) ++ [(0, l.leaves.length + r.leaves.length)]) := ⟨by simp; omega⟩
    exact sort_nodes _
  have e1 : oNe [.tup (sD (l.leaves ++ r.leaves)), .tup (sD (l.leaves ++ r.leaves))] = some (.bl false) := setN _ (by rw [List.length_append]; omega) C.hx
  have e2 := ed_oNeL (enc := pD) (Tr.node l r).knots (Tr.node l r).knots
  rw [decide_eq_true rfl] at e2
  have e3 : oNe [.tup [pD (0, l.leaves.length), pD (l.leaves.length, l.leaves.length + r.leaves.length)], .tup [pD (0, l.leaves.length), pD (l.leaves.length, l.leaves.length + r.leaves.length)]] = some (.bl false) := oNe_self (okD_tup (n := 39) (by simp) fun d hd => by
    simp only [List.mem_cons, List.not_mem_nil, or_false] at hd
    rcases hd with rfl | rfl <;> exact okD_pD (n := 37) _)
  have nh : ∀ x ∈ srt leN (l.leaves ++ r.leaves), PyData.strOk x = true := fun x hx => C.hx x ((srt_perm leN _).mem_iff.mp hx)
  have sl : (srt leN (l.leaves ++ r.leaves)).length = l.leaves.length + r.leaves.length := by rw [(srt_perm leN _).length_eq, List.length_append]
  have e4 : oEq [.tup (sD (srt leN (l.leaves ++ r.leaves))), .tup (sD (srt leN (l.leaves ++ r.leaves)))] = some (.bl true) := by
    rw [oEq_two, eqD_refl (n := 40) (okD_names (by omega) nh (by omega)) (by omega)]
    rfl
  have so2 := oSortX_names (xs := l.leaves ++ r.leaves) (by rw [List.length_append]; omega)
  obtain ⟨ea, lpa, y3, rfl⟩ := sForT (v := 3) (fi := iSeq (fPure (fCallP m_boxes_in [(fVar 1)]))) (body := l_law_joined_right_1) (en := [.sh l.D, .sh r.D, .lst (pW (Tr.node l r).knots), .sh .any, .sh .any, .sh (.tup [l.D, r.D]), .sh (.int (l.leaves.length : Int)), .sh (.int (r.leaves.length : Int)), .sh .any]) (en1 := [.sh l.D, .sh r.D, .lst (pW (Tr.node l r).knots), .sh .any, .sh .any, .sh (.tup [l.D, r.D]), .sh (.int (l.leaves.length : Int)), .sh (.int (r.leaves.length : Int)), .sh .any]) D.str r.leaves
    (fun pre en => ∃ y3, en = [.sh l.D, .sh r.D, .lst (pW (Tr.node l r).knots), y3, .sh .any, .sh (.tup [l.D, r.D]), .sh (.int (l.leaves.length : Int)), .sh (.int (r.leaves.length : Int)), .sh .any]) (by
      refine iSeq_p (d := .tup (sD r.leaves)) ?_ (cl_tdat (by simp only [D.tdat]; exact tdats_sD _)) rfl
      simp! only [tr, b2]) ⟨_, rfl⟩ fun pre x post en e h => by
    obtain ⟨y3, rfl⟩ := h
    exact ⟨by simp, _, step_r C (by rw [e]; simp), _, rfl⟩
  obtain ⟨eb, lpb, z3, rfl⟩ := sForT (v := 3) (fi := iSeq (fPure (fCallP m_boxes_in [(fVar 0)]))) (body := l_law_joined_right_2) (en := [.sh l.D, .sh r.D, .lst (pW (Tr.node l r).knots), y3, .sh .any, .sh (.tup [l.D, r.D]), .sh (.int (l.leaves.length : Int)), .sh (.int (r.leaves.length : Int)), .sh .any]) (en1 := [.sh l.D, .sh r.D, .lst (pW (Tr.node l r).knots), y3, .sh .any, .sh (.tup [l.D, r.D]), .sh (.int (l.leaves.length : Int)), .sh (.int (r.leaves.length : Int)), .sh .any]) D.str l.leaves
    (fun pre en => ∃ y3, en = [.sh l.D, .sh r.D, .lst (pW (Tr.node l r).knots), y3, .sh .any, .sh (.tup [l.D, r.D]), .sh (.int (l.leaves.length : Int)), .sh (.int (r.leaves.length : Int)), .sh .any]) (by
      refine iSeq_p (d := .tup (sD l.leaves)) ?_ (cl_tdat (by simp only [D.tdat]; exact tdats_sD _)) rfl
      simp! only [tl, b1]) ⟨_, rfl⟩ fun pre x post en e h => by
    obtain ⟨y3, rfl⟩ := h
    exact ⟨by simp, _, step_l C (by rw [e]; simp), _, rfl⟩
  obtain ⟨ec, lpc, z4, z8, rfl⟩ := sForT (v := 4) (fi := iSeq (fPure (fCallP m_nodes_in [(fVar 1)]))) (body := l_law_joined_right_3) (en := [.sh l.D, .sh r.D, .lst (pW (Tr.node l r).knots), z3, .sh .any, .sh (.tup [l.D, r.D]), .sh (.int (l.leaves.length : Int)), .sh (.int (r.leaves.length : Int)), .sh .any]) (en1 := [.sh l.D, .sh r.D, .lst (pW (Tr.node l r).knots), z3, .sh .any, .sh (.tup [l.D, r.D]), .sh (.int (l.leaves.length : Int)), .sh (.int (r.leaves.length : Int)), .sh .any]) pD r.knots
    (fun pre en => ∃ y4 y8, en = [.sh l.D, .sh r.D, .lst (pW (Tr.node l r).knots), z3, y4, .sh (.tup [l.D, r.D]), .sh (.int (l.leaves.length : Int)), .sh (.int (r.leaves.length : Int)), y8]) (by
      refine iSeq_p (d := .lst (r.knots.map pD)) ?_ (ed_cl (enc := pD) _) rfl
      simp! only [tr, n2]) ⟨_, _, rfl⟩ fun pre p post en e h => by
    obtain ⟨y4, y8, rfl⟩ := h
    have hp : p ∈ r.prs 0 := (srt_perm leP _).mem_iff.mp (by
      show p ∈ r.knots
      rw [e]
      simp)
    obtain ⟨w8, eb⟩ := step_k (x2 := .lst (pW (Tr.node l r).knots)) (x3 := z3) (x8 := y8) C hp
    exact ⟨by simp, _, eb, _, w8, rfl⟩
  apply fn_p (n := 9) (np := 2) (b := b_law_joined_right) (en' := [.sh l.D, .sh r.D, .lst (pW (Tr.node l r).knots), z3, z4, .sh (.tup [l.D, r.D]), .sh (.int (l.leaves.length : Int)), .sh (.int (r.leaves.length : Int)), z8]) rfl
  case h =>
    unfold b_law_joined_right
    refine sSeq_nx (en1 := [.sh l.D, .sh r.D, .sh .any, .sh .any, .sh .any, .sh (.tup [l.D, r.D]), .sh (.int (l.leaves.length : Int)), .sh (.int (r.leaves.length : Int)), .sh .any]) ?_ ?_
    · have p1 : fPure (fLen (fCallP m_boxes_in [(fVar 0)])) [.sh l.D, .sh r.D, .sh .any, .sh .any, .sh .any, .sh .any, .sh .any, .sh .any, .sh .any] = some ([.sh l.D, .sh r.D, .sh .any, .sh .any, .sh .any, .sh .any, .sh .any, .sh .any, .sh .any], .val (.sh (.int (l.leaves.length : Int)))) := by
        have sl := sD_len l.leaves
        exact pure_up (d := .int (l.leaves.length : Int)) (by
          generalize sD l.leaves = ds at *
          simp! only [tl, b1, sl]) rfl
      have p2 : fPure (fLen (fCallP m_boxes_in [(fVar 1)])) [.sh l.D, .sh r.D, .sh .any, .sh .any, .sh .any, .sh .any, .sh .any, .sh .any, .sh .any] = some ([.sh l.D, .sh r.D, .sh .any, .sh .any, .sh .any, .sh .any, .sh .any, .sh .any, .sh .any], .val (.sh (.int (r.leaves.length : Int)))) := by
        have sl := sD_len r.leaves
        exact pure_up (d := .int (r.leaves.length : Int)) (by
          generalize sD r.leaves = ds at *
          simp! only [tr, b2, sl]) rfl
      have s2' : 2 ≤ sizeLine := size_le (by omega)
      have tdl := l.D_ne
      have tdr := r.D_ne
      generalize fPure (fLen (fCallP m_boxes_in [(fVar 0)])) = f1 at *
      generalize fPure (fLen (fCallP m_boxes_in [(fVar 1)])) = f2 at *
      generalize l.D = g1 at *
      generalize r.D = g2 at *
      simp_arith [p1, p2, s2', tdl, tdr]
    refine seq_no ?_ ?_
    · simp! only [ub, b3, tl, b1, tr, b2]
      rw [if_pos (size_le (by rw [sD_len, sD_len]; omega))]
      have ea : sD l.leaves ++ sD r.leaves = sD (l.leaves ++ r.leaves) := by unfold sD; rw [List.map_append]
      rw [ea, ll]
      simp! only [e1]
    refine asg_p (d := .lst ((Tr.node l r).knots.map pD)) ?_ (ed_cl _) (by simp) ?_
    · simp! only [tl, n1, tr, n2, sh, hd]
      rw [if_pos (size_le (by first | omega | (simp; omega)))]
      simp! only [P_fVar]
      rw [if_pos (size_le (by first | omega | (simp; omega)))]
      rw [List.map_append, List.map_append] at so
      have so' : oSortX (l.knots.map pD ++ (r.knots.map (shP l.leaves.length)).map pD ++ [pD (0, l.leaves.length + r.leaves.length)]) = some ((Tr.node l r).knots.map pD) := so
      simp! only [P_fVar]
      rw [so']
      rfl
    rw [ed_up]
    refine seq_no ?_ (sSeq_nx lpa (sSeq_nx lpb (sSeq_nx lpc ?_)))
    · have wd : W.ds (pW (Tr.node l r).knots) = (Tr.node l r).knots.map pD := pW_ds _
      have wm : ((Tr.node l r).knots.map pD).map W.sh = pW (Tr.node l r).knots := rfl
      have q0 : D.tup [.int 0, .int (l.leaves.length : Int)] = pD (0, l.leaves.length) := rfl
      have q1 : D.tup [.int (l.leaves.length : Int), .int ((l.leaves.length : Int) + (r.leaves.length : Int))] = pD (l.leaves.length, l.leaves.length + r.leaves.length) := by unfold pD; simp
      rw [wm]
      generalize pW (Tr.node l r).knots = kw at *
      simp! only [ub, n3, wd, e2, hd, q0, q1, sd, e3]
    · refine ret_pt (d := .bl true) ?_ rfl
      simp! only [ub, hd, sx, b3, ll, so2, e4]
  case ho => rfl
end
theorem if_t6 {t : FT} {a b : FS} {en : En} {r : Option (En × Fl)} (e : PT t (en.map W.d) = some true) (h : a en = r) : sIf (fPureT t) a b en = r := if_p e h
theorem par_up6 {n m : Nat} {f g : FE} [Ow n f] [Ow m g] {i j : Nat} {en : En} {a b : D} (e1 : P f (en.map W.d) = some a) (c1 : cl n a = true) (e2 : P g (en.map W.d) = some b) (c2 : cl m b = true) (hi : i < en.length) (hj : j < en.length) :
    sPar (gsCons (gN i) (gsCons (gN j) gsNil)) [fPure f, fPure g] en = some ((en.set i (up a)).set j (up b), .nx) := by
  have hj' : j < (en.set i (up a)).length := by simpa using hj
  simp only [sPar, evs, pure_up e1 c1, pure_up e2 c2, R.st, rtk, R.tk, gsCons, gsNil, gN, hi, hj', if_true]
theorem mirr_m : ∀ {n : Nat} (t : Tr), t.dep < n → m_law_mirrored n [.sh t.D] = some (.sh t.mir.D, [.sh t.D])
  | 0, t, h => by omega
  | n + 1, .leaf x, _ => by simp_all! [m_law_mirrored, b_law_mirrored, Tr.D, Tr.mir, oIsi, D.tyn, isi7, fPureT]
  | n + 1, .node l r, h => by
    simp only [Tr.dep] at h
    have e1 := mirr_m (n := n) l (by omega)
    have e2 := mirr_m (n := n) r (by omega)
    have tl := l.D_ne
    have tr := r.D_ne
    have tm := l.mir.tdat
    have rm := r.mir.tdat
    simp_all! [m_law_mirrored, b_law_mirrored, Tr.D, Tr.mir, fPureT, oIsi, D.tyn, isi8, ixN, atI, e1, e2, tl, tr, tm, rm]
theorem mirr_p {n : Nat} (t : Tr) (h : t.dep < n) : pCall (m_law_mirrored n) [t.D] = some t.mir.D := pCall_of (mirr_m t h) rfl (Tr.tdat _)
theorem C6.mir {t : Tr} (C : C6 t) : C6 t.mir := ⟨by rw [mir_len]; exact C.ht, mir_nd C.nd, fun x hx => C.hx x (mir_mem.mp hx)⟩
section
variable {t : Tr} {p : Nat × Nat}
theorem flD (h : p.1 < p.2) (h2 : p.2 ≤ t.leaves.length) : D.tup [.int ((t.leaves.length : Int) - (p.2 : Int)), .int ((t.leaves.length : Int) - (p.1 : Int))] = pD (flP t.leaves.length p) := by
  have e1 : (t.leaves.length : Int) - (p.2 : Int) = ((t.leaves.length - p.2 : Nat) : Int) := by omega
  have e2 : (t.leaves.length : Int) - (p.1 : Int) = ((t.leaves.length - p.1 : Nat) : Int) := by omega
  rw [e1, e2]
  rfl
theorem side_two (hp : p ∈ t.prs 0) : t.side 0 p = [] ∨ ∃ a b, t.side 0 p = [a, b] ∧ (a.1 < a.2 ∧ a.2 ≤ t.leaves.length) ∧ (b.1 < b.2 ∧ b.2 ≤ t.leaves.length) := by
  obtain ⟨u, s, h, rfl⟩ := prs_sub t 0 p hp
  have bd := sub_bound h
  rw [h.side]
  cases u with
  | leaf x => exact .inl rfl
  | node a b =>
    simp only [Tr.leaves, List.length_append] at bd
    have pa := a.pos
    have pb := b.pos
    exact .inr ⟨_, _, rfl, ⟨by simp only [Tr.sp]; omega, by simp only [Tr.sp]; omega⟩, ⟨by simp only [Tr.sp]; omega, by simp only [Tr.sp]; omega⟩⟩
theorem turn_step {x1 x4 x5 x6 : W} (C : C6 t) (hp : p ∈ t.prs 0) : ∃ y4 y5 y6, l_law_turned_right_1 [.sh t.D, .sh (pD p), .sh t.mir.D, .sh (.int (t.leaves.length : Int)), x4, x5, x6] =
    some ([.sh t.D, .sh (pD p), .sh t.mir.D, .sh (.int (t.leaves.length : Int)), y4, y5, y6], .nx) := by
  have pm := t.prs_mem 0 p hp
  have hq := fl_mem hp
  have w1 := f_set C.mir hq
  have w2 := f_set C hp
  rw [fl_names hp] at w1
  have w3 := f_sides C.mir hq
  have w4 := f_sides C hp
  have tn := un_T t
  have mn := un_T t.mir
  have up := ed_un (enc := pD) p
  have uq := ed_un (enc := pD) (flP t.leaves.length p)
  have i0 : pIx [pD p, .int 0] = some (.int (p.1 : Int)) := rfl
  have i1 : pIx [pD p, .int 1] = some (.int (p.2 : Int)) := rfl
  have fd := flD (t := t) (p := p) (by omega) (by omega)
  have hlt := C.ht
  have n1 := setN (t.names p) (by have := t.names_len (p := p) (by omega); omega) fun x hx => C.hx x (t.names_sub hx)
  have ptd := pairD_td6 t p
  have ps : ∀ en : En, (en.map W.d)[0]? = some t.D → (en.map W.d)[1]? = some (pD p) → (en.map W.d)[3]? = some (.int (t.leaves.length : Int)) → 6 < en.length → sPar (gsCons (gN 5) (gsCons (gN 6) gsNil)) [(fPure (fTup [(fSub (fVar 3) (fIx (fVar 1) (fC (.int 1)))), (fSub (fVar 3) (fIx (fVar 1) (fC (.int 0))))])), (fPure (fCallP m_sides_of [(fVar 0), (fVar 1)]))] en = some ((en.set 5 (.sh (pD (flP t.leaves.length p)))).set 6 (.sh (t.pairD p)), .nx) := fun en h0 h1 h3 hl => by
    refine (par_up6 (a := pD (flP t.leaves.length p)) (b := t.pairD p) ?_ (cl_tdat rfl) ?_ (cl_tdat ptd) (by omega) (by omega)).trans ?_
    · simp! only [h3, h1, up, i0, i1]
      exact congrArg some fd
    · simp! only [h0, h1, tn, up, w4]
    · rw [up_tdat (show (pD (flP t.leaves.length p)).tdat = true from rfl), up_tdat ptd]
  have ps' := ps [.sh t.D, .sh (pD p), .sh t.mir.D, .sh (.int (t.leaves.length : Int)), x4, x5, x6] rfl rfl rfl (by simp)
  rcases side_two hp with h0 | ⟨a, b, hs, ⟨a1, a2⟩, b1, b2⟩
  · have e1 : t.pairD p = .non := by unfold Tr.pairD; rw [if_pos h0]
    have e2 : t.mir.pairD (flP t.leaves.length p) = .non := by unfold Tr.pairD; rw [fl_side hp, h0]; rfl
    rw [e2] at w3
    rw [e1] at ps'
    refine ⟨.sh .non, .sh (pD (flP t.leaves.length p)), .sh .non, ?_⟩
    unfold l_law_turned_right_1
    refine sSeq_nx ps' ?_
    have nn : oNe [.non, .non] = some (.bl false) := oNe_self (by simp [okD])
    have nt : oNotN [.non, .non] = some (.bl false) := rfl
    refine seq_no ?_ ?_
    · simp! only [mn, uq, w1, tn, up, w2, n1]
    refine sSeq_nx (en1 := [.sh t.D, .sh (pD p), .sh t.mir.D, .sh (.int (t.leaves.length : Int)), .sh .non, .sh (pD (flP t.leaves.length p)), .sh .non]) rfl (seq_no ?_ (if_f6 ?_ rfl))
    · simp! only [nt]
    · simp! only [mn, uq, w3, nn]
  · have e1 : t.pairD p = .tup [pD a, pD b] := by unfold Tr.pairD; rw [hs, if_neg (by simp)]; rfl
    have e2 : t.mir.pairD (flP t.leaves.length p) = .tup [pD (flP t.leaves.length b), pD (flP t.leaves.length a)] := by unfold Tr.pairD; rw [fl_side hp, hs]; rfl
    rw [e2] at w3
    rw [e1] at ps'
    refine ⟨.sh (.tup [pD (flP t.leaves.length b), pD (flP t.leaves.length a)]), .sh (pD (flP t.leaves.length p)), .sh (.tup [pD a, pD b]), ?_⟩
    unfold l_law_turned_right_1
    refine sSeq_nx ps' ?_
    have nn : oNe [.tup [pD (flP t.leaves.length b), pD (flP t.leaves.length a)], .tup [pD (flP t.leaves.length b), pD (flP t.leaves.length a)]] = some (.bl false) := oNe_self (okD_tup (n := 39) (by simp) fun d hd => by
      simp only [List.mem_cons, List.not_mem_nil, or_false] at hd
      rcases hd with rfl | rfl <;> exact okD_pD (n := 37) _)
    have nt : oNotN [.tup [pD a, pD b], .non] = some (.bl true) := rfl
    have fa := flD (t := t) (p := a) a1 a2
    have fb := flD (t := t) (p := b) b1 b2
    refine seq_no ?_ ?_
    · simp! only [mn, uq, w1, tn, up, w2, n1]
    refine sSeq_nx (en1 := [.sh t.D, .sh (pD p), .sh t.mir.D, .sh (.int (t.leaves.length : Int)), .sh .non, .sh (pD (flP t.leaves.length p)), .sh (.tup [pD a, pD b])]) rfl ?_
    refine sSeq_nx (en1 := [.sh t.D, .sh (pD p), .sh t.mir.D, .sh (.int (t.leaves.length : Int)), .sh (.tup [pD (flP t.leaves.length b), pD (flP t.leaves.length a)]), .sh (pD (flP t.leaves.length p)), .sh (.tup [pD a, pD b])]) (if_t6 ?_ ?_) (if_f6 ?_ rfl)
    · simp! only [nt]
    · refine (asg_p1 (d := .tup [pD (flP t.leaves.length b), pD (flP t.leaves.length a)]) ?_ (cl_tdat rfl) (by simp)).trans rfl
      have ix0 : ∀ q : Nat × Nat, pIx [pD q, .int 0] = some (.int (q.1 : Int)) := fun _ => rfl
      have ix1 : ∀ q : Nat × Nat, pIx [pD q, .int 1] = some (.int (q.2 : Int)) := fun _ => rfl
      simp! only [ix0, ix1, fa, fb]
    · simp! only [mn, uq, w3, nn]
theorem turned_ok (C : C6 t) : m_law_turned_right [.sh t.D] = some (.sh (.bl true), [.sh t.D]) := by
  have tn := un_T t
  have mn := un_T t.mir
  have b1 := f_boxes C
  have b2 := f_boxes C.mir
  have n1 := f_nodes C
  have n2 := f_nodes C.mir
  have hlt := C.ht
  have mp := mirr_p (n := 40) t (by have := t.dep_lt; omega)
  have kl := mir_knots (t := t)
  rw [mir_leaves] at b2
  have e1 : oNe [.tup (sD t.leaves.reverse), .tup (sD t.leaves.reverse)] = some (.bl false) := setN _ (by rw [List.length_reverse]; omega) fun x hx => C.hx x (List.mem_reverse.mp hx)
  have rv : pRevT (.tup (sD t.leaves)) = some (.tup (sD t.leaves.reverse)) := by
    unfold sD
    rw [pRevT_tup, List.map_reverse]
  obtain ⟨en', lp, y1, y4, y5, y6, rfl⟩ := sForT (v := 1) (fi := iSeq (fPure (fCallP m_nodes_in [(fVar 0)]))) (body := l_law_turned_right_1) (en := [.sh t.D, .sh .any, .sh t.mir.D, .sh (.int (t.leaves.length : Int)), .sh .any, .sh .any, .sh .any]) (en1 := [.sh t.D, .sh .any, .sh t.mir.D, .sh (.int (t.leaves.length : Int)), .sh .any, .sh .any, .sh .any]) pD t.knots
    (fun pre en => ∃ y1 y4 y5 y6, en = [.sh t.D, y1, .sh t.mir.D, .sh (.int (t.leaves.length : Int)), y4, y5, y6]) (by
      refine iSeq_p (d := .lst (t.knots.map pD)) ?_ (ed_cl (enc := pD) _) rfl
      simp! only [tn, n1]) ⟨_, _, _, _, rfl⟩ fun pre p post en e h => by
    obtain ⟨y1, y4, y5, y6, rfl⟩ := h
    have hp : p ∈ t.prs 0 := (srt_perm leP _).mem_iff.mp (by
      show p ∈ t.knots
      rw [e]
      simp)
    obtain ⟨z4, z5, z6, eb⟩ := turn_step (x1 := y1) (x4 := y4) (x5 := y5) (x6 := y6) C hp
    exact ⟨by simp, _, eb, _, z4, z5, z6, rfl⟩
  apply fn_p (n := 7) (np := 1) (b := b_law_turned_right) (en' := [.sh t.D, y1, .sh t.mir.D, .sh (.int (t.leaves.length : Int)), y4, y5, y6]) rfl
  case h =>
    unfold b_law_turned_right
    refine sSeq_nx (en1 := [.sh t.D, .sh .any, .sh t.mir.D, .sh (.int (t.leaves.length : Int)), .sh .any, .sh .any, .sh .any]) ?_ (seq_no ?_ (sSeq_nx lp ?_))
    · have sl := sD_len t.leaves
      refine (par_up6 (a := t.mir.D) (b := .int (t.leaves.length : Int)) ?_ (cl_tdat (Tr.tdat _)) ?_ rfl (by simp) (by simp)).trans ?_
      · simp! only [tn, mp]
      · generalize sD t.leaves = ds at *
        simp! only [tn, b1, sl]
      · rw [up_tdat (Tr.tdat _)]
        rfl
    · simp! only [mn, b2, tn, b1, rv, e1]
    · refine ret_pt (d := .bl true) ?_ rfl
      have k1 : (t.knots.map pD).length = t.knots.length := List.length_map _
      have k2 : (t.mir.knots.map pD).length = t.knots.length := by rw [List.length_map, kl]
      have ie := int_eq (t.knots.length : Int) (t.knots.length : Int)
      rw [decide_eq_true rfl] at ie
      generalize t.knots.map pD = d1 at *
      generalize t.mir.knots.map pD = d2 at *
      simp! only [mn, n2, tn, n1, k1, k2, ie]
  case ho => rfl
end
theorem seq_rt6 {a b : FS} {en en' : En} {w : W} (h : a en = some (en', .ret w)) : sSeq a b en = some (en', .ret w) := by simp only [sSeq, h]
theorem nodup_inr : ∀ {xs : List Str}, xs.Nodup → (xs.map (Sum.inr : Str → Key)).Nodup
  | [], _ => List.nodup_nil
  | x :: xs, h => by
    rw [List.nodup_cons] at h
    rw [List.map_cons, List.nodup_cons]
    refine ⟨fun z => ?_, nodup_inr h.2⟩
    obtain ⟨y, hy, e⟩ := List.mem_map.mp z
    exact h.1 (Sum.inr.inj e ▸ hy)
theorem fZ_map : ∀ {bs xs : List Str}, bs.length = xs.length → bs.Nodup → bs.map (fZ bs xs) = xs
  | [], [], _, _ => rfl
  | [], _ :: _, h, _ => by simp at h
  | _ :: _, [], h, _ => by simp at h
  | b :: bs, x :: xs, h, nd => by
    rw [List.nodup_cons] at nd
    have ih := fZ_map (bs := bs) (xs := xs) (by simpa using h) nd.2
    rw [List.map_cons]
    congr 1
    · simp [fZ]
    · refine (List.map_congr_left fun y hy => ?_).trans ih
      have : y ≠ b := fun e => nd.1 (e ▸ hy)
      simp [fZ, this]
theorem look_Z : ∀ {bs xs : List Str} {x : Str}, bs.length = xs.length → x ∈ bs → lookD (bs.map (Sum.inr : Str → Key)) (xs.map D.str) (.inr x) = some (.str (fZ bs xs x))
  | [], _, _, _, h => by cases h
  | b :: bs, [], _, h, _ => by simp at h
  | b :: bs, y :: xs, x, hl, h => by
    simp only [List.map_cons, lookD, fZ]
    by_cases e : x = b
    · subst e
      simp
    · have e' : ¬ ((Sum.inr b : Key) = .inr x) := fun z => e (Sum.inr.inj z).symm
      rw [if_neg e', if_neg e]
      exact look_Z (by simpa using hl) ((List.mem_cons.mp h).resolve_left e)
def dN (row late : List Str) : D := .dK (row.map (Sum.inr : Str → Key)) (late.map D.str)
theorem get_Z {row late : List Str} {x : Str} (h : row.length = late.length) (hx : x ∈ row) : pQGet [dN row late, .str x] = some (.str (fZ row late x)) := by
  have := look_Z h hx
  show ((some (lookD (row.map (Sum.inr : Str → Key)) (late.map D.str) (.inr x))).bind id) = _
  rw [this]
  rfl
theorem zip_Z {row late : List Str} (h : row.length = late.length) (nd : row.Nodup) : pDictZip [.lst (sD row), .lst (sD late)] = some (dN row late) := by
  have n2 : (row.map (Sum.inr : Str → Key)).Nodup := nodup_inr nd
  unfold pDictZip
  simp only [dkeys_sD, List.length_map, h, n2, and_self, if_true]
  rfl
theorem ren_m {row late : List Str} (h : row.length = late.length) : ∀ {n : Nat} (t : Tr), t.dep < n → (∀ x ∈ t.leaves, x ∈ row) → pCall (m_law_renamed n) [t.D, dN row late] = some (t.mapN (fZ row late)).D
  | 0, t, hd, _ => by omega
  | n + 1, .leaf x, _, hx => by
    suffices q : m_law_renamed (n + 1) [.sh (.str x), .sh (dN row late)] = some (.sh (.str (fZ row late x)), [.sh (.str x), .sh (dN row late)]) from pCall_of q rfl rfl
    have gz := get_Z h (hx x (by simp [Tr.leaves]))
    have un : un (dN row late) = some (dN row late) := rfl
    show fnP 2 2 [0, 1] (b_law_renamed (m_law_renamed n)) _ = _
    apply fn_p (n := 2) (np := 2) (b := b_law_renamed (m_law_renamed n)) (en' := [.sh (.str x), .sh (dN row late)]) rfl
    case h =>
      unfold b_law_renamed
      have i1 : oIsi ["str"] (D.str x) = some (.bl true) := rfl
      refine seq_if (x := true) ?_ ?_
      · simp! only [i1, truth_bl]
      · have rt := ret_pt (f := fN gQGet [(fVar 1), (fVar 0)]) (en := [.sh (.str x), .sh (dN row late)]) (fix := [0, 1]) (d := .str (fZ row late x)) (by simp! only [un, gz]) rfl
        simp only [if_true]
        exact seq_rt6 rt
    case ho => rfl
  | n + 1, .node l r, hd, hx => by
    simp only [Tr.dep] at hd
    simp only [Tr.leaves, List.mem_append] at hx
    have e1 := ren_m h (n := n) l (by omega) fun x z => hx x (.inl z)
    have e2 := ren_m h (n := n) r (by omega) fun x z => hx x (.inr z)
    suffices q : m_law_renamed (n + 1) [.sh (Tr.node l r).D, .sh (dN row late)] = some (.sh ((Tr.node l r).mapN (fZ row late)).D, [.sh (Tr.node l r).D, .sh (dN row late)]) from pCall_of q rfl (Tr.tdat _)
    have ud : un (dN row late) = some (dN row late) := rfl
    have tl := un_T l
    have tr := un_T r
    have ub := un_B (l := l) (r := r)
    have i1 : oIsi ["str"] (D.tup [l.D, r.D]) = some (.bl false) := rfl
    show fnP 2 2 [0, 1] (b_law_renamed (m_law_renamed n)) [.sh (.tup [l.D, r.D]), .sh (dN row late)] = _
    apply fn_p (n := 2) (np := 2) (b := b_law_renamed (m_law_renamed n)) (en' := [.sh (.tup [l.D, r.D]), .sh (dN row late)]) rfl
    case h =>
      unfold b_law_renamed
      refine seq_no ?_ ?_
      · simp! only [ub, i1, truth_bl]
      refine ret_pt (d := ((Tr.node l r).mapN (fZ row late)).D) ?_ (Tr.tdat _)
      generalize dN row late = dd at *
      simp! only [ub, tl, tr, ud, e1, e2]
      rfl
    case ho => rfl
section
variable {f : Str → Str}
theorem mapN_len (t : Tr) : (t.mapN f).leaves.length = t.leaves.length := by rw [mapN_leaves, List.length_map]
theorem mapN_prs : ∀ (t : Tr) (s : Nat), (t.mapN f).prs s = t.prs s
  | .leaf _, _ => rfl
  | .node l r, s => by simp only [Tr.mapN, Tr.prs, mapN_len, mapN_prs l, mapN_prs r]
theorem mapN_way (k : Nat) : ∀ (t : Tr) (s : Nat), (t.mapN f).way k s = t.way k s
  | .leaf _, _ => rfl
  | .node l r, s => by simp only [Tr.mapN, Tr.way, mapN_len, mapN_way k l, mapN_way k r]
theorem mapN_knots (t : Tr) : (t.mapN f).knots = t.knots := by
  unfold Tr.knots
  rw [mapN_prs]
end
section
variable {u x1 x2 x3 x4 x5 x6 x7 x8 x9 x10 : W}
theorem urn6 : ∀ {c : Nat} {u : W}, Urn c u → isUrn u := fun {c u} h => by obtain ⟨a, b, t, e, _⟩ := h; exact ⟨a, b, t, e⟩
theorem wds6 (xs : List Str) : W.ds (sW xs) = sD xs := sW_ds xs
theorem draw_words {c : Nat} (h : Urn c u) (hc : c ≤ 700000) : ∃ u' xs, Urn (c + 20) u' ∧ 2 ≤ xs.length ∧ xs.length ≤ 16 ∧ xs.Nodup ∧ (∀ x ∈ xs, x ∈ pool16) ∧
    sAsg (fCall m_law_words [(fVar 0), (fAdd (fC (.int 2)) (fCall m_law_take [(fVar 0), (fC (.int 15))]))]) (gN 2) [u, x1, x2, x3, x4, x5, x6, x7, x8, x9, x10] = some ([u', x1, .lst (sW xs), x3, x4, x5, x6, x7, x8, x9, x10], .nx) := by
  obtain ⟨u1, r, e1, hu1, r0, r1⟩ := take_ok (low := 15) h (by omega) (by omega) (by omega)
  obtain ⟨m, rfl⟩ : ∃ m : Nat, r = (m : Int) := ⟨r.toNat, by omega⟩
  obtain ⟨u2, xs, e2, hu2, lx, nd, hx⟩ := words_ok (m := 2 + m) hu1 (by omega) (by omega)
  obtain ⟨a, b, tt, rfl, _⟩ := id h
  obtain ⟨a1, b1, t1, rfl, _⟩ := id hu1
  obtain ⟨a2, b2, t2, rfl, _⟩ := id hu2
  obtain ⟨k, hk⟩ : ∃ k : Int, 2 + (m : Int) = k := ⟨_, rfl⟩
  have e2' : m_law_words [W.lst [.sh (.int a1), .sh (.int b1), .sh (.int t1)], .sh (.int k)] = some (.lst (sW xs), [W.lst [.sh (.int a2), .sh (.int b2), .sh (.int t2)], .sh (.int k)]) := by
    have : ((2 + m : Nat) : Int) = k := by omega
    rw [this] at e2
    exact e2
  refine ⟨_, xs, hu2.mono (by omega), by omega, by omega, nd, hx, ?_⟩
  generalize m_law_take = f1 at e1 ⊢
  generalize m_law_words = f2 at e2' ⊢
  generalize sW xs = sx at *
  simp! [e1, hk, e2']
theorem draw_mid {c : Nat} {xs : List Str} (h : Urn c u) (hc : c ≤ 700000) (l2 : 2 ≤ xs.length) (l16 : xs.length ≤ 16) : ∃ u' m, Urn (c + 1) u' ∧ 1 ≤ m ∧ m < xs.length ∧
    sAsg (fAdd (fC (.int 1)) (fCall m_law_take [(fVar 0), (fSub (fLen (fVar 2)) (fC (.int 1)))])) (gN 3) [u, x1, .lst (sW xs), x3, x4, x5, x6, x7, x8, x9, x10] = some ([u', x1, .lst (sW xs), .sh (.int ((m : Nat) : Int)), x4, x5, x6, x7, x8, x9, x10], .nx) := by
  obtain ⟨u1, r, e1, hu1, r0, r1⟩ := take_ok (low := (xs.length : Int) - 1) h (by omega) (by omega) (by omega)
  obtain ⟨m, rfl⟩ : ∃ m : Nat, r = (m : Int) := ⟨r.toNat, by omega⟩
  refine ⟨u1, 1 + m, hu1, by omega, by omega, ?_⟩
  obtain ⟨a, b, tt, rfl, _⟩ := id h
  obtain ⟨a1, b1, t1, rfl, _⟩ := id hu1
  have ll : (W.ds (sW xs)).length = xs.length := by rw [wds6, sD_len]
  have ei : ((1 + m : Nat) : Int) = 1 + (m : Int) := by omega
  rw [ei]
  generalize m_law_take = f1 at e1 ⊢
  generalize sW xs = sx at *
  simp! [e1, ll]
theorem draw_two {c m : Nat} {xs : List Str} (h : Urn c u) (hc : c ≤ 700000) (m1 : 1 ≤ m) (m2 : m < xs.length) (l16 : xs.length ≤ 16) : ∃ u', ∃ l r : Tr, Urn (c + 40) u' ∧ l.leaves ++ r.leaves = xs ∧
    sPar (gsCons (gN 6) (gsCons (gN 7) gsNil)) [(fCall (m_law_shape 40) [(fVar 0), (fN gSlHi [(fVar 2), (fVar 3)])]), (fCall (m_law_shape 40) [(fVar 0), (fN gSlLo [(fVar 2), (fVar 3)])])] [u, x1, .lst (sW xs), .sh (.int (m : Int)), x4, x5, x6, x7, x8, x9, x10] =
      some ([u', x1, .lst (sW xs), .sh (.int (m : Int)), x4, x5, .sh l.D, .sh r.D, x8, x9, x10], .nx) := by
  have t1 : (xs.take m).length = m := by rw [List.length_take]; omega
  have t2 : (xs.drop m).length = xs.length - m := by rw [List.length_drop]
  obtain ⟨u5, f, e5, hu5, v1⟩ := shape_ok (n := 40) (row := xs.take m) h (by omega) (by omega) (by omega) (by omega)
  obtain ⟨u6, l, e6, hu6, v2⟩ := shape_ok (n := 40) (row := xs.drop m) hu5 (by omega) (by omega) (by omega) (by omega)
  refine ⟨u6, f, l, hu6.mono (by omega), by rw [v1, v2, List.take_append_drop], ?_⟩
  have hi : ∀ u x6 x7 : W, evs [(fN gSlHi [(fVar 2), (fVar 3)])] [u, x1, .lst (sW xs), .sh (.int (m : Int)), x4, x5, x6, x7, x8, x9, x10] = some ([u, x1, .lst (sW xs), .sh (.int (m : Int)), x4, x5, x6, x7, x8, x9, x10], [.lst (sW (xs.take m))].map R.val) := fun u x6 x7 => by
    simp_all! [cut_hi _ (Int.natCast_nonneg m), sW_ds, sD_take, sD_sh, shs_sW]
  have lo : ∀ u x6 x7 : W, evs [(fN gSlLo [(fVar 2), (fVar 3)])] [u, x1, .lst (sW xs), .sh (.int (m : Int)), x4, x5, x6, x7, x8, x9, x10] = some ([u, x1, .lst (sW xs), .sh (.int (m : Int)), x4, x5, x6, x7, x8, x9, x10], [.lst (sW (xs.drop m))].map R.val) := fun u x6 x7 => by
    simp_all! [cut_lo _ (Int.natCast_nonneg m), sW_ds, sD_drop, sD_sh, shs_sW]
  have c1 := call_u (urn6 h) (hi u x6 x7) e5 rfl
  have c2 := call_u (urn6 hu5) (lo u5 x6 x7) e6 rfl
  simp only [sPar, evs, c1, c2, R.st, rtk, R.tk, gsCons, gsNil, gN, List.length_cons, List.length_nil, Nat.reduceAdd, Nat.reduceLT, if_true, List.set_cons_zero, List.set_cons_succ]
theorem draw_late {c : Nat} {xs : List Str} (h : Urn c u) (hc : c ≤ 700000) (l16 : xs.length ≤ 16) : ∃ u' late, Urn (c + 16) u' ∧ late.length = xs.length ∧ late.Nodup ∧ (∀ x ∈ late, x ∈ pool16) ∧
    sAsg (fCall m_law_words [(fVar 0), (fLen (fVar 2))]) (gN 4) [u, x1, .lst (sW xs), x3, x4, x5, x6, x7, x8, x9, x10] = some ([u', x1, .lst (sW xs), x3, .lst (sW late), x5, x6, x7, x8, x9, x10], .nx) := by
  obtain ⟨u2, late, e2, hu2, lx, nd, hx⟩ := words_ok (m := xs.length) h (by omega) (by omega)
  refine ⟨u2, late, hu2.mono (by omega), lx, nd, hx, ?_⟩
  have ll : (W.ds (sW xs)).length = xs.length := by rw [wds6, sD_len]
  have ev : evs [fLen (fVar 2)] [u, x1, .lst (sW xs), x3, x4, x5, x6, x7, x8, x9, x10] = some ([u, x1, .lst (sW xs), x3, x4, x5, x6, x7, x8, x9, x10], [.sh (.int (xs.length : Int))].map R.val) := by
    generalize xs.length = n at *
    generalize sW xs = sx at *
    simp_arith [ll]
  have c1 := call_u (urn6 h) ev e2 rfl
  simp only [sAsg, c1, R.tk, gN, List.length_cons, List.length_nil, Nat.reduceAdd, Nat.reduceLT, if_true, List.set_cons_zero, List.set_cons_succ]
theorem zip_go {xs late : List Str} (h : xs.length = late.length) (nd : xs.Nodup) : sAsg (fDictZip (fVar 2) (fVar 4)) (gN 5) [u, x1, .lst (sW xs), x3, .lst (sW late), x5, x6, x7, x8, x9, x10] = some ([u, x1, .lst (sW xs), x3, .lst (sW late), .sh (dN xs late), x6, x7, x8, x9, x10], .nx) := by
  have z := zip_Z h nd
  have d1 : W.d (.lst (sW xs)) = .lst (sD xs) := by rw [W.d, wds6]
  have d2 : W.d (.lst (sW late)) = .lst (sD late) := by rw [W.d, wds6]
  have v2 : fVar 2 [u, x1, .lst (sW xs), x3, .lst (sW late), x5, x6, x7, x8, x9, x10] = some ([u, x1, .lst (sW xs), x3, .lst (sW late), x5, x6, x7, x8, x9, x10], .pl 2 []) := rfl
  have v4 : fVar 4 [u, x1, .lst (sW xs), x3, .lst (sW late), x5, x6, x7, x8, x9, x10] = some ([u, x1, .lst (sW xs), x3, .lst (sW late), x5, x6, x7, x8, x9, x10], .pl 4 []) := rfl
  have g : gDictZip [u, x1, .lst (sW xs), x3, .lst (sW late), x5, x6, x7, x8, x9, x10] [.pl 2 [], .pl 4 []] = some ([u, x1, .lst (sW xs), x3, .lst (sW late), x5, x6, x7, x8, x9, x10], .val (.sh (dN xs late))) := by
    simp only [gDictZip, R.d, En.get, List.getElem?_cons_zero, List.getElem?_cons_succ, W.get, d1, d2, z, Option.map_some]
  have f : fDictZip (fVar 2) (fVar 4) [u, x1, .lst (sW xs), x3, .lst (sW late), x5, x6, x7, x8, x9, x10] = some ([u, x1, .lst (sW xs), x3, .lst (sW late), x5, x6, x7, x8, x9, x10], .val (.sh (dN xs late))) := by
    simp only [fDictZip, fN, evs, v2, v4, R.st, g]
  simp only [sAsg, f, R.tk, gN, List.length_cons, List.length_nil, Nat.reduceAdd, Nat.reduceLT, if_true, List.set_cons_zero, List.set_cons_succ]
theorem turn6 {c : Nat} (h : Urn c u) (hc : c ≤ 600000) : ∃ u' y2 y3 y4 y5 y6 y7 y8 y9, Urn (c + 100) u' ∧
    l_law_right_1 [u, x1, x2, x3, x4, x5, x6, x7, x8, x9, .sh .any] = some ([u', x1, y2, y3, y4, y5, y6, y7, y8, y9, .sh .any], .nx) := by
  obtain ⟨u1, xs, hu1, l2, l16, nd, hx, e1⟩ := draw_words (x1 := x1) (x2 := x2) (x3 := x3) (x4 := x4) (x5 := x5) (x6 := x6) (x7 := x7) (x8 := x8) (x9 := x9) (x10 := .sh .any) h (by omega)
  obtain ⟨u2, m, hu2, m1, m2, e2⟩ := draw_mid (xs := xs) (x1 := x1) (x3 := x3) (x4 := x4) (x5 := x5) (x6 := x6) (x7 := x7) (x8 := x8) (x9 := x9) (x10 := .sh .any) hu1 (by omega) l2 l16
  obtain ⟨u3, l, r, hu3, lr, e3⟩ := draw_two (xs := xs) (m := m) (x1 := x1) (x4 := x4) (x5 := x5) (x6 := x6) (x7 := x7) (x8 := x8) (x9 := x9) (x10 := .sh .any) hu2 (by omega) m1 m2 l16
  obtain ⟨u4, late, hu4, ll, lnd, lx, e4⟩ := draw_late (xs := xs) (x1 := x1) (x3 := .sh (.int (m : Int))) (x4 := x4) (x5 := x5) (x6 := .sh l.D) (x7 := .sh r.D) (x8 := x8) (x9 := x9) (x10 := .sh .any) hu3 (by omega) l16
  have e5 := zip_go (u := u4) (x1 := x1) (x3 := .sh (.int (m : Int))) (x5 := x5) (x6 := .sh l.D) (x7 := .sh r.D) (x8 := x8) (x9 := x9) (x10 := .sh .any) (xs := xs) (late := late) ll.symm nd
  have hv : (Tr.node l r).leaves = xs := lr
  have C : C6 (.node l r) := ⟨by rw [hv]; exact l16, by rw [hv]; exact nd, fun x hx' => pool16_ok x (hx x (hv ▸ hx'))⟩
  have fl : ((Tr.node l r).mapN (fZ xs late)).leaves = late := by rw [mapN_leaves, hv, fZ_map ll.symm nd]
  have F : C6 ((Tr.node l r).mapN (fZ xs late)) := ⟨by rw [fl]; omega, by rw [fl]; exact lnd, fun x hx' => pool16_ok x (lx x (fl ▸ hx'))⟩
  have rn := ren_m (row := xs) (late := late) ll.symm (n := 40) (.node l r) (by have := (Tr.node l r).dep_lt; have := C.ht; omega) fun x hx' => hv ▸ hx'
  have j1 : pCall m_law_joined_right [l.D, r.D] = some (.bl true) := pCall_of (joined_ok C) rfl rfl
  have j2 : pCall m_law_turned_right [(Tr.node l r).D] = some (.bl true) := pCall_of (turned_ok C) rfl rfl
  rw [D_node] at rn j2
  have n1 := f_nodes C
  have n2 := f_nodes F
  have b2 := f_boxes F
  rw [fl] at b2
  rw [mapN_knots] at n2
  rw [D_node] at n1
  have tl := un_T l
  have tr := un_T r
  have ub := un_B (l := l) (r := r)
  have uf := un_T ((Tr.node l r).mapN (fZ xs late))
  have ud : un (dN xs late) = some (dN xs late) := rfl
  have ne1 := ed_oNeL (enc := pD) (Tr.node l r).knots (Tr.node l r).knots
  rw [decide_eq_true rfl] at ne1
  have ne2 : oNe [.tup (sD late), .tup (sD late)] = some (.bl false) := setN _ (by omega) fun x hx' => pool16_ok x (lx x hx')
  have d1 : W.d (.lst (sW xs)) = .lst (sD xs) := by rw [W.d, wds6]
  have d2 : W.d (.lst (sW late)) = .lst (sD late) := by rw [W.d, wds6]
  have ways : ∀ x ∈ xs, pCall m_way_to [.tup [l.D, r.D], .str x] = some (.lst (((Tr.node l r).way (xs.idxOf x) 0).map pD)) ∧ pCall m_way_to [((Tr.node l r).mapN (fZ xs late)).D, .str (fZ xs late x)] = some (.lst (((Tr.node l r).way (xs.idxOf x) 0).map pD)) := fun x hx' => by
    have ix : xs.idxOf x < xs.length := List.idxOf_lt_length_iff.mpr hx'
    have g : xs[xs.idxOf x]? = some x := by rw [List.getElem?_eq_getElem ix, List.getElem_idxOf ix]
    have w1 := f_way C (k := xs.idxOf x) (x := x) (by rw [hv]; exact g)
    have w2 := f_way F (k := xs.idxOf x) (x := fZ xs late x) (by rw [mapN_leaves, hv, List.getElem?_map, g]; rfl)
    rw [D_node] at w1
    rw [mapN_way] at w2
    exact ⟨w1, w2⟩
  refine ⟨u4, .lst (sW xs), .sh (.int (m : Int)), .lst (sW late), .sh (dN xs late), .sh l.D, .sh r.D, .sh (.tup [l.D, r.D]), .sh ((Tr.node l r).mapN (fZ xs late)).D, hu4.mono (by omega), ?_⟩
  unfold l_law_right_1
  refine sSeq_nx e1 (sSeq_nx e2 (sSeq_nx e3 (seq_no ?_ (sSeq_nx e4 (sSeq_nx e5 (sSeq_nx (en1 := [u4, x1, .lst (sW xs), .sh (.int (m : Int)), .lst (sW late), .sh (dN xs late), .sh l.D, .sh r.D, .sh (.tup [l.D, r.D]), .sh ((Tr.node l r).mapN (fZ xs late)).D, .sh .any]) ?_ (seq_no ?_ (if_f6 ?_ rfl))))))))
  · simp! only [tl, tr, j1, j2]
  · have p1 : fPure (fCallP (m_law_renamed 40) [(fTup [(fVar 6), (fVar 7)]), (fVar 5)]) [u4, x1, .lst (sW xs), .sh (.int (m : Int)), .lst (sW late), .sh (dN xs late), .sh l.D, .sh r.D, x8, x9, .sh .any] = some ([u4, x1, .lst (sW xs), .sh (.int (m : Int)), .lst (sW late), .sh (dN xs late), .sh l.D, .sh r.D, x8, x9, .sh .any], .val (.sh ((Tr.node l r).mapN (fZ xs late)).D)) := by
      rw [pure_up (d := ((Tr.node l r).mapN (fZ xs late)).D) (by
        generalize dN xs late = dd at *
        simp! only [tl, tr, ud, rn]) (cl_tdat (Tr.tdat _)), up_tdat (Tr.tdat _)]
    have s2 : 2 ≤ sizeLine := size_le (by omega)
    have tdl := l.D_ne
    have tdr := r.D_ne
    generalize fPure (fCallP (m_law_renamed 40) [(fTup [(fVar 6), (fVar 7)]), (fVar 5)]) = fp at *
    generalize ((Tr.node l r).mapN (fZ xs late)).D = fd at *
    generalize l.D = g1 at *
    generalize r.D = g2 at *
    generalize dN xs late = dd at *
    generalize W.lst (sW xs) = wx at *
    generalize W.lst (sW late) = wl at *
    simp_arith [p1, s2, tdl, tdr]
  · generalize dN xs late = dd at *
    generalize W.lst (sW xs) = wx at *
    generalize W.lst (sW late) = wl at *
    simp! only [ub, uf, n1, n2, ne1, b2, d2, ne2]
  · have okl : okD 40 (.lst (xs.map fun x => D.lst (((Tr.node l r).way (xs.idxOf x) 0).map pD))) := okD_lst (n := 39) (by rw [List.length_map]; omega) fun d hd => by
      obtain ⟨x, _, rfl⟩ := List.mem_map.mp hd
      have wl := way6_len (.node l r) (xs.idxOf x) 0 C.ht
      exact okD_pLs (n := 36) (by omega)
    have ne3 := oNe_self okl
    have q1 : compQ (fun _ => some true) (fun x : Str => (((pQGet [dN xs late, D.str x]).bind fun d => some [d]).bind fun ds => some (((Tr.node l r).mapN (fZ xs late)).D :: ds)).bind (pCall m_way_to)) xs 0 = some (xs.map fun x => D.lst (((Tr.node l r).way (xs.idxOf x) 0).map pD)) := by
      refine compQ_onA (by omega) fun x hx' => ?_
      rw [get_Z ll.symm hx']
      exact (ways x hx').2
    have q2 : compQ (fun _ => some true) (fun x : Str => pCall m_way_to [D.tup [l.D, r.D], D.str x]) xs 0 = some (xs.map fun x => D.lst (((Tr.node l r).way (xs.idxOf x) 0).map pD)) := by
      refine compQ_onA (by omega) fun x hx' => ?_
      exact (ways x hx').1
    unfold sD at d1
    generalize W.lst (sW xs) = wx at *
    generalize W.lst (sW late) = wl at *
    simp! only [d1, ub, uf, ud]
    rw [q1, q2]
    simp! only [ne3]
end
theorem range_at6 {n k : Nat} {pre post : List Nat} (h : List.range n = pre ++ k :: post) : k = pre.length ∧ k < n := by
  have a : (List.range n)[pre.length]? = some k := by rw [h]; simp
  have lt : pre.length < n := by
    have := (List.getElem?_eq_some_iff.mp a).1
    simpa using this
  rw [List.getElem?_range lt] at a
  exact ⟨(Option.some.inj a).symm, by rw [← Option.some.inj a]; exact lt⟩
theorem right_ok {u : W} (h : Urn 0 u) : ∃ u', m_law_right [u] = some (.sh (.bl true), [u']) := by
  obtain ⟨en', e, u', hu', y1, y2, y3, y4, y5, y6, y7, y8, y9, rfl⟩ := sForT (v := 1) (fi := iRange1 (fC (.int 6))) (body := l_law_right_1) (en := [u, .sh .any, .sh .any, .sh .any, .sh .any, .sh .any, .sh .any, .sh .any, .sh .any, .sh .any, .sh .any]) (en1 := [u, .sh .any, .sh .any, .sh .any, .sh .any, .sh .any, .sh .any, .sh .any, .sh .any, .sh .any, .sh .any]) (fun k : Nat => D.int (k : Int)) (List.range 6)
    (fun pre en => ∃ u', Urn (100 * pre.length) u' ∧ ∃ y1 y2 y3 y4 y5 y6 y7 y8 y9, en = [u', y1, y2, y3, y4, y5, y6, y7, y8, y9, .sh .any])
    (iRange1_at rfl (by omega)) ⟨u, h.mono (by omega), _, _, _, _, _, _, _, _, _, rfl⟩ fun pre k post en e h => by
    obtain ⟨u', hu', y1, y2, y3, y4, y5, y6, y7, y8, y9, rfl⟩ := h
    obtain ⟨ek, lt⟩ := range_at6 e
    obtain ⟨u2, z2, z3, z4, z5, z6, z7, z8, z9, hu2, eb⟩ := turn6 (x1 := .sh (.int (k : Int))) (x2 := y2) (x3 := y3) (x4 := y4) (x5 := y5) (x6 := y6) (x7 := y7) (x8 := y8) (x9 := y9) hu' (by omega)
    exact ⟨by simp, _, eb, u2, hu2.mono (by simp; omega), _, z2, z3, z4, z5, z6, z7, z8, z9, rfl⟩
  refine ⟨u', fnP_ret (n := 11) (np := 1) (b := b_law_right) (en' := [u', y1, y2, y3, y4, y5, y6, y7, y8, y9, .sh .any]) rfl ?_⟩
  unfold b_law_right
  exact sSeq_nx e rfl
theorem all_one {f2 : PF} {w0 w1 w2 u u' : W} (hu : ∃ a b t : Int, u = .lst [.sh (.int a), .sh (.int b), .sh (.int t)]) (e2 : f2 [u] = some (.sh (.bl true), [u'])) :
    sIf (fNotT (fTr (fAll (fComp [4] (iRange1 (fC (.int 1))) (gN 4) tYesE (fCall f2 [(fVar 3)]))))) (sRet [0] (fC (.bl false))) sNil [w0, w1, w2, u, .sh .any] = some ([w0, w1, w2, u', .sh .any], .nx) := by
  obtain ⟨a, b, t, rfl⟩ := hu
  have i1 : iRange1 (fC (.int 1)) [w0, w1, w2, .lst [.sh (.int a), .sh (.int b), .sh (.int t)], .sh .any] = some ([w0, w1, w2, .lst [.sh (.int a), .sh (.int b), .sh (.int t)], .sh .any], [.int 0]) := by
    simp_all! [List.range_succ]
  have c1 : fCall f2 [(fVar 3)] [w0, w1, w2, .lst [.sh (.int a), .sh (.int b), .sh (.int t)], .sh (.int 0)] = some ([w0, w1, w2, u', .sh (.int 0)], .val (.sh (.bl true))) := by
    simp_all! [e2]
  have sz : 0 < sizeLine := size_lt (by omega)
  have c2 : fComp [4] (iRange1 (fC (.int 1))) (gN 4) tYesE (fCall f2 [(fVar 3)]) [w0, w1, w2, .lst [.sh (.int a), .sh (.int b), .sh (.int t)], .sh .any] = some ([w0, w1, w2, u', .sh .any], .val (.lst [.sh (.bl true)])) := by
    refine fComp_eq i1 ?_
    generalize fCall f2 [(fVar 3)] = fc at *
    simp [compD, okV, W.isSh, gN, wipeE, restE, tYesE, c1, R.tk, sz]
  generalize fComp [4] (iRange1 (fC (.int 1))) (gN 4) tYesE (fCall f2 [(fVar 3)]) = ff at *
  simp_all! [c2, fAll, oAll, D.litems, D.bls]
theorem law_step {ns cs : List Int} {k : Nat} (hk : k < cs.length) (x3 : W) : ∃ u', l_law_1 [.sh (.frl (ns.map D.int)), .lst (iW cs), .sh (.int k), x3, .sh .any] = some ([.sh (.frl (ns.map D.int)), .lst (iW cs), .sh (.int k), u', .sh .any], .nx) := by
  obtain ⟨u, e1, hu, cl⟩ := box_ok hk
  obtain ⟨u', e2⟩ := right_ok hu
  obtain ⟨a, b, t, rfl, _⟩ := id hu
  refine ⟨u', ?_⟩
  unfold l_law_1 e_law_1
  generalize m_law_box = f1 at e1 ⊢
  generalize m_law_right = f2 at e2 ⊢
  apply sSeq_nx
  · simp_all! [e1, iW_ds]; rfl
  · exact all_one ⟨a, b, t, rfl⟩ e2
theorem law_loop {ns cs : List Int} : ∀ (ks : List Nat) (x2 x3 : W), (∀ k ∈ ks, k < cs.length) → ∃ y2 y3, forD (gN 2) l_law_1 (ks.map fun (k : Nat) => D.int (k : Int)) [.sh (.frl (ns.map D.int)), .lst (iW cs), x2, x3, .sh .any] = some ([.sh (.frl (ns.map D.int)), .lst (iW cs), y2, y3, .sh .any], .nx)
  | [], x2, x3, _ => ⟨x2, x3, by simp [forD]⟩
  | k :: ks, x2, x3, h => by
    obtain ⟨u', e⟩ := law_step (ns := ns) (h k (by simp)) x3
    obtain ⟨y2, y3, e2⟩ := law_loop (ns := ns) ks (.sh (.int k)) u' fun j hj => h j (by simp [hj])
    exact ⟨y2, y3, forD_nx (by simp [gN]) e e2⟩
theorem law_true (ns : List Int) (h : ns.length ≤ 63) : ∃ ws, m_law [.sh (.frl (ns.map D.int))] = some (.sh (.bl true), ws) := by
  obtain ⟨cs, e, c0, c3⟩ := cells_ok ns h
  obtain ⟨y2, y3, lp⟩ := law_loop (ns := ns) (cs := cs) (List.range cs.length) (.sh .any) (.sh .any) fun k hk => List.mem_range.mp hk
  have s1 : (-4611686018427387904 : Int) ≤ cs.length := by omega
  have s2 : (cs.length : Int) < 4611686018427387904 := by omega
  refine ⟨_, fnP_ret (n := 5) (np := 1) (b := b_law) rfl (en' := [.sh (.frl (ns.map D.int)), .lst (iW cs), y2, y3, .sh .any]) ?_⟩
  unfold b_law
  generalize m_law_cells = f1 at e ⊢
  refine sSeq_nx (en1 := [.sh (.frl (ns.map D.int)), .lst (iW cs), .sh .any, .sh .any, .sh .any]) ?_ (sSeq_nx (sFor_eq ?_ lp) ?_)
  · simp_all! [e, cleans_iW]
  · simp_all! [iW_ds, s1, s2]
  · simp_all! [fnP]
end Pu
namespace Pu
open PySem PySem.Spec PyProof.Rows L2
def top (i : Nat) : Stmt := PySem.Challenge.pw_lockedout_k06_whole_trees_joined_and_tur.main.body.getD i (.Pass ⟨0, 0, 0, 0⟩)
abbrev s_law_cells : Stmt := top 16
abbrev s_law_box : Stmt := top 14
abbrev s_law_take : Stmt := top 15
abbrev s_law_words : Stmt := top 17
abbrev s_law_shape : Stmt := top 18
abbrev s_law_renamed : Stmt := top 21
abbrev s_Tree_boxes : Stmt := inClass (top 6) 4
abbrev s_Tree_grown : Stmt := inClass (top 6) 2
abbrev s_tupled : Stmt := top 4
abbrev s_Tree_init : Stmt := inClass (top 6) 1
abbrev s_boxes_in : Stmt := top 7
abbrev s_Tree_nodes : Stmt := inClass (top 6) 5
abbrev s_nodes_in : Stmt := top 8
abbrev s_Tree_names : Stmt := inClass (top 6) 9
abbrev s_boxes_of : Stmt := top 11
abbrev s_Tree_sides : Stmt := inClass (top 6) 6
abbrev s_sides_of : Stmt := top 9
abbrev s_Tree_way : Stmt := inClass (top 6) 10
abbrev s_way_to : Stmt := top 12
abbrev s_Tree_below : Stmt := inClass (top 6) 7
abbrev s_nodes_below : Stmt := top 10
abbrev s_law_shifted : Stmt := top 19
abbrev s_law_joined_right : Stmt := top 22
abbrev s_law_mirrored : Stmt := top 20
abbrev s_law_turned_right : Stmt := top 23
abbrev s_law_right : Stmt := top 24
abbrev s_law : Stmt := top 25
local instance noTab_w : TabN := noTab
structure Tx (K : PySem.W.Frag) (mg : Str → Option Value) where
  f_law_cells : Addr
  d_law_cells : FuncData
  F_law_cells : Fun K "_law_cells" "_law_cells" s_law_cells f_law_cells d_law_cells
  B_law_cells : Binds K d_law_cells ["_law_script", "_law_top"] []
  g_law_cells : mg "_law_cells" = some (.ref f_law_cells)
  f_law_box : Addr
  d_law_box : FuncData
  F_law_box : Fun K "_law_box" "_law_box" s_law_box f_law_box d_law_box
  B_law_box : Binds K d_law_box ["_law_script", "_law_k"] []
  g_law_box : mg "_law_box" = some (.ref f_law_box)
  f_law_take : Addr
  d_law_take : FuncData
  F_law_take : Fun K "_law_take" "_law_take" s_law_take f_law_take d_law_take
  B_law_take : Binds K d_law_take ["_law_urn", "_law_low_so"] []
  g_law_take : mg "_law_take" = some (.ref f_law_take)
  f_law_words : Addr
  d_law_words : FuncData
  F_law_words : Fun K "_law_words" "_law_words" s_law_words f_law_words d_law_words
  B_law_words : Binds K d_law_words ["_law_urn", "_law_many_so"] []
  g_law_words : mg "_law_words" = some (.ref f_law_words)
  f_law_shape : Addr
  d_law_shape : FuncData
  F_law_shape : Fun K "_law_shape" "_law_shape" s_law_shape f_law_shape d_law_shape
  B_law_shape : Binds K d_law_shape ["_law_urn", "_law_row"] []
  g_law_shape : mg "_law_shape" = some (.ref f_law_shape)
  f_law_renamed : Addr
  d_law_renamed : FuncData
  F_law_renamed : Fun K "_law_renamed" "_law_renamed" s_law_renamed f_law_renamed d_law_renamed
  B_law_renamed : Binds K d_law_renamed ["_law_tale", "_law_names_so"] []
  g_law_renamed : mg "_law_renamed" = some (.ref f_law_renamed)
  f_Tree_boxes : Addr
  d_Tree_boxes : FuncData
  F_Tree_boxes : Fun K "boxes" "Tree.boxes" s_Tree_boxes f_Tree_boxes d_Tree_boxes
  B_Tree_boxes : Binds K d_Tree_boxes ["self"] []
  f_Tree_grown : Addr
  d_Tree_grown : FuncData
  F_Tree_grown : Fun K "grown" "Tree.grown" s_Tree_grown f_Tree_grown d_Tree_grown
  B_Tree_grown : Binds K d_Tree_grown ["self", "tree"] []
  f_tupled : Addr
  d_tupled : FuncData
  F_tupled : Fun K "tupled" "tupled" s_tupled f_tupled d_tupled
  B_tupled : Binds K d_tupled ["thing"] []
  g_tupled : mg "tupled" = some (.ref f_tupled)
  f_Tree_init : Addr
  d_Tree_init : FuncData
  F_Tree_init : Fun K "__init__" "Tree.__init__" s_Tree_init f_Tree_init d_Tree_init
  B_Tree_init : Binds K d_Tree_init ["self", "tree"] []
  f_boxes_in : Addr
  d_boxes_in : FuncData
  F_boxes_in : Fun K "boxes_in" "boxes_in" s_boxes_in f_boxes_in d_boxes_in
  B_boxes_in : Binds K d_boxes_in ["tree"] []
  g_boxes_in : mg "boxes_in" = some (.ref f_boxes_in)
  f_Tree_nodes : Addr
  d_Tree_nodes : FuncData
  F_Tree_nodes : Fun K "nodes" "Tree.nodes" s_Tree_nodes f_Tree_nodes d_Tree_nodes
  B_Tree_nodes : Binds K d_Tree_nodes ["self"] []
  f_nodes_in : Addr
  d_nodes_in : FuncData
  F_nodes_in : Fun K "nodes_in" "nodes_in" s_nodes_in f_nodes_in d_nodes_in
  B_nodes_in : Binds K d_nodes_in ["tree"] []
  g_nodes_in : mg "nodes_in" = some (.ref f_nodes_in)
  f_Tree_names : Addr
  d_Tree_names : FuncData
  F_Tree_names : Fun K "names" "Tree.names" s_Tree_names f_Tree_names d_Tree_names
  B_Tree_names : Binds K d_Tree_names ["self", "node"] []
  f_boxes_of : Addr
  d_boxes_of : FuncData
  F_boxes_of : Fun K "boxes_of" "boxes_of" s_boxes_of f_boxes_of d_boxes_of
  B_boxes_of : Binds K d_boxes_of ["tree", "node"] []
  g_boxes_of : mg "boxes_of" = some (.ref f_boxes_of)
  f_Tree_sides : Addr
  d_Tree_sides : FuncData
  F_Tree_sides : Fun K "sides" "Tree.sides" s_Tree_sides f_Tree_sides d_Tree_sides
  B_Tree_sides : Binds K d_Tree_sides ["self", "node"] []
  f_sides_of : Addr
  d_sides_of : FuncData
  F_sides_of : Fun K "sides_of" "sides_of" s_sides_of f_sides_of d_sides_of
  B_sides_of : Binds K d_sides_of ["tree", "node"] []
  g_sides_of : mg "sides_of" = some (.ref f_sides_of)
  f_Tree_way : Addr
  d_Tree_way : FuncData
  F_Tree_way : Fun K "way" "Tree.way" s_Tree_way f_Tree_way d_Tree_way
  B_Tree_way : Binds K d_Tree_way ["self", "box"] []
  f_way_to : Addr
  d_way_to : FuncData
  F_way_to : Fun K "way_to" "way_to" s_way_to f_way_to d_way_to
  B_way_to : Binds K d_way_to ["tree", "box"] []
  g_way_to : mg "way_to" = some (.ref f_way_to)
  f_Tree_below : Addr
  d_Tree_below : FuncData
  F_Tree_below : Fun K "below" "Tree.below" s_Tree_below f_Tree_below d_Tree_below
  B_Tree_below : Binds K d_Tree_below ["self", "node"] []
  f_nodes_below : Addr
  d_nodes_below : FuncData
  F_nodes_below : Fun K "nodes_below" "nodes_below" s_nodes_below f_nodes_below d_nodes_below
  B_nodes_below : Binds K d_nodes_below ["tree", "node"] []
  g_nodes_below : mg "nodes_below" = some (.ref f_nodes_below)
  f_law_shifted : Addr
  d_law_shifted : FuncData
  F_law_shifted : Fun K "_law_shifted" "_law_shifted" s_law_shifted f_law_shifted d_law_shifted
  B_law_shifted : Binds K d_law_shifted ["_law_knots", "_law_spot"] []
  g_law_shifted : mg "_law_shifted" = some (.ref f_law_shifted)
  f_law_joined_right : Addr
  d_law_joined_right : FuncData
  F_law_joined_right : Fun K "_law_joined_right" "_law_joined_right" s_law_joined_right f_law_joined_right d_law_joined_right
  B_law_joined_right : Binds K d_law_joined_right ["_law_one_so", "_law_other_so"] []
  g_law_joined_right : mg "_law_joined_right" = some (.ref f_law_joined_right)
  f_law_mirrored : Addr
  d_law_mirrored : FuncData
  F_law_mirrored : Fun K "_law_mirrored" "_law_mirrored" s_law_mirrored f_law_mirrored d_law_mirrored
  B_law_mirrored : Binds K d_law_mirrored ["_law_tale"] []
  g_law_mirrored : mg "_law_mirrored" = some (.ref f_law_mirrored)
  f_law_turned_right : Addr
  d_law_turned_right : FuncData
  F_law_turned_right : Fun K "_law_turned_right" "_law_turned_right" s_law_turned_right f_law_turned_right d_law_turned_right
  B_law_turned_right : Binds K d_law_turned_right ["_law_tale"] []
  g_law_turned_right : mg "_law_turned_right" = some (.ref f_law_turned_right)
  f_law_right : Addr
  d_law_right : FuncData
  F_law_right : Fun K "_law_right" "_law_right" s_law_right f_law_right d_law_right
  B_law_right : Binds K d_law_right ["_law_urn"] []
  g_law_right : mg "_law_right" = some (.ref f_law_right)
  f_law : Addr
  d_law : FuncData
  F_law : Fun K "law" "law" s_law f_law d_law
  B_law : Binds K d_law ["_law_script"] []
  g_law : mg "law" = some (.ref f_law)
  z_abs : mg "abs" = none
  z_all : mg "all" = none
  z_dict : mg "dict" = none
  z_enumerate : mg "enumerate" = none
  z_int : mg "int" = none
  z_isinstance : mg "isinstance" = none
  z_len : mg "len" = none
  z_list : mg "list" = none
  z_range : mg "range" = none
  z_sorted : mg "sorted" = none
  z_str : mg "str" = none
  z_tuple : mg "tuple" = none
  z_zip : mg "zip" = none
  C_Tree : Addr
  c_Tree : mg "Tree" = some (.ref C_Tree)
  s_Tree : SlX.SCls K C_Tree
  mk_Tree : Mk K C_Tree f_Tree_init
  m_Tree_below : Meth K C_Tree "below" f_Tree_below
  m_Tree_boxes : Meth K C_Tree "boxes" f_Tree_boxes
  m_Tree_grown : Meth K C_Tree "grown" f_Tree_grown
  m_Tree_names : Meth K C_Tree "names" f_Tree_names
  m_Tree_nodes : Meth K C_Tree "nodes" f_Tree_nodes
  m_Tree_sides : Meth K C_Tree "sides" f_Tree_sides
  m_Tree_way : Meth K C_Tree "way" f_Tree_way
  sl_Tree_own_boxes : ClsF K mg "Tree" "own_boxes" 0
  sl_Tree_own_head : ClsF K mg "Tree" "own_head" 1
  sl_Tree_own_sides : ClsF K mg "Tree" "own_sides" 2
section
variable {P : Program} {w : World} {K : PySem.W.Frag} {mg : Str → Option Value} {base : Heap}
theorem sc_law_cells : FnScope ["_law_script", "_law_top", "_law_cells_here", "_law_k", "_law_cell", "_law_at_so"] ["_law_script", "_law_top"] (defScope s_law_cells) := ⟨rfl, rfl, rfl, by decide +kernel, rfl, by decide +kernel, by decide +kernel⟩
theorem ok_law_cells (T : Tx K mg) : FnOk P w K mg base CX0 1 T.f_law_cells T.d_law_cells ["_law_script", "_law_top"] (spP K mg m_law_cells) := by
  refine fn_ok (k := 0) (N := ["_law_script", "_law_top", "_law_cells_here", "_law_k", "_law_cell", "_law_at_so"]) (ps := ["_law_script", "_law_top"]) (fix := [0, 1]) (body := b_law_cells) T.F_law_cells sc_law_cells (by decide) fun cdv A outer s H E hr => ?_
  have hu : (A.deeper (envOfC "_law_cells" (defScope s_law_cells) s.heap.objs.size T.f_law_cells cdv)).units + 65 < cLine := by have := hr.un; omega
  have hu1 : (A.deeper (envOfC "_law_cells" (defScope s_law_cells) s.heap.objs.size T.f_law_cells cdv)).units + 1 < cLine := by have := hr.un; omega
  exact (ss_cons (ss_asg (se_or (c_list T.z_list (se_slHi (se_var (pv 0)) (se_var (pv 1)))) (se_one (se_lst (sa_cons se_int sa_nil)))) (sg_name (i := 2) sc_law_cells.nd rfl (.inl rfl) (by decide)))
    (ss_cons (ss_for PassesOwn.never rfl (si_enumA rfl T.z_enumerate (se_sl2 (se_var (pv 0)) (se_var (pv 1)) se_int)) (sg_tup (n := 2) rfl (sgs_cons (sg_name (i := 3) sc_law_cells.nd rfl (.inl rfl) (by decide)) (sgs_cons (sg_name (i := 4) sc_law_cells.nd rfl (.inl rfl) (by decide)) sgs_nil))) (ss_cons (ss_asg (se_mod (c_int T.z_int (se_var (pv 3))) (se_var (pv 1))) (sg_name (i := 5) sc_law_cells.nd rfl (.inl rfl) (by decide)))
    (ss_one (ss_asg (se_add (se_ix (se_var (pv 2)) (se_var (pv 5))) (se_mul (se_var (pv 4)) (se_add (se_var (pv 3)) se_int))) (sg_sub (se_var (pv 2)) (se_var (pv 5)) (pg_sub (se_var (pv 2)) (se_var (pv 5)) set_list))))))
    (ss_one (ss_ret (se_var (pv 2))))))
theorem sc_law_box : FnScope ["_law_script", "_law_k", "_law_cell"] ["_law_script", "_law_k"] (defScope s_law_box) := ⟨rfl, rfl, rfl, by decide +kernel, rfl, by decide +kernel, by decide +kernel⟩
theorem ok_law_box (T : Tx K mg) : FnOk P w K mg base CX0 1 T.f_law_box T.d_law_box ["_law_script", "_law_k"] (spP K mg m_law_box) := by
  refine fn_ok (k := 0) (N := ["_law_script", "_law_k", "_law_cell"]) (ps := ["_law_script", "_law_k"]) (fix := [0, 1]) (body := b_law_box) T.F_law_box sc_law_box (by decide) fun cdv A outer s H E hr => ?_
  have hu : (A.deeper (envOfC "_law_box" (defScope s_law_box) s.heap.objs.size T.f_law_box cdv)).units + 65 < cLine := by have := hr.un; omega
  have hu1 : (A.deeper (envOfC "_law_box" (defScope s_law_box) s.heap.objs.size T.f_law_box cdv)).units + 1 < cLine := by have := hr.un; omega
  exact (ss_cons (ss_asg (se_if (st_lt (se_var (pv 1)) (c_len T.z_len (se_var (pv 0)))) (se_ix (se_var (pv 0)) (se_var (pv 1))) se_int) (sg_name (i := 2) sc_law_box.nd rfl (.inl rfl) (by decide)))
    (ss_one (ss_ret (se_lst (sa_cons (se_mul (c_abs T.z_abs (se_var (pv 2))) (c_int T.z_int (se_ge (c_abs T.z_abs (se_var (pv 2))) (se_pow se_int se_int)))) (sa_cons (se_add (se_add (se_mod (c_int T.z_int (se_var (pv 2))) se_int) (se_mul se_int (se_var (pv 1)))) se_int) (sa_cons se_int sa_nil)))))))
theorem sc_law_take : FnScope ["_law_urn", "_law_low_so", "_law_once", "_law_far", "_law_twice", "_law_drawn"] ["_law_urn", "_law_low_so"] (defScope s_law_take) := ⟨rfl, rfl, rfl, by decide +kernel, rfl, by decide +kernel, by decide +kernel⟩
theorem ok_law_take (T : Tx K mg) : FnOk P w K mg base CX0 1 T.f_law_take T.d_law_take ["_law_urn", "_law_low_so"] (spP K mg m_law_take) := by
  refine fn_ok (k := 0) (N := ["_law_urn", "_law_low_so", "_law_once", "_law_far", "_law_twice", "_law_drawn"]) (ps := ["_law_urn", "_law_low_so"]) (fix := [0, 1]) (body := b_law_take) T.F_law_take sc_law_take (by decide) fun cdv A outer s H E hr => ?_
  have hu : (A.deeper (envOfC "_law_take" (defScope s_law_take) s.heap.objs.size T.f_law_take cdv)).units + 65 < cLine := by have := hr.un; omega
  have hu1 : (A.deeper (envOfC "_law_take" (defScope s_law_take) s.heap.objs.size T.f_law_take cdv)).units + 1 < cLine := by have := hr.un; omega
  exact (ss_cons (ss_if (st_gt (se_ix (se_var (pv 0)) se_int) se_int) (ss_cons (ss_asg (se_mod (c_int T.z_int (se_ix (se_var (pv 0)) se_int)) (se_var (pv 1))) (sg_name (i := 5) sc_law_take.nd rfl (.inl rfl) (by decide)))
    (ss_cons (ss_asg (se_div (se_ix (se_var (pv 0)) se_int) (se_var (pv 1))) (sg_sub (se_var (pv 0)) se_int (pg_sub (se_var (pv 0)) se_int set_list)))
    (ss_one (ss_ret (se_var (pv 5)))))) ss_nil)
    (ss_cons (ss_asg (se_add (se_ix (se_var (pv 0)) se_int) se_int) (sg_sub (se_var (pv 0)) se_int (pg_sub (se_var (pv 0)) se_int set_list)))
    (ss_cons (ss_asg (se_mod (c_int T.z_int (se_mul (se_add (se_ix (se_var (pv 0)) se_int) (se_mul se_int (se_ix (se_var (pv 0)) se_int))) (se_add se_int (se_ix (se_var (pv 0)) se_int)))) se_int) (sg_name (i := 2) sc_law_take.nd rfl (.inl rfl) (by decide)))
    (ss_cons (ss_asg (se_add (se_mod (c_int T.z_int (se_var (pv 2))) se_int) se_int) (sg_name (i := 3) sc_law_take.nd rfl (.inl rfl) (by decide)))
    (ss_cons (ss_asg (se_mod (c_int T.z_int (se_mul (se_add (se_add (se_var (pv 2)) (se_ix (se_var (pv 0)) se_int)) (se_div (se_ix (se_var (pv 0)) se_int) se_int)) (se_var (pv 3)))) se_int) (sg_name (i := 4) sc_law_take.nd rfl (.inl rfl) (by decide)))
    (ss_one (ss_ret (se_mod (c_int T.z_int (se_div (se_mod (c_int T.z_int (se_add (se_mul (se_var (pv 4)) se_int) (se_var (pv 2)))) se_int) se_int)) (se_var (pv 1))))))))))
theorem sc_law_words : FnScope ["_law_urn", "_law_many_so", "_law_turn", "_law_pool", "_law_found"] ["_law_urn", "_law_many_so"] (defScope s_law_words) := ⟨rfl, rfl, rfl, by decide +kernel, rfl, by decide +kernel, by decide +kernel⟩
theorem ok_law_words (T : Tx K mg) : FnOk P w K mg base CX0 2 T.f_law_words T.d_law_words ["_law_urn", "_law_many_so"] (spP K mg m_law_words) := by
  have h_law_take : FnOk P w K mg base CX0 1 T.f_law_take T.d_law_take ["_law_urn", "_law_low_so"] (spP K mg m_law_take) := (ok_law_take T).mono (by omega)
  refine fn_ok (k := 1) (N := ["_law_urn", "_law_many_so", "_law_turn", "_law_pool", "_law_found"]) (ps := ["_law_urn", "_law_many_so"]) (fix := [0, 1]) (body := b_law_words) T.F_law_words sc_law_words (by decide) fun cdv A outer s H E hr => ?_
  have hu : (A.deeper (envOfC "_law_words" (defScope s_law_words) s.heap.objs.size T.f_law_words cdv)).units + 65 < cLine := by have := hr.un; omega
  have hu1 : (A.deeper (envOfC "_law_words" (defScope s_law_words) s.heap.objs.size T.f_law_words cdv)).units + 1 < cLine := by have := hr.un; omega
  exact (ss_cons (ss_par2 (i := 3) (j := 4) rfl sc_law_words.nd rfl rfl (by decide) rfl rfl (by decide) (by decide) (sa_cons (se_lst (sa_cons se_str (sa_cons se_str (sa_cons se_str (sa_cons se_str (sa_cons se_str (sa_cons se_str (sa_cons se_str (sa_cons se_str (sa_cons se_str (sa_cons se_str (sa_cons se_str (sa_cons se_str (sa_cons se_str (sa_cons se_str (sa_cons se_str (sa_cons se_str sa_nil))))))))))))))))) (sa_cons (se_lst sa_nil) sa_nil)) rfl)
    (ss_cons (ss_for PassesOwn.never rfl (si_range1 rfl T.z_range (se_var (pv 1))) (sg_name (i := 2) sc_law_words.nd rfl (.inl rfl) (by decide)) (ss_one (ss_expr (se_appN rfl rfl rfl rfl (pv 4) (se_popAtN rfl rfl rfl rfl (pv 3) (se_call h_law_take hr rfl T.g_law_take T.F_law_take.kp T.B_law_take (sa_cons (se_var (pv 0)) (sa_cons (c_len T.z_len (se_var (pv 3))) sa_nil))))))))
    (ss_one (ss_ret (se_var (pv 4))))))
theorem sc_law_shape : FnScope ["_law_urn", "_law_row", "_law_cut_so", "_law_front"] ["_law_urn", "_law_row"] (defScope s_law_shape) := ⟨rfl, rfl, rfl, by decide +kernel, rfl, by decide +kernel, by decide +kernel⟩
theorem ok_law_shape (T : Tx K mg) : ∀ n : Nat, FnOk P w K mg base CX0 (1 + n) T.f_law_shape T.d_law_shape ["_law_urn", "_law_row"] (spP K mg (m_law_shape n))
  | 0 => fn_none.mono (Nat.zero_le _)
  | n + 1 => by
    have IH := ok_law_shape T n
    have h_law_take : FnOk P w K mg base CX0 (1 + n) T.f_law_take T.d_law_take ["_law_urn", "_law_low_so"] (spP K mg m_law_take) := (ok_law_take T).mono (by omega)
    refine fn_ok (k := 1 + n) (N := ["_law_urn", "_law_row", "_law_cut_so", "_law_front"]) (ps := ["_law_urn", "_law_row"]) (fix := [0, 1]) (body := b_law_shape (m_law_shape n)) T.F_law_shape sc_law_shape (by decide) fun cdv A outer s H E hr => ?_
    have hu : (A.deeper (envOfC "_law_shape" (defScope s_law_shape) s.heap.objs.size T.f_law_shape cdv)).units + 65 < cLine := by have := hr.un; omega
    have hu1 : (A.deeper (envOfC "_law_shape" (defScope s_law_shape) s.heap.objs.size T.f_law_shape cdv)).units + 1 < cLine := by have := hr.un; omega
    exact (ss_cons (ss_if (st_eq hu (c_len T.z_len (se_var (pv 1))) se_int) (ss_one (ss_ret (se_ix (se_var (pv 1)) se_int))) ss_nil)
      (ss_cons (ss_asg (se_add se_int (se_call h_law_take hr rfl T.g_law_take T.F_law_take.kp T.B_law_take (sa_cons (se_var (pv 0)) (sa_cons (se_sub (c_len T.z_len (se_var (pv 1))) se_int) sa_nil)))) (sg_name (i := 2) sc_law_shape.nd rfl (.inl rfl) (by decide)))
      (ss_cons (ss_asg (se_call IH hr rfl T.g_law_shape T.F_law_shape.kp T.B_law_shape (sa_cons (se_var (pv 0)) (sa_cons (se_slHi (se_var (pv 1)) (se_var (pv 2))) sa_nil))) (sg_name (i := 3) sc_law_shape.nd rfl (.inl rfl) (by decide)))
      (ss_one (ss_ret (se_tup (sa_cons (se_var (pv 3)) (sa_cons (se_call IH hr rfl T.g_law_shape T.F_law_shape.kp T.B_law_shape (sa_cons (se_var (pv 0)) (sa_cons (se_slLo (se_var (pv 1)) (se_var (pv 2))) sa_nil))) sa_nil))))))))
theorem sc_law_renamed : FnScope ["_law_tale", "_law_names_so"] ["_law_tale", "_law_names_so"] (defScope s_law_renamed) := ⟨rfl, rfl, rfl, by decide +kernel, rfl, by decide +kernel, by decide +kernel⟩
theorem ok_law_renamed (T : Tx K mg) : ∀ n : Nat, FnOk P w K mg base CX0 (0 + n) T.f_law_renamed T.d_law_renamed ["_law_tale", "_law_names_so"] (spP K mg (m_law_renamed n))
  | 0 => fn_none.mono (Nat.zero_le _)
  | n + 1 => by
    have IH := ok_law_renamed T n
    refine fn_ok (k := 0 + n) (N := ["_law_tale", "_law_names_so"]) (ps := ["_law_tale", "_law_names_so"]) (fix := [0, 1]) (body := b_law_renamed (m_law_renamed n)) T.F_law_renamed sc_law_renamed (by decide) fun cdv A outer s H E hr => ?_
    have hu : (A.deeper (envOfC "_law_renamed" (defScope s_law_renamed) s.heap.objs.size T.f_law_renamed cdv)).units + 65 < cLine := by have := hr.un; omega
    have hu1 : (A.deeper (envOfC "_law_renamed" (defScope s_law_renamed) s.heap.objs.size T.f_law_renamed cdv)).units + 1 < cLine := by have := hr.un; omega
    exact (ss_cons (ss_if (st_pure (st_tr (se_isi1 rfl T.z_isinstance (se_var (pv 0)) rfl T.z_str b_str))) (ss_one (ss_ret (se_pure (se_qget hu1 (se_var (pv 1)) (se_var (pv 0)))))) ss_nil)
      (ss_one (ss_ret (se_pure (se_tup (sa_cons (se_callP IH hr rfl T.g_law_renamed T.F_law_renamed.kp T.B_law_renamed (sa_cons (se_ix (se_var (pv 0)) se_int) (sa_cons (se_var (pv 1)) sa_nil))) (sa_cons (se_callP IH hr rfl T.g_law_renamed T.F_law_renamed.kp T.B_law_renamed (sa_cons (se_ix (se_var (pv 0)) se_int) (sa_cons (se_var (pv 1)) sa_nil))) sa_nil)))))))
theorem sc_Tree_boxes : FnScope ["self"] ["self"] (defScope s_Tree_boxes) := ⟨rfl, rfl, rfl, by decide +kernel, rfl, by decide +kernel, by decide +kernel⟩
theorem ok_Tree_boxes (T : Tx K mg) : FnOk P w K mg base CX0 1 T.f_Tree_boxes T.d_Tree_boxes ["self"] (spP K mg m_Tree_boxes) := by
  refine fn_ok (k := 0) (N := ["self"]) (ps := ["self"]) (fix := [0]) (body := b_Tree_boxes) T.F_Tree_boxes sc_Tree_boxes (by decide) fun cdv A outer s H E hr => ?_
  have hu : (A.deeper (envOfC "Tree.boxes" (defScope s_Tree_boxes) s.heap.objs.size T.f_Tree_boxes cdv)).units + 65 < cLine := by have := hr.un; omega
  have hu1 : (A.deeper (envOfC "Tree.boxes" (defScope s_Tree_boxes) s.heap.objs.size T.f_Tree_boxes cdv)).units + 1 < cLine := by have := hr.un; omega
  exact (ss_one (ss_ret (c_tuple T.z_tuple (se_fld T.sl_Tree_own_boxes (se_var (pv 0)) rfl))))
theorem sc_Tree_grown : FnScope ["self", "tree", "sides", "node"] ["self", "tree"] (defScope s_Tree_grown) := ⟨rfl, rfl, rfl, by decide +kernel, rfl, by decide +kernel, by decide +kernel⟩
theorem ok_Tree_grown (T : Tx K mg) : ∀ n : Nat, FnOk P w K mg base CX0 (0 + n) T.f_Tree_grown T.d_Tree_grown ["self", "tree"] (spP K mg (m_Tree_grown n))
  | 0 => fn_none.mono (Nat.zero_le _)
  | n + 1 => by
    have IH := ok_Tree_grown T n
    refine fn_ok (k := 0 + n) (N := ["self", "tree", "sides", "node"]) (ps := ["self", "tree"]) (fix := [0, 1]) (body := b_Tree_grown (m_Tree_grown n)) T.F_Tree_grown sc_Tree_grown (by decide) fun cdv A outer s H E hr => ?_
    have hu : (A.deeper (envOfC "Tree.grown" (defScope s_Tree_grown) s.heap.objs.size T.f_Tree_grown cdv)).units + 65 < cLine := by have := hr.un; omega
    have hu1 : (A.deeper (envOfC "Tree.grown" (defScope s_Tree_grown) s.heap.objs.size T.f_Tree_grown cdv)).units + 1 < cLine := by have := hr.un; omega
    exact (ss_cons (ss_if (st_tr (se_isi1 rfl T.z_isinstance (se_var (pv 1)) rfl T.z_str b_str)) (ss_cons (ss_asg (se_tup (sa_cons (c_len T.z_len (se_fld T.sl_Tree_own_boxes (se_var (pv 0)) rfl)) (sa_cons (se_add (c_len T.z_len (se_fld T.sl_Tree_own_boxes (se_var (pv 0)) rfl)) se_int) sa_nil))) (sg_name (i := 3) sc_Tree_grown.nd rfl (.inl rfl) (by decide)))
      (ss_cons (ss_expr (se_appP rfl rfl rfl rfl (se_fld T.sl_Tree_own_boxes (se_var (pv 0)) rfl) (sq_var (pv 1))))
      (ss_cons (ss_dputP hu1 (se_fld T.sl_Tree_own_sides (se_var (pv 0)) rfl) (sq_var (pv 3)) (se_tup sa_nil))
      (ss_one (ss_ret (se_var (pv 3))))))) ss_nil)
      (ss_cons (ss_asg (se_tup (sa_cons (se_meth (pl := _) T.c_Tree T.s_Tree T.m_Tree_grown (fnR_of IH T.B_Tree_grown) hr (se_var (pv 0)) (sa_cons (se_ix (se_var (pv 1)) se_int) sa_nil)) (sa_cons (se_meth (pl := _) T.c_Tree T.s_Tree T.m_Tree_grown (fnR_of IH T.B_Tree_grown) hr (se_var (pv 0)) (sa_cons (se_ix (se_var (pv 1)) se_int) sa_nil)) sa_nil))) (sg_name (i := 2) sc_Tree_grown.nd rfl (.inl rfl) (by decide)))
      (ss_cons (ss_asg (se_tup (sa_cons (se_ix (se_ix (se_var (pv 2)) se_int) se_int) (sa_cons (se_ix (se_ix (se_var (pv 2)) se_int) se_int) sa_nil))) (sg_name (i := 3) sc_Tree_grown.nd rfl (.inl rfl) (by decide)))
      (ss_cons (ss_dputP hu1 (se_fld T.sl_Tree_own_sides (se_var (pv 0)) rfl) (sq_var (pv 3)) (se_var (pv 2)))
      (ss_one (ss_ret (se_var (pv 3))))))))
theorem sc_tupled : FnScope ["thing", "part"] ["thing"] (defScope s_tupled) := ⟨rfl, rfl, rfl, by decide +kernel, rfl, by decide +kernel, by decide +kernel⟩
theorem ok_tupled (T : Tx K mg) : ∀ n : Nat, FnOk P w K mg base CX0 (0 + n) T.f_tupled T.d_tupled ["thing"] (spP K mg (m_tupled n))
  | 0 => fn_none.mono (Nat.zero_le _)
  | n + 1 => by
    have IH := ok_tupled T n
    refine fn_ok (k := 0 + n) (N := ["thing", "part"]) (ps := ["thing"]) (fix := [0]) (body := b_tupled (m_tupled n)) T.F_tupled sc_tupled (by decide) fun cdv A outer s H E hr => ?_
    have hu : (A.deeper (envOfC "tupled" (defScope s_tupled) s.heap.objs.size T.f_tupled cdv)).units + 65 < cLine := by have := hr.un; omega
    have hu1 : (A.deeper (envOfC "tupled" (defScope s_tupled) s.heap.objs.size T.f_tupled cdv)).units + 1 < cLine := by have := hr.un; omega
    exact (ss_one (ss_ret (se_if (st_tr (se_isiT rfl T.z_isinstance (se_var (pv 0)) (ty_cons rfl T.z_list b_list (ty_cons rfl T.z_tuple b_tuple ty_nil)) (by decide))) (c_tuple T.z_tuple (se_compn (own := [("part", 1)]) (n := 2) rfl rfl sc_tupled.nd (si_seq (se_var (pv 0))) (blkOk_by (by kernel_rfl)) (fun _ _ _ _ _ => (sg_name (i := 1) sc_tupled.nd rfl (.inl rfl) (by decide))) (fun _ _ _ _ _ => sts_nil) (fun _ _ _ _ _ => (se_callP IH hr rfl T.g_tupled T.F_tupled.kp T.B_tupled (sa_cons (se_var (pv 1)) sa_nil))))) (se_var (pv 0)))))
theorem sc_Tree_init : FnScope ["self", "tree"] ["self", "tree"] (defScope s_Tree_init) := ⟨rfl, rfl, rfl, by decide +kernel, rfl, by decide +kernel, by decide +kernel⟩
theorem ok_Tree_init (T : Tx K mg) : FnOk P w K mg base CX0 41 T.f_Tree_init T.d_Tree_init ["self", "tree"] (spP K mg m_Tree_init) := by
  have h_Tree_grown : FnOk P w K mg base CX0 40 T.f_Tree_grown T.d_Tree_grown ["self", "tree"] (spP K mg (m_Tree_grown 40)) := (ok_Tree_grown T 40).mono (by omega)
  have h_tupled : FnOk P w K mg base CX0 40 T.f_tupled T.d_tupled ["thing"] (spP K mg (m_tupled 40)) := (ok_tupled T 40).mono (by omega)
  refine fn_ok (k := 40) (N := ["self", "tree"]) (ps := ["self", "tree"]) (fix := [0, 1]) (body := b_Tree_init) T.F_Tree_init sc_Tree_init (by decide) fun cdv A outer s H E hr => ?_
  have hu : (A.deeper (envOfC "Tree.__init__" (defScope s_Tree_init) s.heap.objs.size T.f_Tree_init cdv)).units + 65 < cLine := by have := hr.un; omega
  have hu1 : (A.deeper (envOfC "Tree.__init__" (defScope s_Tree_init) s.heap.objs.size T.f_Tree_init cdv)).units + 1 < cLine := by have := hr.un; omega
  exact (ss_cons (ss_fld T.sl_Tree_own_boxes (pv 0) (se_lst sa_nil))
    (ss_cons (ss_fld T.sl_Tree_own_sides (pv 0) se_newT)
    (ss_one (ss_fld T.sl_Tree_own_head (pv 0) (se_meth (pl := _) T.c_Tree T.s_Tree T.m_Tree_grown (fnR_of h_Tree_grown T.B_Tree_grown) hr (se_var (pv 0)) (sa_cons (se_callP h_tupled hr rfl T.g_tupled T.F_tupled.kp T.B_tupled (sa_cons (se_var (pv 1)) sa_nil)) sa_nil))))))
theorem sc_boxes_in : FnScope ["tree"] ["tree"] (defScope s_boxes_in) := ⟨rfl, rfl, rfl, by decide +kernel, rfl, by decide +kernel, by decide +kernel⟩
theorem ok_boxes_in (T : Tx K mg) : FnOk P w K mg base CX0 43 T.f_boxes_in T.d_boxes_in ["tree"] (spP K mg m_boxes_in) := by
  have h_Tree_boxes : FnOk P w K mg base CX0 42 T.f_Tree_boxes T.d_Tree_boxes ["self"] (spP K mg m_Tree_boxes) := (ok_Tree_boxes T).mono (by omega)
  have h_Tree_initm : FnOk P w K mg base CX0 41 T.f_Tree_init T.d_Tree_init ["self", "tree"] (spP K mg m_Tree_init) := (ok_Tree_init T).mono (by omega)
  refine fn_ok (k := 42) (N := ["tree"]) (ps := ["tree"]) (fix := [0]) (body := b_boxes_in) T.F_boxes_in sc_boxes_in (by decide) fun cdv A outer s H E hr => ?_
  have hu : (A.deeper (envOfC "boxes_in" (defScope s_boxes_in) s.heap.objs.size T.f_boxes_in cdv)).units + 65 < cLine := by have := hr.un; omega
  have hu1 : (A.deeper (envOfC "boxes_in" (defScope s_boxes_in) s.heap.objs.size T.f_boxes_in cdv)).units + 1 < cLine := by have := hr.un; omega
  exact (ss_one (ss_ret (se_methP0 (pl := _) T.c_Tree T.s_Tree T.m_Tree_boxes (fnR_of h_Tree_boxes T.B_Tree_boxes) hr (se_make T.mk_Tree T.c_Tree h_Tree_initm hr rfl T.B_Tree_init (sa_cons (se_var (pv 0)) sa_nil)))))
theorem sc_Tree_nodes : FnScope ["self"] ["self"] (defScope s_Tree_nodes) := ⟨rfl, rfl, rfl, by decide +kernel, rfl, by decide +kernel, by decide +kernel⟩
theorem ok_Tree_nodes (T : Tx K mg) : FnOk P w K mg base CX0 1 T.f_Tree_nodes T.d_Tree_nodes ["self"] (spP K mg m_Tree_nodes) := by
  refine fn_ok (k := 0) (N := ["self"]) (ps := ["self"]) (fix := [0]) (body := b_Tree_nodes) T.F_Tree_nodes sc_Tree_nodes (by decide) fun cdv A outer s H E hr => ?_
  have hu : (A.deeper (envOfC "Tree.nodes" (defScope s_Tree_nodes) s.heap.objs.size T.f_Tree_nodes cdv)).units + 65 < cLine := by have := hr.un; omega
  have hu1 : (A.deeper (envOfC "Tree.nodes" (defScope s_Tree_nodes) s.heap.objs.size T.f_Tree_nodes cdv)).units + 1 < cLine := by have := hr.un; omega
  exact (ss_one (ss_ret (c_sortX hu rfl T.z_sorted (se_fld T.sl_Tree_own_sides (se_var (pv 0)) rfl))))
theorem sc_nodes_in : FnScope ["tree"] ["tree"] (defScope s_nodes_in) := ⟨rfl, rfl, rfl, by decide +kernel, rfl, by decide +kernel, by decide +kernel⟩
theorem ok_nodes_in (T : Tx K mg) : FnOk P w K mg base CX0 43 T.f_nodes_in T.d_nodes_in ["tree"] (spP K mg m_nodes_in) := by
  have h_Tree_nodes : FnOk P w K mg base CX0 42 T.f_Tree_nodes T.d_Tree_nodes ["self"] (spP K mg m_Tree_nodes) := (ok_Tree_nodes T).mono (by omega)
  have h_Tree_initm : FnOk P w K mg base CX0 41 T.f_Tree_init T.d_Tree_init ["self", "tree"] (spP K mg m_Tree_init) := (ok_Tree_init T).mono (by omega)
  refine fn_ok (k := 42) (N := ["tree"]) (ps := ["tree"]) (fix := [0]) (body := b_nodes_in) T.F_nodes_in sc_nodes_in (by decide) fun cdv A outer s H E hr => ?_
  have hu : (A.deeper (envOfC "nodes_in" (defScope s_nodes_in) s.heap.objs.size T.f_nodes_in cdv)).units + 65 < cLine := by have := hr.un; omega
  have hu1 : (A.deeper (envOfC "nodes_in" (defScope s_nodes_in) s.heap.objs.size T.f_nodes_in cdv)).units + 1 < cLine := by have := hr.un; omega
  exact (ss_one (ss_ret (se_methP0 (pl := _) T.c_Tree T.s_Tree T.m_Tree_nodes (fnR_of h_Tree_nodes T.B_Tree_nodes) hr (se_make T.mk_Tree T.c_Tree h_Tree_initm hr rfl T.B_Tree_init (sa_cons (se_var (pv 0)) sa_nil)))))
theorem sc_Tree_names : FnScope ["self", "node"] ["self", "node"] (defScope s_Tree_names) := ⟨rfl, rfl, rfl, by decide +kernel, rfl, by decide +kernel, by decide +kernel⟩
theorem ok_Tree_names (T : Tx K mg) : FnOk P w K mg base CX0 1 T.f_Tree_names T.d_Tree_names ["self", "node"] (spP K mg m_Tree_names) := by
  refine fn_ok (k := 0) (N := ["self", "node"]) (ps := ["self", "node"]) (fix := [0, 1]) (body := b_Tree_names) T.F_Tree_names sc_Tree_names (by decide) fun cdv A outer s H E hr => ?_
  have hu : (A.deeper (envOfC "Tree.names" (defScope s_Tree_names) s.heap.objs.size T.f_Tree_names cdv)).units + 65 < cLine := by have := hr.un; omega
  have hu1 : (A.deeper (envOfC "Tree.names" (defScope s_Tree_names) s.heap.objs.size T.f_Tree_names cdv)).units + 1 < cLine := by have := hr.un; omega
  exact (ss_one (ss_ret (c_tuple T.z_tuple (c_sortX hu rfl T.z_sorted (se_sl2 (se_fld T.sl_Tree_own_boxes (se_var (pv 0)) rfl) (se_ix (se_var (pv 1)) se_int) (se_ix (se_var (pv 1)) se_int))))))
theorem sc_boxes_of : FnScope ["tree", "node"] ["tree", "node"] (defScope s_boxes_of) := ⟨rfl, rfl, rfl, by decide +kernel, rfl, by decide +kernel, by decide +kernel⟩
theorem ok_boxes_of (T : Tx K mg) : FnOk P w K mg base CX0 43 T.f_boxes_of T.d_boxes_of ["tree", "node"] (spP K mg m_boxes_of) := by
  have h_Tree_names : FnOk P w K mg base CX0 42 T.f_Tree_names T.d_Tree_names ["self", "node"] (spP K mg m_Tree_names) := (ok_Tree_names T).mono (by omega)
  have h_tupled : FnOk P w K mg base CX0 42 T.f_tupled T.d_tupled ["thing"] (spP K mg (m_tupled 40)) := (ok_tupled T 40).mono (by omega)
  have h_Tree_initm : FnOk P w K mg base CX0 41 T.f_Tree_init T.d_Tree_init ["self", "tree"] (spP K mg m_Tree_init) := (ok_Tree_init T).mono (by omega)
  refine fn_ok (k := 42) (N := ["tree", "node"]) (ps := ["tree", "node"]) (fix := [0, 1]) (body := b_boxes_of) T.F_boxes_of sc_boxes_of (by decide) fun cdv A outer s H E hr => ?_
  have hu : (A.deeper (envOfC "boxes_of" (defScope s_boxes_of) s.heap.objs.size T.f_boxes_of cdv)).units + 65 < cLine := by have := hr.un; omega
  have hu1 : (A.deeper (envOfC "boxes_of" (defScope s_boxes_of) s.heap.objs.size T.f_boxes_of cdv)).units + 1 < cLine := by have := hr.un; omega
  exact (ss_one (ss_ret (se_methP (pl := _) T.c_Tree T.s_Tree T.m_Tree_names (fnR_of h_Tree_names T.B_Tree_names) hr (se_make T.mk_Tree T.c_Tree h_Tree_initm hr rfl T.B_Tree_init (sa_cons (se_var (pv 0)) sa_nil)) (sa_cons (se_callP h_tupled hr rfl T.g_tupled T.F_tupled.kp T.B_tupled (sa_cons (se_var (pv 1)) sa_nil)) sa_nil))))
theorem sc_Tree_sides : FnScope ["self", "node"] ["self", "node"] (defScope s_Tree_sides) := ⟨rfl, rfl, rfl, by decide +kernel, rfl, by decide +kernel, by decide +kernel⟩
theorem ok_Tree_sides (T : Tx K mg) : FnOk P w K mg base CX0 1 T.f_Tree_sides T.d_Tree_sides ["self", "node"] (spP K mg m_Tree_sides) := by
  refine fn_ok (k := 0) (N := ["self", "node"]) (ps := ["self", "node"]) (fix := [0, 1]) (body := b_Tree_sides) T.F_Tree_sides sc_Tree_sides (by decide) fun cdv A outer s H E hr => ?_
  have hu : (A.deeper (envOfC "Tree.sides" (defScope s_Tree_sides) s.heap.objs.size T.f_Tree_sides cdv)).units + 65 < cLine := by have := hr.un; omega
  have hu1 : (A.deeper (envOfC "Tree.sides" (defScope s_Tree_sides) s.heap.objs.size T.f_Tree_sides cdv)).units + 1 < cLine := by have := hr.un; omega
  exact (ss_one (ss_ret (se_dget hu1 (se_fld T.sl_Tree_own_sides (se_var (pv 0)) rfl) (se_var (pv 1)))))
theorem sc_sides_of : FnScope ["tree", "node", "found"] ["tree", "node"] (defScope s_sides_of) := ⟨rfl, rfl, rfl, by decide +kernel, rfl, by decide +kernel, by decide +kernel⟩
theorem ok_sides_of (T : Tx K mg) : FnOk P w K mg base CX0 43 T.f_sides_of T.d_sides_of ["tree", "node"] (spP K mg m_sides_of) := by
  have h_Tree_sides : FnOk P w K mg base CX0 42 T.f_Tree_sides T.d_Tree_sides ["self", "node"] (spP K mg m_Tree_sides) := (ok_Tree_sides T).mono (by omega)
  have h_tupled : FnOk P w K mg base CX0 42 T.f_tupled T.d_tupled ["thing"] (spP K mg (m_tupled 40)) := (ok_tupled T 40).mono (by omega)
  have h_Tree_initm : FnOk P w K mg base CX0 41 T.f_Tree_init T.d_Tree_init ["self", "tree"] (spP K mg m_Tree_init) := (ok_Tree_init T).mono (by omega)
  refine fn_ok (k := 42) (N := ["tree", "node", "found"]) (ps := ["tree", "node"]) (fix := [0, 1]) (body := b_sides_of) T.F_sides_of sc_sides_of (by decide) fun cdv A outer s H E hr => ?_
  have hu : (A.deeper (envOfC "sides_of" (defScope s_sides_of) s.heap.objs.size T.f_sides_of cdv)).units + 65 < cLine := by have := hr.un; omega
  have hu1 : (A.deeper (envOfC "sides_of" (defScope s_sides_of) s.heap.objs.size T.f_sides_of cdv)).units + 1 < cLine := by have := hr.un; omega
  exact (ss_cons (ss_asg (se_methP (pl := _) T.c_Tree T.s_Tree T.m_Tree_sides (fnR_of h_Tree_sides T.B_Tree_sides) hr (se_make T.mk_Tree T.c_Tree h_Tree_initm hr rfl T.B_Tree_init (sa_cons (se_var (pv 0)) sa_nil)) (sa_cons (se_callP h_tupled hr rfl T.g_tupled T.F_tupled.kp T.B_tupled (sa_cons (se_var (pv 1)) sa_nil)) sa_nil)) (sg_name (i := 2) sc_sides_of.nd rfl (.inl rfl) (by decide)))
    (ss_one (ss_ret (se_if (st_gt (c_len T.z_len (se_var (pv 2))) se_int) (se_var (pv 2)) se_non))))
theorem sc_Tree_way : FnScope ["self", "box", "number", "found", "here", "node"] ["self", "box"] (defScope s_Tree_way) := ⟨rfl, rfl, rfl, by decide +kernel, rfl, by decide +kernel, by decide +kernel⟩
theorem ok_Tree_way (T : Tx K mg) : FnOk P w K mg base CX0 1 T.f_Tree_way T.d_Tree_way ["self", "box"] (spP K mg m_Tree_way) := by
  refine fn_ok (k := 0) (N := ["self", "box", "number", "found", "here", "node"]) (ps := ["self", "box"]) (fix := [0, 1]) (body := b_Tree_way) T.F_Tree_way sc_Tree_way (by decide) fun cdv A outer s H E hr => ?_
  have hu : (A.deeper (envOfC "Tree.way" (defScope s_Tree_way) s.heap.objs.size T.f_Tree_way cdv)).units + 65 < cLine := by have := hr.un; omega
  have hu1 : (A.deeper (envOfC "Tree.way" (defScope s_Tree_way) s.heap.objs.size T.f_Tree_way cdv)).units + 1 < cLine := by have := hr.un; omega
  exact (ss_cons (ss_if (st_notin hu (se_var (pv 1)) (se_fld T.sl_Tree_own_boxes (se_var (pv 0)) rfl)) (ss_one ss_never) ss_nil)
    (ss_cons (ss_asg (se_idx (se_fld T.sl_Tree_own_boxes (se_var (pv 0)) rfl) (sq_var (pv 1))) (sg_name (i := 2) sc_Tree_way.nd rfl (.inr rfl) (by decide)))
    (ss_cons (ss_par2 (i := 3) (j := 4) rfl sc_Tree_way.nd rfl rfl (by decide) rfl rfl (by decide) (by decide) (sa_cons (se_lst sa_nil) (sa_cons (se_tup (sa_cons (se_fld T.sl_Tree_own_head (se_var (pv 0)) rfl) sa_nil)) sa_nil)) rfl)
    (ss_cons (ss_while (n := 400) PassesOwn.never (st_gt (c_len T.z_len (se_var (pv 4))) se_int) (ss_cons (ss_expr (se_appN rfl rfl rfl rfl (pv 3) (se_ix (se_compn (own := [("node", 5)]) (n := 6) rfl rfl sc_Tree_way.nd (si_seq (se_var (pv 4))) (blkOk_by (by kernel_rfl)) (fun _ _ _ _ _ => (sg_name (i := 5) sc_Tree_way.nd rfl (.inl rfl) (by decide))) (fun _ _ _ _ _ => (sts_one (st_pure (st_chain op_le op_lt (cI _) (cI _) (se_ix (se_var (pv 5)) se_int) (se_var (pv 2)) (se_ix (se_var (pv 5)) se_int))))) (fun _ _ _ _ _ => (se_var (pv 5)))) se_int)))
    (ss_one (ss_asg (se_dget hu1 (se_fld T.sl_Tree_own_sides (se_var (pv 0)) rfl) (se_ix (se_var (pv 3)) (se_neg se_int))) (sg_name (i := 4) sc_Tree_way.nd rfl (.inl rfl) (by decide))))))
    (ss_one (ss_ret (se_var (pv 3))))))))
theorem sc_way_to : FnScope ["tree", "box"] ["tree", "box"] (defScope s_way_to) := ⟨rfl, rfl, rfl, by decide +kernel, rfl, by decide +kernel, by decide +kernel⟩
theorem ok_way_to (T : Tx K mg) : FnOk P w K mg base CX0 43 T.f_way_to T.d_way_to ["tree", "box"] (spP K mg m_way_to) := by
  have h_Tree_way : FnOk P w K mg base CX0 42 T.f_Tree_way T.d_Tree_way ["self", "box"] (spP K mg m_Tree_way) := (ok_Tree_way T).mono (by omega)
  have h_Tree_initm : FnOk P w K mg base CX0 41 T.f_Tree_init T.d_Tree_init ["self", "tree"] (spP K mg m_Tree_init) := (ok_Tree_init T).mono (by omega)
  refine fn_ok (k := 42) (N := ["tree", "box"]) (ps := ["tree", "box"]) (fix := [0, 1]) (body := b_way_to) T.F_way_to sc_way_to (by decide) fun cdv A outer s H E hr => ?_
  have hu : (A.deeper (envOfC "way_to" (defScope s_way_to) s.heap.objs.size T.f_way_to cdv)).units + 65 < cLine := by have := hr.un; omega
  have hu1 : (A.deeper (envOfC "way_to" (defScope s_way_to) s.heap.objs.size T.f_way_to cdv)).units + 1 < cLine := by have := hr.un; omega
  exact (ss_one (ss_ret (se_methP (pl := _) T.c_Tree T.s_Tree T.m_Tree_way (fnR_of h_Tree_way T.B_Tree_way) hr (se_make T.mk_Tree T.c_Tree h_Tree_initm hr rfl T.B_Tree_init (sa_cons (se_var (pv 0)) sa_nil)) (sa_cons (se_var (pv 1)) sa_nil))))
theorem sc_Tree_below : FnScope ["self", "node", "found", "waiting", "here"] ["self", "node"] (defScope s_Tree_below) := ⟨rfl, rfl, rfl, by decide +kernel, rfl, by decide +kernel, by decide +kernel⟩
theorem ok_Tree_below (T : Tx K mg) : FnOk P w K mg base CX0 1 T.f_Tree_below T.d_Tree_below ["self", "node"] (spP K mg m_Tree_below) := by
  refine fn_ok (k := 0) (N := ["self", "node", "found", "waiting", "here"]) (ps := ["self", "node"]) (fix := [0, 1]) (body := b_Tree_below) T.F_Tree_below sc_Tree_below (by decide) fun cdv A outer s H E hr => ?_
  have hu : (A.deeper (envOfC "Tree.below" (defScope s_Tree_below) s.heap.objs.size T.f_Tree_below cdv)).units + 65 < cLine := by have := hr.un; omega
  have hu1 : (A.deeper (envOfC "Tree.below" (defScope s_Tree_below) s.heap.objs.size T.f_Tree_below cdv)).units + 1 < cLine := by have := hr.un; omega
  exact (ss_cons (ss_par2 (i := 2) (j := 3) rfl sc_Tree_below.nd rfl rfl (by decide) rfl rfl (by decide) (by decide) (sa_cons (se_lst sa_nil) (sa_cons (se_lst (sa_cons (se_var (pv 1)) sa_nil)) sa_nil)) rfl)
    (ss_cons (ss_while (n := 400) PassesOwn.never (st_gt (c_len T.z_len (se_var (pv 3))) se_int) (ss_cons (ss_asg (se_pop rfl rfl (se_var (pv 3))) (sg_name (i := 4) sc_Tree_below.nd rfl (.inl rfl) (by decide)))
    (ss_cons (ss_expr (se_appN rfl rfl rfl rfl (pv 2) (se_var (pv 4))))
    (ss_one (ss_expr (se_ext2N rfl rfl rfl rfl (pv 3) (se_dget hu1 (se_fld T.sl_Tree_own_sides (se_var (pv 0)) rfl) (se_var (pv 4)))))))))
    (ss_one (ss_ret (c_sortX hu rfl T.z_sorted (se_var (pv 2)))))))
theorem sc_nodes_below : FnScope ["tree", "node"] ["tree", "node"] (defScope s_nodes_below) := ⟨rfl, rfl, rfl, by decide +kernel, rfl, by decide +kernel, by decide +kernel⟩
theorem ok_nodes_below (T : Tx K mg) : FnOk P w K mg base CX0 43 T.f_nodes_below T.d_nodes_below ["tree", "node"] (spP K mg m_nodes_below) := by
  have h_Tree_below : FnOk P w K mg base CX0 42 T.f_Tree_below T.d_Tree_below ["self", "node"] (spP K mg m_Tree_below) := (ok_Tree_below T).mono (by omega)
  have h_tupled : FnOk P w K mg base CX0 42 T.f_tupled T.d_tupled ["thing"] (spP K mg (m_tupled 40)) := (ok_tupled T 40).mono (by omega)
  have h_Tree_initm : FnOk P w K mg base CX0 41 T.f_Tree_init T.d_Tree_init ["self", "tree"] (spP K mg m_Tree_init) := (ok_Tree_init T).mono (by omega)
  refine fn_ok (k := 42) (N := ["tree", "node"]) (ps := ["tree", "node"]) (fix := [0, 1]) (body := b_nodes_below) T.F_nodes_below sc_nodes_below (by decide) fun cdv A outer s H E hr => ?_
  have hu : (A.deeper (envOfC "nodes_below" (defScope s_nodes_below) s.heap.objs.size T.f_nodes_below cdv)).units + 65 < cLine := by have := hr.un; omega
  have hu1 : (A.deeper (envOfC "nodes_below" (defScope s_nodes_below) s.heap.objs.size T.f_nodes_below cdv)).units + 1 < cLine := by have := hr.un; omega
  exact (ss_one (ss_ret (se_methP (pl := _) T.c_Tree T.s_Tree T.m_Tree_below (fnR_of h_Tree_below T.B_Tree_below) hr (se_make T.mk_Tree T.c_Tree h_Tree_initm hr rfl T.B_Tree_init (sa_cons (se_var (pv 0)) sa_nil)) (sa_cons (se_callP h_tupled hr rfl T.g_tupled T.F_tupled.kp T.B_tupled (sa_cons (se_var (pv 1)) sa_nil)) sa_nil))))
theorem sc_law_shifted : FnScope ["_law_knots", "_law_spot", "_law_own"] ["_law_knots", "_law_spot"] (defScope s_law_shifted) := ⟨rfl, rfl, rfl, by decide +kernel, rfl, by decide +kernel, by decide +kernel⟩
theorem ok_law_shifted (T : Tx K mg) : FnOk P w K mg base CX0 1 T.f_law_shifted T.d_law_shifted ["_law_knots", "_law_spot"] (spP K mg m_law_shifted) := by
  refine fn_ok (k := 0) (N := ["_law_knots", "_law_spot", "_law_own"]) (ps := ["_law_knots", "_law_spot"]) (fix := [0, 1]) (body := b_law_shifted) T.F_law_shifted sc_law_shifted (by decide) fun cdv A outer s H E hr => ?_
  have hu : (A.deeper (envOfC "_law_shifted" (defScope s_law_shifted) s.heap.objs.size T.f_law_shifted cdv)).units + 65 < cLine := by have := hr.un; omega
  have hu1 : (A.deeper (envOfC "_law_shifted" (defScope s_law_shifted) s.heap.objs.size T.f_law_shifted cdv)).units + 1 < cLine := by have := hr.un; omega
  exact (ss_one (ss_ret (se_pure (se_compn (own := [("_law_own", 2)]) (n := 3) rfl rfl sc_law_shifted.nd (si_seq (se_var (pv 0))) (blkOk_by (by kernel_rfl)) (fun _ _ _ _ _ => (sg_name (i := 2) sc_law_shifted.nd rfl (.inl rfl) (by decide))) (fun _ _ _ _ _ => sts_nil) (fun _ _ _ _ _ => (se_tup (sa_cons (se_add (se_ix (se_var (pv 2)) se_int) (se_var (pv 1))) (sa_cons (se_add (se_ix (se_var (pv 2)) se_int) (se_var (pv 1))) sa_nil))))))))
theorem sc_law_joined_right : FnScope ["_law_one_so", "_law_other_so", "_law_goal", "_law_name_so", "_law_own", "_law_both", "_law_n_so", "_law_m_so", "_law_far"] ["_law_one_so", "_law_other_so"] (defScope s_law_joined_right) := ⟨rfl, rfl, rfl, by decide +kernel, rfl, by decide +kernel, by decide +kernel⟩
theorem ok_law_joined_right (T : Tx K mg) : FnOk P w K mg base CX0 44 T.f_law_joined_right T.d_law_joined_right ["_law_one_so", "_law_other_so"] (spP K mg m_law_joined_right) := by
  have h_boxes_in : FnOk P w K mg base CX0 43 T.f_boxes_in T.d_boxes_in ["tree"] (spP K mg m_boxes_in) := (ok_boxes_in T).mono (by omega)
  have h_nodes_in : FnOk P w K mg base CX0 43 T.f_nodes_in T.d_nodes_in ["tree"] (spP K mg m_nodes_in) := (ok_nodes_in T).mono (by omega)
  have h_boxes_of : FnOk P w K mg base CX0 43 T.f_boxes_of T.d_boxes_of ["tree", "node"] (spP K mg m_boxes_of) := (ok_boxes_of T).mono (by omega)
  have h_sides_of : FnOk P w K mg base CX0 43 T.f_sides_of T.d_sides_of ["tree", "node"] (spP K mg m_sides_of) := (ok_sides_of T).mono (by omega)
  have h_way_to : FnOk P w K mg base CX0 43 T.f_way_to T.d_way_to ["tree", "box"] (spP K mg m_way_to) := (ok_way_to T).mono (by omega)
  have h_nodes_below : FnOk P w K mg base CX0 43 T.f_nodes_below T.d_nodes_below ["tree", "node"] (spP K mg m_nodes_below) := (ok_nodes_below T).mono (by omega)
  have h_law_shifted : FnOk P w K mg base CX0 43 T.f_law_shifted T.d_law_shifted ["_law_knots", "_law_spot"] (spP K mg m_law_shifted) := (ok_law_shifted T).mono (by omega)
  refine fn_ok (k := 43) (N := ["_law_one_so", "_law_other_so", "_law_goal", "_law_name_so", "_law_own", "_law_both", "_law_n_so", "_law_m_so", "_law_far"]) (ps := ["_law_one_so", "_law_other_so"]) (fix := [0, 1]) (body := b_law_joined_right) T.F_law_joined_right sc_law_joined_right (by decide) fun cdv A outer s H E hr => ?_
  have hu : (A.deeper (envOfC "_law_joined_right" (defScope s_law_joined_right) s.heap.objs.size T.f_law_joined_right cdv)).units + 65 < cLine := by have := hr.un; omega
  have hu1 : (A.deeper (envOfC "_law_joined_right" (defScope s_law_joined_right) s.heap.objs.size T.f_law_joined_right cdv)).units + 1 < cLine := by have := hr.un; omega
  exact (ss_cons (ss_par3 (i := 5) (j := 6) (l := 7) rfl sc_law_joined_right.nd rfl rfl rfl (by decide) (by decide) (by decide) rfl rfl rfl (by decide) (by decide) (by decide) (sa_cons (se_tup (sa_cons (se_var (pv 0)) (sa_cons (se_var (pv 1)) sa_nil))) (sa_cons (se_pure (c_len T.z_len (se_callP h_boxes_in hr rfl T.g_boxes_in T.F_boxes_in.kp T.B_boxes_in (sa_cons (se_var (pv 0)) sa_nil)))) (sa_cons (se_pure (c_len T.z_len (se_callP h_boxes_in hr rfl T.g_boxes_in T.F_boxes_in.kp T.B_boxes_in (sa_cons (se_var (pv 1)) sa_nil)))) sa_nil))) rfl)
    (ss_cons (ss_if (st_pure (st_ne hu (se_callP h_boxes_in hr rfl T.g_boxes_in T.F_boxes_in.kp T.B_boxes_in (sa_cons (se_var (pv 5)) sa_nil)) (se_add (se_callP h_boxes_in hr rfl T.g_boxes_in T.F_boxes_in.kp T.B_boxes_in (sa_cons (se_var (pv 0)) sa_nil)) (se_callP h_boxes_in hr rfl T.g_boxes_in T.F_boxes_in.kp T.B_boxes_in (sa_cons (se_var (pv 1)) sa_nil))))) (ss_one (ss_ret se_bl)) ss_nil)
    (ss_cons (ss_asg (se_pure (c_sortX hu rfl T.z_sorted (se_add (se_add (se_callP h_nodes_in hr rfl T.g_nodes_in T.F_nodes_in.kp T.B_nodes_in (sa_cons (se_var (pv 0)) sa_nil)) (se_callP h_law_shifted hr rfl T.g_law_shifted T.F_law_shifted.kp T.B_law_shifted (sa_cons (se_callP h_nodes_in hr rfl T.g_nodes_in T.F_nodes_in.kp T.B_nodes_in (sa_cons (se_var (pv 1)) sa_nil)) (sa_cons (se_var (pv 6)) sa_nil)))) (se_lst (sa_cons (se_tup (sa_cons se_int (sa_cons (se_add (se_var (pv 6)) (se_var (pv 7))) sa_nil))) sa_nil))))) (sg_name (i := 2) sc_law_joined_right.nd rfl (.inl rfl) (by decide)))
    (ss_cons (ss_if (st_pure (st_w (sw_or (st_ne hu (se_callP h_nodes_in hr rfl T.g_nodes_in T.F_nodes_in.kp T.B_nodes_in (sa_cons (se_var (pv 5)) sa_nil)) (se_var (pv 2))) (sw_or1 (st_ne hu (se_callP h_sides_of hr rfl T.g_sides_of T.F_sides_of.kp T.B_sides_of (sa_cons (se_var (pv 5)) (sa_cons (se_tup (sa_cons se_int (sa_cons (se_add (se_var (pv 6)) (se_var (pv 7))) sa_nil))) sa_nil))) (se_tup (sa_cons (se_tup (sa_cons se_int (sa_cons (se_var (pv 6)) sa_nil))) (sa_cons (se_tup (sa_cons (se_var (pv 6)) (sa_cons (se_add (se_var (pv 6)) (se_var (pv 7))) sa_nil))) sa_nil)))))))) (ss_one (ss_ret se_bl)) ss_nil)
    (ss_cons (ss_for PassesOwn.never rfl (si_seq (se_pure (se_callP h_boxes_in hr rfl T.g_boxes_in T.F_boxes_in.kp T.B_boxes_in (sa_cons (se_var (pv 1)) sa_nil)))) (sg_name (i := 3) sc_law_joined_right.nd rfl (.inl rfl) (by decide)) (ss_one (ss_if (st_pure (st_ne hu (se_callP h_way_to hr rfl T.g_way_to T.F_way_to.kp T.B_way_to (sa_cons (se_var (pv 5)) (sa_cons (se_var (pv 3)) sa_nil))) (se_add (se_lst (sa_cons (se_tup (sa_cons se_int (sa_cons (se_add (se_var (pv 6)) (se_var (pv 7))) sa_nil))) sa_nil)) (se_callP h_law_shifted hr rfl T.g_law_shifted T.F_law_shifted.kp T.B_law_shifted (sa_cons (se_callP h_way_to hr rfl T.g_way_to T.F_way_to.kp T.B_way_to (sa_cons (se_var (pv 1)) (sa_cons (se_var (pv 3)) sa_nil))) (sa_cons (se_var (pv 6)) sa_nil)))))) (ss_one (ss_ret se_bl)) ss_nil)))
    (ss_cons (ss_for PassesOwn.never rfl (si_seq (se_pure (se_callP h_boxes_in hr rfl T.g_boxes_in T.F_boxes_in.kp T.B_boxes_in (sa_cons (se_var (pv 0)) sa_nil)))) (sg_name (i := 3) sc_law_joined_right.nd rfl (.inl rfl) (by decide)) (ss_one (ss_if (st_pure (st_ne hu (se_callP h_way_to hr rfl T.g_way_to T.F_way_to.kp T.B_way_to (sa_cons (se_var (pv 5)) (sa_cons (se_var (pv 3)) sa_nil))) (se_add (se_lst (sa_cons (se_tup (sa_cons se_int (sa_cons (se_add (se_var (pv 6)) (se_var (pv 7))) sa_nil))) sa_nil)) (se_callP h_way_to hr rfl T.g_way_to T.F_way_to.kp T.B_way_to (sa_cons (se_var (pv 0)) (sa_cons (se_var (pv 3)) sa_nil)))))) (ss_one (ss_ret se_bl)) ss_nil)))
    (ss_cons (ss_for PassesOwn.never rfl (si_seq (se_pure (se_callP h_nodes_in hr rfl T.g_nodes_in T.F_nodes_in.kp T.B_nodes_in (sa_cons (se_var (pv 1)) sa_nil)))) (sg_name (i := 4) sc_law_joined_right.nd rfl (.inl rfl) (by decide)) (ss_cons (ss_asg (se_pure (se_tup (sa_cons (se_add (se_ix (se_var (pv 4)) se_int) (se_var (pv 6))) (sa_cons (se_add (se_ix (se_var (pv 4)) se_int) (se_var (pv 6))) sa_nil)))) (sg_name (i := 8) sc_law_joined_right.nd rfl (.inl rfl) (by decide)))
    (ss_cons (ss_if (st_pure (st_ne hu (se_callP h_boxes_of hr rfl T.g_boxes_of T.F_boxes_of.kp T.B_boxes_of (sa_cons (se_var (pv 5)) (sa_cons (se_var (pv 8)) sa_nil))) (se_callP h_boxes_of hr rfl T.g_boxes_of T.F_boxes_of.kp T.B_boxes_of (sa_cons (se_var (pv 1)) (sa_cons (se_var (pv 4)) sa_nil))))) (ss_one (ss_ret se_bl)) ss_nil)
    (ss_one (ss_if (st_pure (st_ne hu (se_callP h_nodes_below hr rfl T.g_nodes_below T.F_nodes_below.kp T.B_nodes_below (sa_cons (se_var (pv 5)) (sa_cons (se_var (pv 8)) sa_nil))) (se_callP h_law_shifted hr rfl T.g_law_shifted T.F_law_shifted.kp T.B_law_shifted (sa_cons (se_callP h_nodes_below hr rfl T.g_nodes_below T.F_nodes_below.kp T.B_nodes_below (sa_cons (se_var (pv 1)) (sa_cons (se_var (pv 4)) sa_nil))) (sa_cons (se_var (pv 6)) sa_nil))))) (ss_one (ss_ret se_bl)) ss_nil)))))
    (ss_one (ss_ret (se_pure (se_eq hu (se_callP h_boxes_of hr rfl T.g_boxes_of T.F_boxes_of.kp T.B_boxes_of (sa_cons (se_var (pv 5)) (sa_cons (se_tup (sa_cons se_int (sa_cons (se_add (se_var (pv 6)) (se_var (pv 7))) sa_nil))) sa_nil))) (c_tuple T.z_tuple (c_sortX hu rfl T.z_sorted (se_callP h_boxes_in hr rfl T.g_boxes_in T.F_boxes_in.kp T.B_boxes_in (sa_cons (se_var (pv 5)) sa_nil)))))))))))))))
theorem sc_law_mirrored : FnScope ["_law_tale"] ["_law_tale"] (defScope s_law_mirrored) := ⟨rfl, rfl, rfl, by decide +kernel, rfl, by decide +kernel, by decide +kernel⟩
theorem ok_law_mirrored (T : Tx K mg) : ∀ n : Nat, FnOk P w K mg base CX0 (0 + n) T.f_law_mirrored T.d_law_mirrored ["_law_tale"] (spP K mg (m_law_mirrored n))
  | 0 => fn_none.mono (Nat.zero_le _)
  | n + 1 => by
    have IH := ok_law_mirrored T n
    refine fn_ok (k := 0 + n) (N := ["_law_tale"]) (ps := ["_law_tale"]) (fix := [0]) (body := b_law_mirrored (m_law_mirrored n)) T.F_law_mirrored sc_law_mirrored (by decide) fun cdv A outer s H E hr => ?_
    have hu : (A.deeper (envOfC "_law_mirrored" (defScope s_law_mirrored) s.heap.objs.size T.f_law_mirrored cdv)).units + 65 < cLine := by have := hr.un; omega
    have hu1 : (A.deeper (envOfC "_law_mirrored" (defScope s_law_mirrored) s.heap.objs.size T.f_law_mirrored cdv)).units + 1 < cLine := by have := hr.un; omega
    exact (ss_one (ss_ret (se_if (st_pure (st_tr (se_isi1 rfl T.z_isinstance (se_var (pv 0)) rfl T.z_str b_str))) (se_var (pv 0)) (se_tup (sa_cons (se_callP IH hr rfl T.g_law_mirrored T.F_law_mirrored.kp T.B_law_mirrored (sa_cons (se_ix (se_var (pv 0)) se_int) sa_nil)) (sa_cons (se_callP IH hr rfl T.g_law_mirrored T.F_law_mirrored.kp T.B_law_mirrored (sa_cons (se_ix (se_var (pv 0)) se_int) sa_nil)) sa_nil))))))
theorem sc_law_turned_right : FnScope ["_law_tale", "_law_own", "_law_flip", "_law_n_so", "_law_goal", "_law_far", "_law_both"] ["_law_tale"] (defScope s_law_turned_right) := ⟨rfl, rfl, rfl, by decide +kernel, rfl, by decide +kernel, by decide +kernel⟩
theorem ok_law_turned_right (T : Tx K mg) : FnOk P w K mg base CX0 44 T.f_law_turned_right T.d_law_turned_right ["_law_tale"] (spP K mg m_law_turned_right) := by
  have h_nodes_in : FnOk P w K mg base CX0 43 T.f_nodes_in T.d_nodes_in ["tree"] (spP K mg m_nodes_in) := (ok_nodes_in T).mono (by omega)
  have h_law_mirrored : FnOk P w K mg base CX0 43 T.f_law_mirrored T.d_law_mirrored ["_law_tale"] (spP K mg (m_law_mirrored 40)) := (ok_law_mirrored T 40).mono (by omega)
  have h_boxes_in : FnOk P w K mg base CX0 43 T.f_boxes_in T.d_boxes_in ["tree"] (spP K mg m_boxes_in) := (ok_boxes_in T).mono (by omega)
  have h_sides_of : FnOk P w K mg base CX0 43 T.f_sides_of T.d_sides_of ["tree", "node"] (spP K mg m_sides_of) := (ok_sides_of T).mono (by omega)
  have h_boxes_of : FnOk P w K mg base CX0 43 T.f_boxes_of T.d_boxes_of ["tree", "node"] (spP K mg m_boxes_of) := (ok_boxes_of T).mono (by omega)
  refine fn_ok (k := 43) (N := ["_law_tale", "_law_own", "_law_flip", "_law_n_so", "_law_goal", "_law_far", "_law_both"]) (ps := ["_law_tale"]) (fix := [0]) (body := b_law_turned_right) T.F_law_turned_right sc_law_turned_right (by decide) fun cdv A outer s H E hr => ?_
  have hu : (A.deeper (envOfC "_law_turned_right" (defScope s_law_turned_right) s.heap.objs.size T.f_law_turned_right cdv)).units + 65 < cLine := by have := hr.un; omega
  have hu1 : (A.deeper (envOfC "_law_turned_right" (defScope s_law_turned_right) s.heap.objs.size T.f_law_turned_right cdv)).units + 1 < cLine := by have := hr.un; omega
  exact (ss_cons (ss_par2 (i := 2) (j := 3) rfl sc_law_turned_right.nd rfl rfl (by decide) rfl rfl (by decide) (by decide) (sa_cons (se_pure (se_callP h_law_mirrored hr rfl T.g_law_mirrored T.F_law_mirrored.kp T.B_law_mirrored (sa_cons (se_var (pv 0)) sa_nil))) (sa_cons (se_pure (c_len T.z_len (se_callP h_boxes_in hr rfl T.g_boxes_in T.F_boxes_in.kp T.B_boxes_in (sa_cons (se_var (pv 0)) sa_nil)))) sa_nil)) rfl)
    (ss_cons (ss_if (st_pure (st_ne hu (se_callP h_boxes_in hr rfl T.g_boxes_in T.F_boxes_in.kp T.B_boxes_in (sa_cons (se_var (pv 2)) sa_nil)) (se_revT (se_callP h_boxes_in hr rfl T.g_boxes_in T.F_boxes_in.kp T.B_boxes_in (sa_cons (se_var (pv 0)) sa_nil))))) (ss_one (ss_ret se_bl)) ss_nil)
    (ss_cons (ss_for PassesOwn.never rfl (si_seq (se_pure (se_callP h_nodes_in hr rfl T.g_nodes_in T.F_nodes_in.kp T.B_nodes_in (sa_cons (se_var (pv 0)) sa_nil)))) (sg_name (i := 1) sc_law_turned_right.nd rfl (.inl rfl) (by decide)) (ss_cons (ss_par2 (i := 5) (j := 6) rfl sc_law_turned_right.nd rfl rfl (by decide) rfl rfl (by decide) (by decide) (sa_cons (se_pure (se_tup (sa_cons (se_sub (se_var (pv 3)) (se_ix (se_var (pv 1)) se_int)) (sa_cons (se_sub (se_var (pv 3)) (se_ix (se_var (pv 1)) se_int)) sa_nil)))) (sa_cons (se_pure (se_callP h_sides_of hr rfl T.g_sides_of T.F_sides_of.kp T.B_sides_of (sa_cons (se_var (pv 0)) (sa_cons (se_var (pv 1)) sa_nil)))) sa_nil)) rfl)
    (ss_cons (ss_if (st_pure (st_ne hu (se_callP h_boxes_of hr rfl T.g_boxes_of T.F_boxes_of.kp T.B_boxes_of (sa_cons (se_var (pv 2)) (sa_cons (se_var (pv 5)) sa_nil))) (se_callP h_boxes_of hr rfl T.g_boxes_of T.F_boxes_of.kp T.B_boxes_of (sa_cons (se_var (pv 0)) (sa_cons (se_var (pv 1)) sa_nil))))) (ss_one (ss_ret se_bl)) ss_nil)
    (ss_cons (ss_asg se_non (sg_name (i := 4) sc_law_turned_right.nd rfl (.inl rfl) (by decide)))
    (ss_cons (ss_if (st_pure (st_notN (se_var (pv 6)) se_non)) (ss_one (ss_asg (se_pure (se_tup (sa_cons (se_tup (sa_cons (se_sub (se_var (pv 3)) (se_ix (se_ix (se_var (pv 6)) se_int) se_int)) (sa_cons (se_sub (se_var (pv 3)) (se_ix (se_ix (se_var (pv 6)) se_int) se_int)) sa_nil))) (sa_cons (se_tup (sa_cons (se_sub (se_var (pv 3)) (se_ix (se_ix (se_var (pv 6)) se_int) se_int)) (sa_cons (se_sub (se_var (pv 3)) (se_ix (se_ix (se_var (pv 6)) se_int) se_int)) sa_nil))) sa_nil)))) (sg_name (i := 4) sc_law_turned_right.nd rfl (.inl rfl) (by decide)))) ss_nil)
    (ss_one (ss_if (st_pure (st_ne hu (se_callP h_sides_of hr rfl T.g_sides_of T.F_sides_of.kp T.B_sides_of (sa_cons (se_var (pv 2)) (sa_cons (se_var (pv 5)) sa_nil))) (se_var (pv 4)))) (ss_one (ss_ret se_bl)) ss_nil)))))))
    (ss_one (ss_ret (se_pure (se_eq hu (c_len T.z_len (se_callP h_nodes_in hr rfl T.g_nodes_in T.F_nodes_in.kp T.B_nodes_in (sa_cons (se_var (pv 2)) sa_nil))) (c_len T.z_len (se_callP h_nodes_in hr rfl T.g_nodes_in T.F_nodes_in.kp T.B_nodes_in (sa_cons (se_var (pv 0)) sa_nil))))))))))
theorem sc_law_right : FnScope ["_law_urn", "_law_turn", "_law_row", "_law_mid", "_law_late", "_law_names_so", "_law_one_so", "_law_other_so", "_law_tale", "_law_far_so", "_law_own"] ["_law_urn"] (defScope s_law_right) := ⟨rfl, rfl, rfl, by decide +kernel, rfl, by decide +kernel, by decide +kernel⟩
theorem ok_law_right (T : Tx K mg) : FnOk P w K mg base CX0 45 T.f_law_right T.d_law_right ["_law_urn"] (spP K mg m_law_right) := by
  have h_law_words : FnOk P w K mg base CX0 44 T.f_law_words T.d_law_words ["_law_urn", "_law_many_so"] (spP K mg m_law_words) := (ok_law_words T).mono (by omega)
  have h_law_take : FnOk P w K mg base CX0 44 T.f_law_take T.d_law_take ["_law_urn", "_law_low_so"] (spP K mg m_law_take) := (ok_law_take T).mono (by omega)
  have h_law_shape : FnOk P w K mg base CX0 44 T.f_law_shape T.d_law_shape ["_law_urn", "_law_row"] (spP K mg (m_law_shape 40)) := (ok_law_shape T 40).mono (by omega)
  have h_law_renamed : FnOk P w K mg base CX0 44 T.f_law_renamed T.d_law_renamed ["_law_tale", "_law_names_so"] (spP K mg (m_law_renamed 40)) := (ok_law_renamed T 40).mono (by omega)
  have h_law_joined_right : FnOk P w K mg base CX0 44 T.f_law_joined_right T.d_law_joined_right ["_law_one_so", "_law_other_so"] (spP K mg m_law_joined_right) := (ok_law_joined_right T).mono (by omega)
  have h_law_turned_right : FnOk P w K mg base CX0 44 T.f_law_turned_right T.d_law_turned_right ["_law_tale"] (spP K mg m_law_turned_right) := (ok_law_turned_right T).mono (by omega)
  have h_nodes_in : FnOk P w K mg base CX0 44 T.f_nodes_in T.d_nodes_in ["tree"] (spP K mg m_nodes_in) := (ok_nodes_in T).mono (by omega)
  have h_boxes_in : FnOk P w K mg base CX0 44 T.f_boxes_in T.d_boxes_in ["tree"] (spP K mg m_boxes_in) := (ok_boxes_in T).mono (by omega)
  have h_way_to : FnOk P w K mg base CX0 44 T.f_way_to T.d_way_to ["tree", "box"] (spP K mg m_way_to) := (ok_way_to T).mono (by omega)
  refine fn_ok (k := 44) (N := ["_law_urn", "_law_turn", "_law_row", "_law_mid", "_law_late", "_law_names_so", "_law_one_so", "_law_other_so", "_law_tale", "_law_far_so", "_law_own"]) (ps := ["_law_urn"]) (fix := [0]) (body := b_law_right) T.F_law_right sc_law_right (by decide) fun cdv A outer s H E hr => ?_
  have hu : (A.deeper (envOfC "_law_right" (defScope s_law_right) s.heap.objs.size T.f_law_right cdv)).units + 65 < cLine := by have := hr.un; omega
  have hu1 : (A.deeper (envOfC "_law_right" (defScope s_law_right) s.heap.objs.size T.f_law_right cdv)).units + 1 < cLine := by have := hr.un; omega
  exact (ss_cons (ss_for PassesOwn.never rfl (si_range1 rfl T.z_range se_int) (sg_name (i := 1) sc_law_right.nd rfl (.inl rfl) (by decide)) (ss_cons (ss_asg (se_call h_law_words hr rfl T.g_law_words T.F_law_words.kp T.B_law_words (sa_cons (se_var (pv 0)) (sa_cons (se_add se_int (se_call h_law_take hr rfl T.g_law_take T.F_law_take.kp T.B_law_take (sa_cons (se_var (pv 0)) (sa_cons se_int sa_nil)))) sa_nil))) (sg_name (i := 2) sc_law_right.nd rfl (.inl rfl) (by decide)))
    (ss_cons (ss_asg (se_add se_int (se_call h_law_take hr rfl T.g_law_take T.F_law_take.kp T.B_law_take (sa_cons (se_var (pv 0)) (sa_cons (se_sub (c_len T.z_len (se_var (pv 2))) se_int) sa_nil)))) (sg_name (i := 3) sc_law_right.nd rfl (.inl rfl) (by decide)))
    (ss_cons (ss_par2 (i := 6) (j := 7) rfl sc_law_right.nd rfl rfl (by decide) rfl rfl (by decide) (by decide) (sa_cons (se_call h_law_shape hr rfl T.g_law_shape T.F_law_shape.kp T.B_law_shape (sa_cons (se_var (pv 0)) (sa_cons (se_slHi (se_var (pv 2)) (se_var (pv 3))) sa_nil))) (sa_cons (se_call h_law_shape hr rfl T.g_law_shape T.F_law_shape.kp T.B_law_shape (sa_cons (se_var (pv 0)) (sa_cons (se_slLo (se_var (pv 2)) (se_var (pv 3))) sa_nil))) sa_nil)) rfl)
    (ss_cons (ss_if (st_pure (st_w (sw_or (st_not (st_tr (se_callP h_law_joined_right hr rfl T.g_law_joined_right T.F_law_joined_right.kp T.B_law_joined_right (sa_cons (se_var (pv 6)) (sa_cons (se_var (pv 7)) sa_nil))))) (sw_or1 (st_not (st_tr (se_callP h_law_turned_right hr rfl T.g_law_turned_right T.F_law_turned_right.kp T.B_law_turned_right (sa_cons (se_tup (sa_cons (se_var (pv 6)) (sa_cons (se_var (pv 7)) sa_nil))) sa_nil)))))))) (ss_one (ss_ret se_bl)) ss_nil)
    (ss_cons (ss_asg (se_call h_law_words hr rfl T.g_law_words T.F_law_words.kp T.B_law_words (sa_cons (se_var (pv 0)) (sa_cons (c_len T.z_len (se_var (pv 2))) sa_nil))) (sg_name (i := 4) sc_law_right.nd rfl (.inl rfl) (by decide)))
    (ss_cons (ss_asg (se_dictZip rfl T.z_dict T.z_zip (se_var (pv 2)) (se_var (pv 4))) (sg_name (i := 5) sc_law_right.nd rfl (.inr rfl) (by decide)))
    (ss_cons (ss_parT (n := 2) rfl (sa_cons (se_tup (sa_cons (se_var (pv 6)) (sa_cons (se_var (pv 7)) sa_nil))) (sa_cons (se_pure (se_callP h_law_renamed hr rfl T.g_law_renamed T.F_law_renamed.kp T.B_law_renamed (sa_cons (se_tup (sa_cons (se_var (pv 6)) (sa_cons (se_var (pv 7)) sa_nil))) (sa_cons (se_var (pv 5)) sa_nil)))) sa_nil)) (sgs_cons (sg_name (i := 8) sc_law_right.nd rfl (.inr rfl) (by decide)) (sgs_cons (sg_name (i := 9) sc_law_right.nd rfl (.inr rfl) (by decide)) sgs_nil)) (by decide) rfl)
    (ss_cons (ss_if (st_pure (st_w (sw_or (st_ne hu (se_callP h_nodes_in hr rfl T.g_nodes_in T.F_nodes_in.kp T.B_nodes_in (sa_cons (se_var (pv 9)) sa_nil)) (se_callP h_nodes_in hr rfl T.g_nodes_in T.F_nodes_in.kp T.B_nodes_in (sa_cons (se_var (pv 8)) sa_nil))) (sw_or1 (st_ne hu (se_callP h_boxes_in hr rfl T.g_boxes_in T.F_boxes_in.kp T.B_boxes_in (sa_cons (se_var (pv 9)) sa_nil)) (c_tuple T.z_tuple (se_var (pv 4)))))))) (ss_one (ss_ret se_bl)) ss_nil)
    (ss_one (ss_if (st_pure (st_ne hu (se_compn (own := [("_law_own", 10)]) (n := 11) rfl rfl sc_law_right.nd (si_seq (se_var (pv 2))) (blkOk_by (by kernel_rfl)) (fun _ _ _ _ _ => (sg_name (i := 10) sc_law_right.nd rfl (.inl rfl) (by decide))) (fun _ _ _ _ _ => sts_nil) (fun _ _ _ _ _ => (se_callP h_way_to hr rfl T.g_way_to T.F_way_to.kp T.B_way_to (sa_cons (se_var (pv 9)) (sa_cons (se_qget hu1 (se_var (pv 5)) (se_var (pv 10))) sa_nil))))) (se_compn (own := [("_law_own", 10)]) (n := 11) rfl rfl sc_law_right.nd (si_seq (se_var (pv 2))) (blkOk_by (by kernel_rfl)) (fun _ _ _ _ _ => (sg_name (i := 10) sc_law_right.nd rfl (.inl rfl) (by decide))) (fun _ _ _ _ _ => sts_nil) (fun _ _ _ _ _ => (se_callP h_way_to hr rfl T.g_way_to T.F_way_to.kp T.B_way_to (sa_cons (se_var (pv 8)) (sa_cons (se_var (pv 10)) sa_nil))))))) (ss_one (ss_ret se_bl)) ss_nil)))))))))))
    (ss_one (ss_ret se_bl)))
theorem sc_law : FnScope ["_law_script", "_law_cells_here", "_law_k", "_law_urn", "_law_turn"] ["_law_script"] (defScope s_law) := ⟨rfl, rfl, rfl, by decide +kernel, rfl, by decide +kernel, by decide +kernel⟩
theorem ok_law (T : Tx K mg) : FnOk P w K mg base CX0 46 T.f_law T.d_law ["_law_script"] (spP K mg m_law) := by
  have h_law_cells : FnOk P w K mg base CX0 45 T.f_law_cells T.d_law_cells ["_law_script", "_law_top"] (spP K mg m_law_cells) := (ok_law_cells T).mono (by omega)
  have h_law_box : FnOk P w K mg base CX0 45 T.f_law_box T.d_law_box ["_law_script", "_law_k"] (spP K mg m_law_box) := (ok_law_box T).mono (by omega)
  have h_law_right : FnOk P w K mg base CX0 45 T.f_law_right T.d_law_right ["_law_urn"] (spP K mg m_law_right) := (ok_law_right T).mono (by omega)
  refine fn_ok (k := 45) (N := ["_law_script", "_law_cells_here", "_law_k", "_law_urn", "_law_turn"]) (ps := ["_law_script"]) (fix := [0]) (body := b_law) T.F_law sc_law (by decide) fun cdv A outer s H E hr => ?_
  have hu : (A.deeper (envOfC "law" (defScope s_law) s.heap.objs.size T.f_law cdv)).units + 65 < cLine := by have := hr.un; omega
  have hu1 : (A.deeper (envOfC "law" (defScope s_law) s.heap.objs.size T.f_law cdv)).units + 1 < cLine := by have := hr.un; omega
  exact (ss_cons (ss_asg (se_callP h_law_cells hr rfl T.g_law_cells T.F_law_cells.kp T.B_law_cells (sa_cons (se_var (pv 0)) (sa_cons se_int sa_nil))) (sg_name (i := 1) sc_law.nd rfl (.inl rfl) (by decide)))
    (ss_cons (ss_for PassesOwn.never rfl (si_range1 rfl T.z_range (c_len T.z_len (se_var (pv 1)))) (sg_name (i := 2) sc_law.nd rfl (.inl rfl) (by decide)) (ss_cons (ss_asg (se_callP h_law_box hr rfl T.g_law_box T.F_law_box.kp T.B_law_box (sa_cons (se_var (pv 1)) (sa_cons (se_var (pv 2)) sa_nil))) (sg_name (i := 3) sc_law.nd rfl (.inr rfl) (by decide)))
    (ss_one (ss_if (st_not (st_tr (c_all rfl T.z_all (se_compn (own := [("_law_turn", 4)]) (n := 5) rfl rfl sc_law.nd (si_range1 rfl T.z_range se_int) (blkOk_by (by kernel_rfl)) (fun _ _ _ _ _ => (sg_name (i := 4) sc_law.nd rfl (.inl rfl) (by decide))) (fun _ _ _ _ _ => sts_nil) (fun _ _ _ _ _ => (se_call h_law_right hr rfl T.g_law_right T.F_law_right.kp T.B_law_right (sa_cons (se_var (pv 3)) sa_nil))))))) (ss_one (ss_ret se_bl)) ss_nil))))
    (ss_one (ss_ret se_bl))))
end
theorem clsF_mk {K : PySem.W.Frag} {mg : Str → Option Value} {c f : Str} {k : Nat} {C p : Addr} (h : mg c = some (.ref C)) (s : SlX.SCls K C) (t : SlX.Slot1 K C f p k) : ClsF K mg c f k := ⟨fun C2 e => by cases h.symm.trans e; exact ⟨s, p, t⟩⟩
theorem all_mk {l : PySem.W.OpenLaw} {w : World} {K : PySem.W.Frag} {h : Heap} {mg : Str → Option Value} {fa C_Tree f_law_cells f_law_box f_law_take f_law_words f_law_shape f_law_renamed f_Tree_boxes f_Tree_grown f_tupled f_Tree_init f_boxes_in f_Tree_nodes f_nodes_in f_Tree_names f_boxes_of f_Tree_sides f_sides_of f_Tree_way f_way_to f_Tree_below f_nodes_below f_law_shifted f_law_joined_right f_law_mirrored f_law_turned_right f_law_right f_law p_Tree_own_boxes p_Tree_own_head p_Tree_own_sides : Addr} (X : K.In h) (G : h.Ns mainGlobals mg) (hfa : mg "law" = some (.ref fa))
    {od_law_cells an_law_cells od_law_box an_law_box od_law_take an_law_take od_law_words an_law_words od_law_shape an_law_shape od_law_renamed an_law_renamed od_Tree_boxes an_Tree_boxes od_Tree_grown an_Tree_grown od_tupled an_tupled od_Tree_init an_Tree_init od_boxes_in an_boxes_in od_Tree_nodes an_Tree_nodes od_nodes_in an_nodes_in od_Tree_names an_Tree_names od_boxes_of an_boxes_of od_Tree_sides an_Tree_sides od_sides_of an_sides_of od_Tree_way an_Tree_way od_way_to an_way_to od_Tree_below an_Tree_below od_nodes_below an_nodes_below od_law_shifted an_law_shifted od_law_joined_right an_law_joined_right od_law_mirrored an_law_mirrored od_law_turned_right an_law_turned_right od_law_right an_law_right od_law an_law : Option Addr} {sl_law_cells sl_law_box sl_law_take sl_law_words sl_law_shape sl_law_renamed sl_Tree_boxes sl_Tree_grown sl_tupled sl_Tree_init sl_boxes_in sl_Tree_nodes sl_nodes_in sl_Tree_names sl_boxes_of sl_Tree_sides sl_sides_of sl_Tree_way sl_way_to sl_Tree_below sl_nodes_below sl_law_shifted sl_law_joined_right sl_law_mirrored sl_law_turned_right sl_law_right sl_law : Array (Option Value)} {oc_law_cells kV_law_cells dc_law_cells pm_law_cells cd_law_cells ct_law_cells oc_law_box kV_law_box dc_law_box pm_law_box cd_law_box ct_law_box oc_law_take kV_law_take dc_law_take pm_law_take cd_law_take ct_law_take oc_law_words kV_law_words dc_law_words pm_law_words cd_law_words ct_law_words oc_law_shape kV_law_shape dc_law_shape pm_law_shape cd_law_shape ct_law_shape oc_law_renamed kV_law_renamed dc_law_renamed pm_law_renamed cd_law_renamed ct_law_renamed oc_Tree_boxes kV_Tree_boxes dc_Tree_boxes pm_Tree_boxes cd_Tree_boxes ct_Tree_boxes oc_Tree_grown kV_Tree_grown dc_Tree_grown pm_Tree_grown cd_Tree_grown ct_Tree_grown oc_tupled kV_tupled dc_tupled pm_tupled cd_tupled ct_tupled oc_Tree_init kV_Tree_init dc_Tree_init pm_Tree_init cd_Tree_init ct_Tree_init oc_boxes_in kV_boxes_in dc_boxes_in pm_boxes_in cd_boxes_in ct_boxes_in oc_Tree_nodes kV_Tree_nodes dc_Tree_nodes pm_Tree_nodes cd_Tree_nodes ct_Tree_nodes oc_nodes_in kV_nodes_in dc_nodes_in pm_nodes_in cd_nodes_in ct_nodes_in oc_Tree_names kV_Tree_names dc_Tree_names pm_Tree_names cd_Tree_names ct_Tree_names oc_boxes_of kV_boxes_of dc_boxes_of pm_boxes_of cd_boxes_of ct_boxes_of oc_Tree_sides kV_Tree_sides dc_Tree_sides pm_Tree_sides cd_Tree_sides ct_Tree_sides oc_sides_of kV_sides_of dc_sides_of pm_sides_of cd_sides_of ct_sides_of oc_Tree_way kV_Tree_way dc_Tree_way pm_Tree_way cd_Tree_way ct_Tree_way oc_way_to kV_way_to dc_way_to pm_way_to cd_way_to ct_way_to oc_Tree_below kV_Tree_below dc_Tree_below pm_Tree_below cd_Tree_below ct_Tree_below oc_nodes_below kV_nodes_below dc_nodes_below pm_nodes_below cd_nodes_below ct_nodes_below oc_law_shifted kV_law_shifted dc_law_shifted pm_law_shifted cd_law_shifted ct_law_shifted oc_law_joined_right kV_law_joined_right dc_law_joined_right pm_law_joined_right cd_law_joined_right ct_law_joined_right oc_law_mirrored kV_law_mirrored dc_law_mirrored pm_law_mirrored cd_law_mirrored ct_law_mirrored oc_law_turned_right kV_law_turned_right dc_law_turned_right pm_law_turned_right cd_law_turned_right ct_law_turned_right oc_law_right kV_law_right dc_law_right pm_law_right cd_law_right ct_law_right oc_law kV_law dc_law pm_law cd_law ct_law : Value}
    (aC_Tree : PySem.W.nsIn K mainGlobals "Tree" = some (some (.ref C_Tree)))
    (pg_Tree : PySem.W.plainGet K C_Tree Str.empty = true)
    (ic_Tree : PySem.W.isClsIn K C_Tree = true)
    (po_Tree : PySem.W.plainOver K C_Tree = true)
    (sa_Tree : PySem.W.findIn K (.ref C_Tree) "__setattr__" = some (some (.builtin "object.__setattr__")))
    (mk_Tree : PySem.W.makesIn K C_Tree = true)
    (kc_Tree : PySem.W.keepIn K (.ref C_Tree) = true)
    (a_law_cells : PySem.W.nsIn K mainGlobals "_law_cells" = some (some (.ref f_law_cells)))
    (l_law_cells : K.lookup f_law_cells = some ⟨oc_law_cells, od_law_cells, .func (PySem.W.fnOf "_law_cells" "_law_cells" (defArgs s_law_cells) (defBody s_law_cells) (defScope s_law_cells) .none kV_law_cells dc_law_cells pm_law_cells an_law_cells cd_law_cells ct_law_cells), sl_law_cells⟩)
    (c_law_cells : PySem.W.codeIn K cd_law_cells "_law_cells" = true)
    (k_law_cells : PySem.W.keepIn K (.ref f_law_cells) = true)
    (a_law_box : PySem.W.nsIn K mainGlobals "_law_box" = some (some (.ref f_law_box)))
    (l_law_box : K.lookup f_law_box = some ⟨oc_law_box, od_law_box, .func (PySem.W.fnOf "_law_box" "_law_box" (defArgs s_law_box) (defBody s_law_box) (defScope s_law_box) .none kV_law_box dc_law_box pm_law_box an_law_box cd_law_box ct_law_box), sl_law_box⟩)
    (c_law_box : PySem.W.codeIn K cd_law_box "_law_box" = true)
    (k_law_box : PySem.W.keepIn K (.ref f_law_box) = true)
    (a_law_take : PySem.W.nsIn K mainGlobals "_law_take" = some (some (.ref f_law_take)))
    (l_law_take : K.lookup f_law_take = some ⟨oc_law_take, od_law_take, .func (PySem.W.fnOf "_law_take" "_law_take" (defArgs s_law_take) (defBody s_law_take) (defScope s_law_take) .none kV_law_take dc_law_take pm_law_take an_law_take cd_law_take ct_law_take), sl_law_take⟩)
    (c_law_take : PySem.W.codeIn K cd_law_take "_law_take" = true)
    (k_law_take : PySem.W.keepIn K (.ref f_law_take) = true)
    (a_law_words : PySem.W.nsIn K mainGlobals "_law_words" = some (some (.ref f_law_words)))
    (l_law_words : K.lookup f_law_words = some ⟨oc_law_words, od_law_words, .func (PySem.W.fnOf "_law_words" "_law_words" (defArgs s_law_words) (defBody s_law_words) (defScope s_law_words) .none kV_law_words dc_law_words pm_law_words an_law_words cd_law_words ct_law_words), sl_law_words⟩)
    (c_law_words : PySem.W.codeIn K cd_law_words "_law_words" = true)
    (k_law_words : PySem.W.keepIn K (.ref f_law_words) = true)
    (a_law_shape : PySem.W.nsIn K mainGlobals "_law_shape" = some (some (.ref f_law_shape)))
    (l_law_shape : K.lookup f_law_shape = some ⟨oc_law_shape, od_law_shape, .func (PySem.W.fnOf "_law_shape" "_law_shape" (defArgs s_law_shape) (defBody s_law_shape) (defScope s_law_shape) .none kV_law_shape dc_law_shape pm_law_shape an_law_shape cd_law_shape ct_law_shape), sl_law_shape⟩)
    (c_law_shape : PySem.W.codeIn K cd_law_shape "_law_shape" = true)
    (k_law_shape : PySem.W.keepIn K (.ref f_law_shape) = true)
    (a_law_renamed : PySem.W.nsIn K mainGlobals "_law_renamed" = some (some (.ref f_law_renamed)))
    (l_law_renamed : K.lookup f_law_renamed = some ⟨oc_law_renamed, od_law_renamed, .func (PySem.W.fnOf "_law_renamed" "_law_renamed" (defArgs s_law_renamed) (defBody s_law_renamed) (defScope s_law_renamed) .none kV_law_renamed dc_law_renamed pm_law_renamed an_law_renamed cd_law_renamed ct_law_renamed), sl_law_renamed⟩)
    (c_law_renamed : PySem.W.codeIn K cd_law_renamed "_law_renamed" = true)
    (k_law_renamed : PySem.W.keepIn K (.ref f_law_renamed) = true)
    (a_Tree_boxes : PySem.W.findIn K (.ref C_Tree) "boxes" = some (some (.ref f_Tree_boxes)))
    (i_Tree_boxes : PySem.W.isFn K (.ref f_Tree_boxes) = true)
    (l_Tree_boxes : K.lookup f_Tree_boxes = some ⟨oc_Tree_boxes, od_Tree_boxes, .func (PySem.W.fnOf "boxes" "Tree.boxes" (defArgs s_Tree_boxes) (defBody s_Tree_boxes) (defScope s_Tree_boxes) .none kV_Tree_boxes dc_Tree_boxes pm_Tree_boxes an_Tree_boxes cd_Tree_boxes ct_Tree_boxes), sl_Tree_boxes⟩)
    (c_Tree_boxes : PySem.W.codeIn K cd_Tree_boxes "Tree.boxes" = true)
    (k_Tree_boxes : PySem.W.keepIn K (.ref f_Tree_boxes) = true)
    (a_Tree_grown : PySem.W.findIn K (.ref C_Tree) "grown" = some (some (.ref f_Tree_grown)))
    (i_Tree_grown : PySem.W.isFn K (.ref f_Tree_grown) = true)
    (l_Tree_grown : K.lookup f_Tree_grown = some ⟨oc_Tree_grown, od_Tree_grown, .func (PySem.W.fnOf "grown" "Tree.grown" (defArgs s_Tree_grown) (defBody s_Tree_grown) (defScope s_Tree_grown) .none kV_Tree_grown dc_Tree_grown pm_Tree_grown an_Tree_grown cd_Tree_grown ct_Tree_grown), sl_Tree_grown⟩)
    (c_Tree_grown : PySem.W.codeIn K cd_Tree_grown "Tree.grown" = true)
    (k_Tree_grown : PySem.W.keepIn K (.ref f_Tree_grown) = true)
    (a_tupled : PySem.W.nsIn K mainGlobals "tupled" = some (some (.ref f_tupled)))
    (l_tupled : K.lookup f_tupled = some ⟨oc_tupled, od_tupled, .func (PySem.W.fnOf "tupled" "tupled" (defArgs s_tupled) (defBody s_tupled) (defScope s_tupled) .none kV_tupled dc_tupled pm_tupled an_tupled cd_tupled ct_tupled), sl_tupled⟩)
    (c_tupled : PySem.W.codeIn K cd_tupled "tupled" = true)
    (k_tupled : PySem.W.keepIn K (.ref f_tupled) = true)
    (a_Tree_init : PySem.W.findIn K (.ref C_Tree) "__init__" = some (some (.ref f_Tree_init)))
    (i_Tree_init : PySem.W.isFn K (.ref f_Tree_init) = true)
    (l_Tree_init : K.lookup f_Tree_init = some ⟨oc_Tree_init, od_Tree_init, .func (PySem.W.fnOf "__init__" "Tree.__init__" (defArgs s_Tree_init) (defBody s_Tree_init) (defScope s_Tree_init) .none kV_Tree_init dc_Tree_init pm_Tree_init an_Tree_init cd_Tree_init ct_Tree_init), sl_Tree_init⟩)
    (c_Tree_init : PySem.W.codeIn K cd_Tree_init "Tree.__init__" = true)
    (k_Tree_init : PySem.W.keepIn K (.ref f_Tree_init) = true)
    (a_boxes_in : PySem.W.nsIn K mainGlobals "boxes_in" = some (some (.ref f_boxes_in)))
    (l_boxes_in : K.lookup f_boxes_in = some ⟨oc_boxes_in, od_boxes_in, .func (PySem.W.fnOf "boxes_in" "boxes_in" (defArgs s_boxes_in) (defBody s_boxes_in) (defScope s_boxes_in) .none kV_boxes_in dc_boxes_in pm_boxes_in an_boxes_in cd_boxes_in ct_boxes_in), sl_boxes_in⟩)
    (c_boxes_in : PySem.W.codeIn K cd_boxes_in "boxes_in" = true)
    (k_boxes_in : PySem.W.keepIn K (.ref f_boxes_in) = true)
    (a_Tree_nodes : PySem.W.findIn K (.ref C_Tree) "nodes" = some (some (.ref f_Tree_nodes)))
    (i_Tree_nodes : PySem.W.isFn K (.ref f_Tree_nodes) = true)
    (l_Tree_nodes : K.lookup f_Tree_nodes = some ⟨oc_Tree_nodes, od_Tree_nodes, .func (PySem.W.fnOf "nodes" "Tree.nodes" (defArgs s_Tree_nodes) (defBody s_Tree_nodes) (defScope s_Tree_nodes) .none kV_Tree_nodes dc_Tree_nodes pm_Tree_nodes an_Tree_nodes cd_Tree_nodes ct_Tree_nodes), sl_Tree_nodes⟩)
    (c_Tree_nodes : PySem.W.codeIn K cd_Tree_nodes "Tree.nodes" = true)
    (k_Tree_nodes : PySem.W.keepIn K (.ref f_Tree_nodes) = true)
    (a_nodes_in : PySem.W.nsIn K mainGlobals "nodes_in" = some (some (.ref f_nodes_in)))
    (l_nodes_in : K.lookup f_nodes_in = some ⟨oc_nodes_in, od_nodes_in, .func (PySem.W.fnOf "nodes_in" "nodes_in" (defArgs s_nodes_in) (defBody s_nodes_in) (defScope s_nodes_in) .none kV_nodes_in dc_nodes_in pm_nodes_in an_nodes_in cd_nodes_in ct_nodes_in), sl_nodes_in⟩)
    (c_nodes_in : PySem.W.codeIn K cd_nodes_in "nodes_in" = true)
    (k_nodes_in : PySem.W.keepIn K (.ref f_nodes_in) = true)
    (a_Tree_names : PySem.W.findIn K (.ref C_Tree) "names" = some (some (.ref f_Tree_names)))
    (i_Tree_names : PySem.W.isFn K (.ref f_Tree_names) = true)
    (l_Tree_names : K.lookup f_Tree_names = some ⟨oc_Tree_names, od_Tree_names, .func (PySem.W.fnOf "names" "Tree.names" (defArgs s_Tree_names) (defBody s_Tree_names) (defScope s_Tree_names) .none kV_Tree_names dc_Tree_names pm_Tree_names an_Tree_names cd_Tree_names ct_Tree_names), sl_Tree_names⟩)
    (c_Tree_names : PySem.W.codeIn K cd_Tree_names "Tree.names" = true)
    (k_Tree_names : PySem.W.keepIn K (.ref f_Tree_names) = true)
    (a_boxes_of : PySem.W.nsIn K mainGlobals "boxes_of" = some (some (.ref f_boxes_of)))
    (l_boxes_of : K.lookup f_boxes_of = some ⟨oc_boxes_of, od_boxes_of, .func (PySem.W.fnOf "boxes_of" "boxes_of" (defArgs s_boxes_of) (defBody s_boxes_of) (defScope s_boxes_of) .none kV_boxes_of dc_boxes_of pm_boxes_of an_boxes_of cd_boxes_of ct_boxes_of), sl_boxes_of⟩)
    (c_boxes_of : PySem.W.codeIn K cd_boxes_of "boxes_of" = true)
    (k_boxes_of : PySem.W.keepIn K (.ref f_boxes_of) = true)
    (a_Tree_sides : PySem.W.findIn K (.ref C_Tree) "sides" = some (some (.ref f_Tree_sides)))
    (i_Tree_sides : PySem.W.isFn K (.ref f_Tree_sides) = true)
    (l_Tree_sides : K.lookup f_Tree_sides = some ⟨oc_Tree_sides, od_Tree_sides, .func (PySem.W.fnOf "sides" "Tree.sides" (defArgs s_Tree_sides) (defBody s_Tree_sides) (defScope s_Tree_sides) .none kV_Tree_sides dc_Tree_sides pm_Tree_sides an_Tree_sides cd_Tree_sides ct_Tree_sides), sl_Tree_sides⟩)
    (c_Tree_sides : PySem.W.codeIn K cd_Tree_sides "Tree.sides" = true)
    (k_Tree_sides : PySem.W.keepIn K (.ref f_Tree_sides) = true)
    (a_sides_of : PySem.W.nsIn K mainGlobals "sides_of" = some (some (.ref f_sides_of)))
    (l_sides_of : K.lookup f_sides_of = some ⟨oc_sides_of, od_sides_of, .func (PySem.W.fnOf "sides_of" "sides_of" (defArgs s_sides_of) (defBody s_sides_of) (defScope s_sides_of) .none kV_sides_of dc_sides_of pm_sides_of an_sides_of cd_sides_of ct_sides_of), sl_sides_of⟩)
    (c_sides_of : PySem.W.codeIn K cd_sides_of "sides_of" = true)
    (k_sides_of : PySem.W.keepIn K (.ref f_sides_of) = true)
    (a_Tree_way : PySem.W.findIn K (.ref C_Tree) "way" = some (some (.ref f_Tree_way)))
    (i_Tree_way : PySem.W.isFn K (.ref f_Tree_way) = true)
    (l_Tree_way : K.lookup f_Tree_way = some ⟨oc_Tree_way, od_Tree_way, .func (PySem.W.fnOf "way" "Tree.way" (defArgs s_Tree_way) (defBody s_Tree_way) (defScope s_Tree_way) .none kV_Tree_way dc_Tree_way pm_Tree_way an_Tree_way cd_Tree_way ct_Tree_way), sl_Tree_way⟩)
    (c_Tree_way : PySem.W.codeIn K cd_Tree_way "Tree.way" = true)
    (k_Tree_way : PySem.W.keepIn K (.ref f_Tree_way) = true)
    (a_way_to : PySem.W.nsIn K mainGlobals "way_to" = some (some (.ref f_way_to)))
    (l_way_to : K.lookup f_way_to = some ⟨oc_way_to, od_way_to, .func (PySem.W.fnOf "way_to" "way_to" (defArgs s_way_to) (defBody s_way_to) (defScope s_way_to) .none kV_way_to dc_way_to pm_way_to an_way_to cd_way_to ct_way_to), sl_way_to⟩)
    (c_way_to : PySem.W.codeIn K cd_way_to "way_to" = true)
    (k_way_to : PySem.W.keepIn K (.ref f_way_to) = true)
    (a_Tree_below : PySem.W.findIn K (.ref C_Tree) "below" = some (some (.ref f_Tree_below)))
    (i_Tree_below : PySem.W.isFn K (.ref f_Tree_below) = true)
    (l_Tree_below : K.lookup f_Tree_below = some ⟨oc_Tree_below, od_Tree_below, .func (PySem.W.fnOf "below" "Tree.below" (defArgs s_Tree_below) (defBody s_Tree_below) (defScope s_Tree_below) .none kV_Tree_below dc_Tree_below pm_Tree_below an_Tree_below cd_Tree_below ct_Tree_below), sl_Tree_below⟩)
    (c_Tree_below : PySem.W.codeIn K cd_Tree_below "Tree.below" = true)
    (k_Tree_below : PySem.W.keepIn K (.ref f_Tree_below) = true)
    (a_nodes_below : PySem.W.nsIn K mainGlobals "nodes_below" = some (some (.ref f_nodes_below)))
    (l_nodes_below : K.lookup f_nodes_below = some ⟨oc_nodes_below, od_nodes_below, .func (PySem.W.fnOf "nodes_below" "nodes_below" (defArgs s_nodes_below) (defBody s_nodes_below) (defScope s_nodes_below) .none kV_nodes_below dc_nodes_below pm_nodes_below an_nodes_below cd_nodes_below ct_nodes_below), sl_nodes_below⟩)
    (c_nodes_below : PySem.W.codeIn K cd_nodes_below "nodes_below" = true)
    (k_nodes_below : PySem.W.keepIn K (.ref f_nodes_below) = true)
    (a_law_shifted : PySem.W.nsIn K mainGlobals "_law_shifted" = some (some (.ref f_law_shifted)))
    (l_law_shifted : K.lookup f_law_shifted = some ⟨oc_law_shifted, od_law_shifted, .func (PySem.W.fnOf "_law_shifted" "_law_shifted" (defArgs s_law_shifted) (defBody s_law_shifted) (defScope s_law_shifted) .none kV_law_shifted dc_law_shifted pm_law_shifted an_law_shifted cd_law_shifted ct_law_shifted), sl_law_shifted⟩)
    (c_law_shifted : PySem.W.codeIn K cd_law_shifted "_law_shifted" = true)
    (k_law_shifted : PySem.W.keepIn K (.ref f_law_shifted) = true)
    (a_law_joined_right : PySem.W.nsIn K mainGlobals "_law_joined_right" = some (some (.ref f_law_joined_right)))
    (l_law_joined_right : K.lookup f_law_joined_right = some ⟨oc_law_joined_right, od_law_joined_right, .func (PySem.W.fnOf "_law_joined_right" "_law_joined_right" (defArgs s_law_joined_right) (defBody s_law_joined_right) (defScope s_law_joined_right) .none kV_law_joined_right dc_law_joined_right pm_law_joined_right an_law_joined_right cd_law_joined_right ct_law_joined_right), sl_law_joined_right⟩)
    (c_law_joined_right : PySem.W.codeIn K cd_law_joined_right "_law_joined_right" = true)
    (k_law_joined_right : PySem.W.keepIn K (.ref f_law_joined_right) = true)
    (a_law_mirrored : PySem.W.nsIn K mainGlobals "_law_mirrored" = some (some (.ref f_law_mirrored)))
    (l_law_mirrored : K.lookup f_law_mirrored = some ⟨oc_law_mirrored, od_law_mirrored, .func (PySem.W.fnOf "_law_mirrored" "_law_mirrored" (defArgs s_law_mirrored) (defBody s_law_mirrored) (defScope s_law_mirrored) .none kV_law_mirrored dc_law_mirrored pm_law_mirrored an_law_mirrored cd_law_mirrored ct_law_mirrored), sl_law_mirrored⟩)
    (c_law_mirrored : PySem.W.codeIn K cd_law_mirrored "_law_mirrored" = true)
    (k_law_mirrored : PySem.W.keepIn K (.ref f_law_mirrored) = true)
    (a_law_turned_right : PySem.W.nsIn K mainGlobals "_law_turned_right" = some (some (.ref f_law_turned_right)))
    (l_law_turned_right : K.lookup f_law_turned_right = some ⟨oc_law_turned_right, od_law_turned_right, .func (PySem.W.fnOf "_law_turned_right" "_law_turned_right" (defArgs s_law_turned_right) (defBody s_law_turned_right) (defScope s_law_turned_right) .none kV_law_turned_right dc_law_turned_right pm_law_turned_right an_law_turned_right cd_law_turned_right ct_law_turned_right), sl_law_turned_right⟩)
    (c_law_turned_right : PySem.W.codeIn K cd_law_turned_right "_law_turned_right" = true)
    (k_law_turned_right : PySem.W.keepIn K (.ref f_law_turned_right) = true)
    (a_law_right : PySem.W.nsIn K mainGlobals "_law_right" = some (some (.ref f_law_right)))
    (l_law_right : K.lookup f_law_right = some ⟨oc_law_right, od_law_right, .func (PySem.W.fnOf "_law_right" "_law_right" (defArgs s_law_right) (defBody s_law_right) (defScope s_law_right) .none kV_law_right dc_law_right pm_law_right an_law_right cd_law_right ct_law_right), sl_law_right⟩)
    (c_law_right : PySem.W.codeIn K cd_law_right "_law_right" = true)
    (k_law_right : PySem.W.keepIn K (.ref f_law_right) = true)
    (a_law : PySem.W.nsIn K mainGlobals "law" = some (some (.ref f_law)))
    (l_law : K.lookup f_law = some ⟨oc_law, od_law, .func (PySem.W.fnOf "law" "law" (defArgs s_law) (defBody s_law) (defScope s_law) .none kV_law dc_law pm_law an_law cd_law ct_law), sl_law⟩)
    (c_law : PySem.W.codeIn K cd_law "law" = true)
    (k_law : PySem.W.keepIn K (.ref f_law) = true)
    (z_abs : PySem.W.nsIn K mainGlobals "abs" = some none)
    (z_all : PySem.W.nsIn K mainGlobals "all" = some none)
    (z_dict : PySem.W.nsIn K mainGlobals "dict" = some none)
    (z_enumerate : PySem.W.nsIn K mainGlobals "enumerate" = some none)
    (z_int : PySem.W.nsIn K mainGlobals "int" = some none)
    (z_isinstance : PySem.W.nsIn K mainGlobals "isinstance" = some none)
    (z_len : PySem.W.nsIn K mainGlobals "len" = some none)
    (z_list : PySem.W.nsIn K mainGlobals "list" = some none)
    (z_range : PySem.W.nsIn K mainGlobals "range" = some none)
    (z_sorted : PySem.W.nsIn K mainGlobals "sorted" = some none)
    (z_str : PySem.W.nsIn K mainGlobals "str" = some none)
    (z_tuple : PySem.W.nsIn K mainGlobals "tuple" = some none)
    (z_zip : PySem.W.nsIn K mainGlobals "zip" = some none)
    (sa1_Tree_own_boxes : PySem.W.findIn K (.ref C_Tree) "own_boxes" = some (some (.ref p_Tree_own_boxes)))
    (sa2_Tree_own_boxes : PySem.W.specialIn K (.ref p_Tree_own_boxes) "__get__" = some (some (.builtin "member_descriptor.__get__")))
    (sa3_Tree_own_boxes : PySem.W.takesIn K (.ref p_Tree_own_boxes) = some true)
    (sa4_Tree_own_boxes : PySem.W.typeIn K (.ref p_Tree_own_boxes) = some (.type "member_descriptor"))
    (sa5_Tree_own_boxes : PySem.W.slotIn K p_Tree_own_boxes C_Tree = some 0)
    (sa1_Tree_own_head : PySem.W.findIn K (.ref C_Tree) "own_head" = some (some (.ref p_Tree_own_head)))
    (sa2_Tree_own_head : PySem.W.specialIn K (.ref p_Tree_own_head) "__get__" = some (some (.builtin "member_descriptor.__get__")))
    (sa3_Tree_own_head : PySem.W.takesIn K (.ref p_Tree_own_head) = some true)
    (sa4_Tree_own_head : PySem.W.typeIn K (.ref p_Tree_own_head) = some (.type "member_descriptor"))
    (sa5_Tree_own_head : PySem.W.slotIn K p_Tree_own_head C_Tree = some 1)
    (sa1_Tree_own_sides : PySem.W.findIn K (.ref C_Tree) "own_sides" = some (some (.ref p_Tree_own_sides)))
    (sa2_Tree_own_sides : PySem.W.specialIn K (.ref p_Tree_own_sides) "__get__" = some (some (.builtin "member_descriptor.__get__")))
    (sa3_Tree_own_sides : PySem.W.takesIn K (.ref p_Tree_own_sides) = some true)
    (sa4_Tree_own_sides : PySem.W.typeIn K (.ref p_Tree_own_sides) = some (.type "member_descriptor"))
    (sa5_Tree_own_sides : PySem.W.slotIn K p_Tree_own_sides C_Tree = some 2)
    (hlaw : ∀ ns : List Int, ns.length ≤ 63 → ∃ ws, m_law [.sh (.frl (ns.map D.int))] = some (.sh (.bl true), ws)) :
    ∃ fd : FuncData, (∀ (s : Shared) (v : Value), BindsTo s fd ⟨[v], []⟩ [("_law_script", v)]) ∧ ∀ base : Heap, K.In base → base.Ns mainGlobals mg → FnOk l.prog w K mg base CX0 46 fa fd ["_law_script"] (spLaw K) := by
  have e := hfa.symm.trans (PySem.W.mg_of X G a_law)
  cases e
  have c_Tree := PySem.W.mg_of X G aC_Tree
  have F_law_cells := fun_mk (st := s_law_cells) l_law_cells c_law_cells k_law_cells
  have B_law_cells := F_law_cells.binds (ps := ["_law_script", "_law_top"]) fun _ _ _ _ _ _ us hl => match us, hl with | [_, _], _ => rfl
  have F_law_box := fun_mk (st := s_law_box) l_law_box c_law_box k_law_box
  have B_law_box := F_law_box.binds (ps := ["_law_script", "_law_k"]) fun _ _ _ _ _ _ us hl => match us, hl with | [_, _], _ => rfl
  have F_law_take := fun_mk (st := s_law_take) l_law_take c_law_take k_law_take
  have B_law_take := F_law_take.binds (ps := ["_law_urn", "_law_low_so"]) fun _ _ _ _ _ _ us hl => match us, hl with | [_, _], _ => rfl
  have F_law_words := fun_mk (st := s_law_words) l_law_words c_law_words k_law_words
  have B_law_words := F_law_words.binds (ps := ["_law_urn", "_law_many_so"]) fun _ _ _ _ _ _ us hl => match us, hl with | [_, _], _ => rfl
  have F_law_shape := fun_mk (st := s_law_shape) l_law_shape c_law_shape k_law_shape
  have B_law_shape := F_law_shape.binds (ps := ["_law_urn", "_law_row"]) fun _ _ _ _ _ _ us hl => match us, hl with | [_, _], _ => rfl
  have F_law_renamed := fun_mk (st := s_law_renamed) l_law_renamed c_law_renamed k_law_renamed
  have B_law_renamed := F_law_renamed.binds (ps := ["_law_tale", "_law_names_so"]) fun _ _ _ _ _ _ us hl => match us, hl with | [_, _], _ => rfl
  have F_Tree_boxes := fun_mk (st := s_Tree_boxes) l_Tree_boxes c_Tree_boxes k_Tree_boxes
  have B_Tree_boxes := F_Tree_boxes.binds (ps := ["self"]) fun _ _ _ _ _ _ us hl => match us, hl with | [_], _ => rfl
  have F_Tree_grown := fun_mk (st := s_Tree_grown) l_Tree_grown c_Tree_grown k_Tree_grown
  have B_Tree_grown := F_Tree_grown.binds (ps := ["self", "tree"]) fun _ _ _ _ _ _ us hl => match us, hl with | [_, _], _ => rfl
  have F_tupled := fun_mk (st := s_tupled) l_tupled c_tupled k_tupled
  have B_tupled := F_tupled.binds (ps := ["thing"]) fun _ _ _ _ _ _ us hl => match us, hl with | [_], _ => rfl
  have F_Tree_init := fun_mk (st := s_Tree_init) l_Tree_init c_Tree_init k_Tree_init
  have B_Tree_init := F_Tree_init.binds (ps := ["self", "tree"]) fun _ _ _ _ _ _ us hl => match us, hl with | [_, _], _ => rfl
  have F_boxes_in := fun_mk (st := s_boxes_in) l_boxes_in c_boxes_in k_boxes_in
  have B_boxes_in := F_boxes_in.binds (ps := ["tree"]) fun _ _ _ _ _ _ us hl => match us, hl with | [_], _ => rfl
  have F_Tree_nodes := fun_mk (st := s_Tree_nodes) l_Tree_nodes c_Tree_nodes k_Tree_nodes
  have B_Tree_nodes := F_Tree_nodes.binds (ps := ["self"]) fun _ _ _ _ _ _ us hl => match us, hl with | [_], _ => rfl
  have F_nodes_in := fun_mk (st := s_nodes_in) l_nodes_in c_nodes_in k_nodes_in
  have B_nodes_in := F_nodes_in.binds (ps := ["tree"]) fun _ _ _ _ _ _ us hl => match us, hl with | [_], _ => rfl
  have F_Tree_names := fun_mk (st := s_Tree_names) l_Tree_names c_Tree_names k_Tree_names
  have B_Tree_names := F_Tree_names.binds (ps := ["self", "node"]) fun _ _ _ _ _ _ us hl => match us, hl with | [_, _], _ => rfl
  have F_boxes_of := fun_mk (st := s_boxes_of) l_boxes_of c_boxes_of k_boxes_of
  have B_boxes_of := F_boxes_of.binds (ps := ["tree", "node"]) fun _ _ _ _ _ _ us hl => match us, hl with | [_, _], _ => rfl
  have F_Tree_sides := fun_mk (st := s_Tree_sides) l_Tree_sides c_Tree_sides k_Tree_sides
  have B_Tree_sides := F_Tree_sides.binds (ps := ["self", "node"]) fun _ _ _ _ _ _ us hl => match us, hl with | [_, _], _ => rfl
  have F_sides_of := fun_mk (st := s_sides_of) l_sides_of c_sides_of k_sides_of
  have B_sides_of := F_sides_of.binds (ps := ["tree", "node"]) fun _ _ _ _ _ _ us hl => match us, hl with | [_, _], _ => rfl
  have F_Tree_way := fun_mk (st := s_Tree_way) l_Tree_way c_Tree_way k_Tree_way
  have B_Tree_way := F_Tree_way.binds (ps := ["self", "box"]) fun _ _ _ _ _ _ us hl => match us, hl with | [_, _], _ => rfl
  have F_way_to := fun_mk (st := s_way_to) l_way_to c_way_to k_way_to
  have B_way_to := F_way_to.binds (ps := ["tree", "box"]) fun _ _ _ _ _ _ us hl => match us, hl with | [_, _], _ => rfl
  have F_Tree_below := fun_mk (st := s_Tree_below) l_Tree_below c_Tree_below k_Tree_below
  have B_Tree_below := F_Tree_below.binds (ps := ["self", "node"]) fun _ _ _ _ _ _ us hl => match us, hl with | [_, _], _ => rfl
  have F_nodes_below := fun_mk (st := s_nodes_below) l_nodes_below c_nodes_below k_nodes_below
  have B_nodes_below := F_nodes_below.binds (ps := ["tree", "node"]) fun _ _ _ _ _ _ us hl => match us, hl with | [_, _], _ => rfl
  have F_law_shifted := fun_mk (st := s_law_shifted) l_law_shifted c_law_shifted k_law_shifted
  have B_law_shifted := F_law_shifted.binds (ps := ["_law_knots", "_law_spot"]) fun _ _ _ _ _ _ us hl => match us, hl with | [_, _], _ => rfl
  have F_law_joined_right := fun_mk (st := s_law_joined_right) l_law_joined_right c_law_joined_right k_law_joined_right
  have B_law_joined_right := F_law_joined_right.binds (ps := ["_law_one_so", "_law_other_so"]) fun _ _ _ _ _ _ us hl => match us, hl with | [_, _], _ => rfl
  have F_law_mirrored := fun_mk (st := s_law_mirrored) l_law_mirrored c_law_mirrored k_law_mirrored
  have B_law_mirrored := F_law_mirrored.binds (ps := ["_law_tale"]) fun _ _ _ _ _ _ us hl => match us, hl with | [_], _ => rfl
  have F_law_turned_right := fun_mk (st := s_law_turned_right) l_law_turned_right c_law_turned_right k_law_turned_right
  have B_law_turned_right := F_law_turned_right.binds (ps := ["_law_tale"]) fun _ _ _ _ _ _ us hl => match us, hl with | [_], _ => rfl
  have F_law_right := fun_mk (st := s_law_right) l_law_right c_law_right k_law_right
  have B_law_right := F_law_right.binds (ps := ["_law_urn"]) fun _ _ _ _ _ _ us hl => match us, hl with | [_], _ => rfl
  have F_law := fun_mk (st := s_law) l_law c_law k_law
  have B_law := F_law.binds (ps := ["_law_script"]) fun _ _ _ _ _ _ us hl => match us, hl with | [_], _ => rfl
  refine ⟨PySem.W.fnOf "law" "law" (defArgs s_law) (defBody s_law) (defScope s_law) .none kV_law dc_law pm_law an_law cd_law ct_law, fun s v => .of_eq rfl, fun base _ _ => ?_⟩
  exact law_ok (ok_law (P := l.prog) (w := w) (base := base) ({
    f_law_cells := f_law_cells
    d_law_cells := _
    F_law_cells := F_law_cells
    B_law_cells := B_law_cells
    g_law_cells := PySem.W.mg_of X G a_law_cells
    f_law_box := f_law_box
    d_law_box := _
    F_law_box := F_law_box
    B_law_box := B_law_box
    g_law_box := PySem.W.mg_of X G a_law_box
    f_law_take := f_law_take
    d_law_take := _
    F_law_take := F_law_take
    B_law_take := B_law_take
    g_law_take := PySem.W.mg_of X G a_law_take
    f_law_words := f_law_words
    d_law_words := _
    F_law_words := F_law_words
    B_law_words := B_law_words
    g_law_words := PySem.W.mg_of X G a_law_words
    f_law_shape := f_law_shape
    d_law_shape := _
    F_law_shape := F_law_shape
    B_law_shape := B_law_shape
    g_law_shape := PySem.W.mg_of X G a_law_shape
    f_law_renamed := f_law_renamed
    d_law_renamed := _
    F_law_renamed := F_law_renamed
    B_law_renamed := B_law_renamed
    g_law_renamed := PySem.W.mg_of X G a_law_renamed
    f_Tree_boxes := f_Tree_boxes
    d_Tree_boxes := _
    F_Tree_boxes := F_Tree_boxes
    B_Tree_boxes := B_Tree_boxes
    f_Tree_grown := f_Tree_grown
    d_Tree_grown := _
    F_Tree_grown := F_Tree_grown
    B_Tree_grown := B_Tree_grown
    f_tupled := f_tupled
    d_tupled := _
    F_tupled := F_tupled
    B_tupled := B_tupled
    g_tupled := PySem.W.mg_of X G a_tupled
    f_Tree_init := f_Tree_init
    d_Tree_init := _
    F_Tree_init := F_Tree_init
    B_Tree_init := B_Tree_init
    f_boxes_in := f_boxes_in
    d_boxes_in := _
    F_boxes_in := F_boxes_in
    B_boxes_in := B_boxes_in
    g_boxes_in := PySem.W.mg_of X G a_boxes_in
    f_Tree_nodes := f_Tree_nodes
    d_Tree_nodes := _
    F_Tree_nodes := F_Tree_nodes
    B_Tree_nodes := B_Tree_nodes
    f_nodes_in := f_nodes_in
    d_nodes_in := _
    F_nodes_in := F_nodes_in
    B_nodes_in := B_nodes_in
    g_nodes_in := PySem.W.mg_of X G a_nodes_in
    f_Tree_names := f_Tree_names
    d_Tree_names := _
    F_Tree_names := F_Tree_names
    B_Tree_names := B_Tree_names
    f_boxes_of := f_boxes_of
    d_boxes_of := _
    F_boxes_of := F_boxes_of
    B_boxes_of := B_boxes_of
    g_boxes_of := PySem.W.mg_of X G a_boxes_of
    f_Tree_sides := f_Tree_sides
    d_Tree_sides := _
    F_Tree_sides := F_Tree_sides
    B_Tree_sides := B_Tree_sides
    f_sides_of := f_sides_of
    d_sides_of := _
    F_sides_of := F_sides_of
    B_sides_of := B_sides_of
    g_sides_of := PySem.W.mg_of X G a_sides_of
    f_Tree_way := f_Tree_way
    d_Tree_way := _
    F_Tree_way := F_Tree_way
    B_Tree_way := B_Tree_way
    f_way_to := f_way_to
    d_way_to := _
    F_way_to := F_way_to
    B_way_to := B_way_to
    g_way_to := PySem.W.mg_of X G a_way_to
    f_Tree_below := f_Tree_below
    d_Tree_below := _
    F_Tree_below := F_Tree_below
    B_Tree_below := B_Tree_below
    f_nodes_below := f_nodes_below
    d_nodes_below := _
    F_nodes_below := F_nodes_below
    B_nodes_below := B_nodes_below
    g_nodes_below := PySem.W.mg_of X G a_nodes_below
    f_law_shifted := f_law_shifted
    d_law_shifted := _
    F_law_shifted := F_law_shifted
    B_law_shifted := B_law_shifted
    g_law_shifted := PySem.W.mg_of X G a_law_shifted
    f_law_joined_right := f_law_joined_right
    d_law_joined_right := _
    F_law_joined_right := F_law_joined_right
    B_law_joined_right := B_law_joined_right
    g_law_joined_right := PySem.W.mg_of X G a_law_joined_right
    f_law_mirrored := f_law_mirrored
    d_law_mirrored := _
    F_law_mirrored := F_law_mirrored
    B_law_mirrored := B_law_mirrored
    g_law_mirrored := PySem.W.mg_of X G a_law_mirrored
    f_law_turned_right := f_law_turned_right
    d_law_turned_right := _
    F_law_turned_right := F_law_turned_right
    B_law_turned_right := B_law_turned_right
    g_law_turned_right := PySem.W.mg_of X G a_law_turned_right
    f_law_right := f_law_right
    d_law_right := _
    F_law_right := F_law_right
    B_law_right := B_law_right
    g_law_right := PySem.W.mg_of X G a_law_right
    f_law := fa
    d_law := _
    F_law := F_law
    B_law := B_law
    g_law := PySem.W.mg_of X G a_law
    z_abs := PySem.W.mg_none_of X G z_abs
    z_all := PySem.W.mg_none_of X G z_all
    z_dict := PySem.W.mg_none_of X G z_dict
    z_enumerate := PySem.W.mg_none_of X G z_enumerate
    z_int := PySem.W.mg_none_of X G z_int
    z_isinstance := PySem.W.mg_none_of X G z_isinstance
    z_len := PySem.W.mg_none_of X G z_len
    z_list := PySem.W.mg_none_of X G z_list
    z_range := PySem.W.mg_none_of X G z_range
    z_sorted := PySem.W.mg_none_of X G z_sorted
    z_str := PySem.W.mg_none_of X G z_str
    z_tuple := PySem.W.mg_none_of X G z_tuple
    z_zip := PySem.W.mg_none_of X G z_zip
    C_Tree := C_Tree
    c_Tree := c_Tree
    s_Tree := ⟨pg_Tree, ic_Tree, po_Tree, sa_Tree⟩
    mk_Tree := ⟨mk_Tree, a_Tree_init, i_Tree_init, kc_Tree⟩
    m_Tree_below := ⟨a_Tree_below, i_Tree_below, k_Tree_below⟩
    m_Tree_boxes := ⟨a_Tree_boxes, i_Tree_boxes, k_Tree_boxes⟩
    m_Tree_grown := ⟨a_Tree_grown, i_Tree_grown, k_Tree_grown⟩
    m_Tree_names := ⟨a_Tree_names, i_Tree_names, k_Tree_names⟩
    m_Tree_nodes := ⟨a_Tree_nodes, i_Tree_nodes, k_Tree_nodes⟩
    m_Tree_sides := ⟨a_Tree_sides, i_Tree_sides, k_Tree_sides⟩
    m_Tree_way := ⟨a_Tree_way, i_Tree_way, k_Tree_way⟩
    sl_Tree_own_boxes := clsF_mk c_Tree ⟨pg_Tree, ic_Tree, po_Tree, sa_Tree⟩ ⟨sa1_Tree_own_boxes, sa2_Tree_own_boxes, sa3_Tree_own_boxes, sa4_Tree_own_boxes, sa5_Tree_own_boxes, by decide⟩
    sl_Tree_own_head := clsF_mk c_Tree ⟨pg_Tree, ic_Tree, po_Tree, sa_Tree⟩ ⟨sa1_Tree_own_head, sa2_Tree_own_head, sa3_Tree_own_head, sa4_Tree_own_head, sa5_Tree_own_head, by decide⟩
    sl_Tree_own_sides := clsF_mk c_Tree ⟨pg_Tree, ic_Tree, po_Tree, sa_Tree⟩ ⟨sa1_Tree_own_sides, sa2_Tree_own_sides, sa3_Tree_own_sides, sa4_Tree_own_sides, sa5_Tree_own_sides, by decide⟩ } : Tx K mg)) hlaw
end Pu
open PySem PySem.W PyProof.Rows
set_option maxRecDepth 100000 in
set_option maxHeartbeats 0 in
theorem PySem.Challenge.cw_lockedout_k06_whole_trees_joined_and_tur_holds : PySem.Challenge.rw_lockedout_k06_whole_trees_joined_and_tur.Holds := by
  w_on; o_law; k_head; (case hw => w_witness2)
  k_fill
  refine L2.walk_of (l := PySem.Challenge.rw_lockedout_k06_whole_trees_joined_and_tur) (n := 63) (k := 46) (x := "_law_script") (CX := fun _ => L2.CX0) (sp := fun w => @Pu.spLaw Pu.noTab _) rfl (by decide) rfl ⟨rfl, by decide, by decide⟩ (fun w h Y => PySem.W.kIn_of Y) ?F (fun _ _ a ns hl _ hS => ⟨a, ns, rfl, hS, hl, fun p hp => absurd hp List.not_mem_nil, fun _ => rfl⟩) (fun _ _ _ _ _ h => h)
  case F =>
    intro w mg fa h KX G hmg
    refine' Pu.all_mk KX G hmg ?aC_Tree ?pg_Tree ?ic_Tree ?po_Tree ?sa_Tree ?mk_Tree ?kc_Tree ?a_law_cells ?l_law_cells ?c_law_cells ?k_law_cells ?a_law_box ?l_law_box ?c_law_box ?k_law_box ?a_law_take ?l_law_take ?c_law_take ?k_law_take ?a_law_words ?l_law_words ?c_law_words ?k_law_words ?a_law_shape ?l_law_shape ?c_law_shape ?k_law_shape ?a_law_renamed ?l_law_renamed ?c_law_renamed ?k_law_renamed ?a_Tree_boxes ?i_Tree_boxes ?l_Tree_boxes ?c_Tree_boxes ?k_Tree_boxes ?a_Tree_grown ?i_Tree_grown ?l_Tree_grown ?c_Tree_grown ?k_Tree_grown ?a_tupled ?l_tupled ?c_tupled ?k_tupled ?a_Tree_init ?i_Tree_init ?l_Tree_init ?c_Tree_init ?k_Tree_init ?a_boxes_in ?l_boxes_in ?c_boxes_in ?k_boxes_in ?a_Tree_nodes ?i_Tree_nodes ?l_Tree_nodes ?c_Tree_nodes ?k_Tree_nodes ?a_nodes_in ?l_nodes_in ?c_nodes_in ?k_nodes_in ?a_Tree_names ?i_Tree_names ?l_Tree_names ?c_Tree_names ?k_Tree_names ?a_boxes_of ?l_boxes_of ?c_boxes_of ?k_boxes_of ?a_Tree_sides ?i_Tree_sides ?l_Tree_sides ?c_Tree_sides ?k_Tree_sides ?a_sides_of ?l_sides_of ?c_sides_of ?k_sides_of ?a_Tree_way ?i_Tree_way ?l_Tree_way ?c_Tree_way ?k_Tree_way ?a_way_to ?l_way_to ?c_way_to ?k_way_to ?a_Tree_below ?i_Tree_below ?l_Tree_below ?c_Tree_below ?k_Tree_below ?a_nodes_below ?l_nodes_below ?c_nodes_below ?k_nodes_below ?a_law_shifted ?l_law_shifted ?c_law_shifted ?k_law_shifted ?a_law_joined_right ?l_law_joined_right ?c_law_joined_right ?k_law_joined_right ?a_law_mirrored ?l_law_mirrored ?c_law_mirrored ?k_law_mirrored ?a_law_turned_right ?l_law_turned_right ?c_law_turned_right ?k_law_turned_right ?a_law_right ?l_law_right ?c_law_right ?k_law_right ?a_law ?l_law ?c_law ?k_law ?z_abs ?z_all ?z_dict ?z_enumerate ?z_int ?z_isinstance ?z_len ?z_list ?z_range ?z_sorted ?z_str ?z_tuple ?z_zip ?sa1_Tree_own_boxes ?sa2_Tree_own_boxes ?sa3_Tree_own_boxes ?sa4_Tree_own_boxes ?sa5_Tree_own_boxes ?sa1_Tree_own_head ?sa2_Tree_own_head ?sa3_Tree_own_head ?sa4_Tree_own_head ?sa5_Tree_own_head ?sa1_Tree_own_sides ?sa2_Tree_own_sides ?sa3_Tree_own_sides ?sa4_Tree_own_sides ?sa5_Tree_own_sides Pu.law_true
    (case aC_Tree => k_is)
    (case pg_Tree => k_is)
    (case ic_Tree => k_is)
    (case po_Tree => k_is)
    (case sa_Tree => k_is)
    (case mk_Tree => k_is)
    (case kc_Tree => k_is)
    (case a_law_cells => k_is)
    (case l_law_cells => k_is)
    (case c_law_cells => k_is)
    (case k_law_cells => k_is)
    (case a_law_box => k_is)
    (case l_law_box => k_is)
    (case c_law_box => k_is)
    (case k_law_box => k_is)
    (case a_law_take => k_is)
    (case l_law_take => k_is)
    (case c_law_take => k_is)
    (case k_law_take => k_is)
    (case a_law_words => k_is)
    (case l_law_words => k_is)
    (case c_law_words => k_is)
    (case k_law_words => k_is)
    (case a_law_shape => k_is)
    (case l_law_shape => k_is)
    (case c_law_shape => k_is)
    (case k_law_shape => k_is)
    (case a_law_renamed => k_is)
    (case l_law_renamed => k_is)
    (case c_law_renamed => k_is)
    (case k_law_renamed => k_is)
    (case a_Tree_boxes => k_is)
    (case i_Tree_boxes => k_is)
    (case l_Tree_boxes => k_is)
    (case c_Tree_boxes => k_is)
    (case k_Tree_boxes => k_is)
    (case a_Tree_grown => k_is)
    (case i_Tree_grown => k_is)
    (case l_Tree_grown => k_is)
    (case c_Tree_grown => k_is)
    (case k_Tree_grown => k_is)
    (case a_tupled => k_is)
    (case l_tupled => k_is)
    (case c_tupled => k_is)
    (case k_tupled => k_is)
    (case a_Tree_init => k_is)
    (case i_Tree_init => k_is)
    (case l_Tree_init => k_is)
    (case c_Tree_init => k_is)
    (case k_Tree_init => k_is)
    (case a_boxes_in => k_is)
    (case l_boxes_in => k_is)
    (case c_boxes_in => k_is)
    (case k_boxes_in => k_is)
    (case a_Tree_nodes => k_is)
    (case i_Tree_nodes => k_is)
    (case l_Tree_nodes => k_is)
    (case c_Tree_nodes => k_is)
    (case k_Tree_nodes => k_is)
    (case a_nodes_in => k_is)
    (case l_nodes_in => k_is)
    (case c_nodes_in => k_is)
    (case k_nodes_in => k_is)
    (case a_Tree_names => k_is)
    (case i_Tree_names => k_is)
    (case l_Tree_names => k_is)
    (case c_Tree_names => k_is)
    (case k_Tree_names => k_is)
    (case a_boxes_of => k_is)
    (case l_boxes_of => k_is)
    (case c_boxes_of => k_is)
    (case k_boxes_of => k_is)
    (case a_Tree_sides => k_is)
    (case i_Tree_sides => k_is)
    (case l_Tree_sides => k_is)
    (case c_Tree_sides => k_is)
    (case k_Tree_sides => k_is)
    (case a_sides_of => k_is)
    (case l_sides_of => k_is)
    (case c_sides_of => k_is)
    (case k_sides_of => k_is)
    (case a_Tree_way => k_is)
    (case i_Tree_way => k_is)
    (case l_Tree_way => k_is)
    (case c_Tree_way => k_is)
    (case k_Tree_way => k_is)
    (case a_way_to => k_is)
    (case l_way_to => k_is)
    (case c_way_to => k_is)
    (case k_way_to => k_is)
    (case a_Tree_below => k_is)
    (case i_Tree_below => k_is)
    (case l_Tree_below => k_is)
    (case c_Tree_below => k_is)
    (case k_Tree_below => k_is)
    (case a_nodes_below => k_is)
    (case l_nodes_below => k_is)
    (case c_nodes_below => k_is)
    (case k_nodes_below => k_is)
    (case a_law_shifted => k_is)
    (case l_law_shifted => k_is)
    (case c_law_shifted => k_is)
    (case k_law_shifted => k_is)
    (case a_law_joined_right => k_is)
    (case l_law_joined_right => k_is)
    (case c_law_joined_right => k_is)
    (case k_law_joined_right => k_is)
    (case a_law_mirrored => k_is)
    (case l_law_mirrored => k_is)
    (case c_law_mirrored => k_is)
    (case k_law_mirrored => k_is)
    (case a_law_turned_right => k_is)
    (case l_law_turned_right => k_is)
    (case c_law_turned_right => k_is)
    (case k_law_turned_right => k_is)
    (case a_law_right => k_is)
    (case l_law_right => k_is)
    (case c_law_right => k_is)
    (case k_law_right => k_is)
    (case a_law => k_is)
    (case l_law => k_is)
    (case c_law => k_is)
    (case k_law => k_is)
    (case z_abs => k_is)
    (case z_all => k_is)
    (case z_dict => k_is)
    (case z_enumerate => k_is)
    (case z_int => k_is)
    (case z_isinstance => k_is)
    (case z_len => k_is)
    (case z_list => k_is)
    (case z_range => k_is)
    (case z_sorted => k_is)
    (case z_str => k_is)
    (case z_tuple => k_is)
    (case z_zip => k_is)
    (case sa1_Tree_own_boxes => k_is)
    (case sa2_Tree_own_boxes => k_is)
    (case sa3_Tree_own_boxes => k_is)
    (case sa4_Tree_own_boxes => k_is)
    (case sa5_Tree_own_boxes => k_is)
    (case sa1_Tree_own_head => k_is)
    (case sa2_Tree_own_head => k_is)
    (case sa3_Tree_own_head => k_is)
    (case sa4_Tree_own_head => k_is)
    (case sa5_Tree_own_head => k_is)
    (case sa1_Tree_own_sides => k_is)
    (case sa2_Tree_own_sides => k_is)
    (case sa3_Tree_own_sides => k_is)
    (case sa4_Tree_own_sides => k_is)
    (case sa5_Tree_own_sides => k_is)


