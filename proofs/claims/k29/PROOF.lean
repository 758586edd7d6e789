import PyProof.Rows.All
import Wide.All
import OpenK.AllK
import Wide.FinOn
import HandS.ForMost
import HandS.ForExc
import HandS.IsInst
import HandS.Wide
import HandS.SortInts
import HandS.Zip
import PySem.Challenge.RW_manyfaces_k29_runs_seen
set_option Elab.async false
set_option linter.all false
set_option autoImplicit false
set_option maxRecDepth 100000
set_option maxHeartbeats 4000000
/-! the data layer: values as trees, changing things as cells -/
namespace DL
open PySem PySem.Spec L2
open PyProof.Rows hiding St

inductive D where
  | non | bl (b : Bool) | int (i : Int) | str (x : Str) | tup (ds : List D) | lst (ds : List D) | kt (ds : List D) | scr (ns : List Int) | ref (a : Addr) | ty (n : String)

noncomputable instance : DecidableEq D := fun _ _ => Classical.propDecidable _

mutual
inductive DV (K : PySem.W.Frag) (F : Hp) : V → D → Prop
  | non : DV K F .non .non
  | bl (b : Bool) : DV K F (.bl b) (.bl b)
  | int (i : Int) : DV K F (.int i) (.int i)
  | str (x : Str) : DV K F (.str x) (.str x)
  | ref (a : Addr) : DV K F (.ref a) (.ref a)
  | ty (n : String) : DV K F (.ty n) (.ty n)
  | lst {a : Addr} {xs : List V} {ds : List D} : F a = some (.lst xs) → DVs K F xs ds → DV K F (.ref a) (.lst ds)
  | tup {a : Addr} {xs : List V} {ds : List D} : F a = some (.tup xs) → DVs K F xs ds → DV K F (.ref a) (.tup ds)
  | kt {a : Addr} {xs : List V} {ds : List D} : SqT K F a xs → DVs K F xs ds → DV K F (.ref a) (.kt ds)
  | scr {a : Addr} {ns : List Int} : SqL K F a (ns.map V.int) → DV K F (.ref a) (.scr ns)
inductive DVs (K : PySem.W.Frag) (F : Hp) : List V → List D → Prop
  | nil : DVs K F [] []
  | cons {v : V} {vs : List V} {d : D} {ds : List D} : DV K F v d → DVs K F vs ds → DVs K F (v :: vs) (d :: ds)
end

abbrev Le (F G : Hp) : Prop := ∀ a o, F a = some o → G a = some o
theorem Le.rfl' {F : Hp} : Le F F := fun _ _ h => h
theorem Le.trans' {F G H : Hp} (p : Le F G) (q : Le G H) : Le F H := fun a o h => q a o (p a o h)
theorem Le.new {F : Hp} {p : Addr} {o : HO} (h : F p = none) : Le F (upd F p o) := fun a u e => by
  rw [upd_ne (ne_of_none e h)]; exact e
theorem rd_le {F G : Hp} {a : Addr} {u : HO} (l : Le F G) (r : Rd F a u) : Rd G a u := by
  rcases r with r | ⟨o, r⟩
  · exact .inl (l _ _ r)
  · exact .inr ⟨o, l _ _ r⟩
theorem sqT_le {K : PySem.W.Frag} {F G : Hp} {a : Addr} {xs : List V} (l : Le F G) (r : SqT K F a xs) : SqT K G a xs := by
  rcases r with r | r
  · exact .inl (rd_le l r)
  · exact .inr r
theorem sqL_le {K : PySem.W.Frag} {F G : Hp} {a : Addr} {xs : List V} (l : Le F G) (r : SqL K F a xs) : SqL K G a xs := by
  rcases r with r | r
  · exact .inl (rd_le l r)
  · exact .inr r
mutual
theorem DV.le {K : PySem.W.Frag} {F G : Hp} (l : Le F G) : ∀ {v : V} {d : D}, DV K F v d → DV K G v d
  | _, _, .non => .non
  | _, _, .bl b => .bl b
  | _, _, .int i => .int i
  | _, _, .str x => .str x
  | _, _, .ref a => .ref a
  | _, _, .ty n => .ty n
  | _, _, .lst h k => .lst (l _ _ h) (DVs.le l k)
  | _, _, .tup h k => .tup (l _ _ h) (DVs.le l k)
  | _, _, .kt h k => .kt (sqT_le l h) (DVs.le l k)
  | _, _, .scr h => .scr (sqL_le l h)
theorem DVs.le {K : PySem.W.Frag} {F G : Hp} (l : Le F G) : ∀ {v : List V} {d : List D}, DVs K F v d → DVs K G v d
  | _, _, .nil => .nil
  | _, _, .cons h k => .cons (DV.le l h) (DVs.le l k)
end
section
variable {K : PySem.W.Frag} {F : Hp}
theorem DVs.length : ∀ {vs : List V} {ds : List D}, DVs K F vs ds → vs.length = ds.length
  | _, _, .nil => rfl
  | _, _, .cons _ k => by simp [DVs.length k]
theorem DVs.app : ∀ {vs : List V} {ds : List D} {ws : List V} {es : List D}, DVs K F vs ds → DVs K F ws es → DVs K F (vs ++ ws) (ds ++ es)
  | _, _, _, _, .nil, q => q
  | _, _, _, _, .cons h k, q => .cons h (DVs.app k q)
theorem DVs.at : ∀ {vs : List V} {ds : List D} (i : Nat) {d : D}, DVs K F vs ds → ds[i]? = some d → ∃ v, vs[i]? = some v ∧ DV K F v d
  | _, _, _, _, .nil, e => by simp at e
  | _, _, 0, _, .cons h k, e => by simp at e; subst e; exact ⟨_, by simp, h⟩
  | _, _, i + 1, d, .cons h k, e => by
    obtain ⟨v, e1, e2⟩ := DVs.at i (d := d) k (by simpa using e)
    exact ⟨v, by simpa using e1, e2⟩
theorem DVs.at' : ∀ {vs : List V} {ds : List D} (i : Nat) {v : V}, DVs K F vs ds → vs[i]? = some v → ∃ d, ds[i]? = some d ∧ DV K F v d
  | _, _, _, _, .nil, e => by simp at e
  | _, _, 0, _, .cons h k, e => by simp at e; subst e; exact ⟨_, by simp, h⟩
  | _, _, i + 1, d, .cons h k, e => by
    obtain ⟨v, e1, e2⟩ := DVs.at' i (v := d) k (by simpa using e)
    exact ⟨v, by simpa using e1, e2⟩
theorem DVs.take : ∀ {vs : List V} {ds : List D} (n : Nat), DVs K F vs ds → DVs K F (vs.take n) (ds.take n)
  | _, _, 0, _ => by simpa using DVs.nil
  | _, _, _ + 1, .nil => .nil
  | _, _, n + 1, .cons h k => .cons h (DVs.take n k)
theorem DVs.drop : ∀ {vs : List V} {ds : List D} (n : Nat), DVs K F vs ds → DVs K F (vs.drop n) (ds.drop n)
  | _, _, 0, h => h
  | _, _, _ + 1, .nil => .nil
  | _, _, n + 1, .cons h k => DVs.drop n k
theorem DVs.set : ∀ {vs : List V} {ds : List D} {v : V} {d : D} (n : Nat), DV K F v d → DVs K F vs ds → DVs K F (vs.set n v) (ds.set n d)
  | _, _, _, _, _, _, .nil => .nil
  | _, _, _, _, 0, q, .cons h k => .cons q k
  | _, _, _, _, n + 1, q, .cons h k => .cons h (DVs.set n q k)
theorem DVs.ints : ∀ {ns : List Int}, DVs K F (ns.map V.int) (ns.map D.int)
  | [] => .nil
  | n :: r => .cons (.int n) DVs.ints
theorem DVs.one {v : V} {d : D} (h : DV K F v d) : DVs K F [v] [d] := .cons h .nil
theorem DVs.rev : ∀ {vs : List V} {ds : List D}, DVs K F vs ds → DVs K F vs.reverse ds.reverse
  | _, _, .nil => .nil
  | _, _, .cons h k => by simp only [List.reverse_cons]; exact DVs.app (DVs.rev k) (.one h)
theorem DVs.dropLast {vs : List V} {ds : List D} (h : DVs K F vs ds) : DVs K F vs.dropLast ds.dropLast := by
  rw [List.dropLast_eq_take, List.dropLast_eq_take, h.length]; exact h.take _
theorem DVs.erase : ∀ {vs : List V} {ds : List D} (n : Nat), DVs K F vs ds → DVs K F (vs.eraseIdx n) (ds.eraseIdx n)
  | _, _, _, .nil => .nil
  | _, _, 0, .cons _ k => k
  | _, _, n + 1, .cons h k => .cons h (DVs.erase n k)
theorem DVs.rep {vs : List V} {ds : List D} (h : DVs K F vs ds) : ∀ n : Nat, DVs K F (List.replicate n vs).flatten (List.replicate n ds).flatten
  | 0 => .nil
  | n + 1 => by simp only [List.replicate_succ, List.flatten_cons]; exact h.app (DVs.rep h n)
end

/-! ### cells -/
inductive Cell where
  | lst (ds : List D)
  | dK (kvs : List (Key × D))
  | dT (kvs : List (List Key × D))
  | set (S : Int → Bool) (n : Nat)
  | ins (C : Addr) (fs : List (Str × D))
  | xd (fs : List (Str × D))
  | raw (o : HO)
def KD {κ : Type} (K : PySem.W.Frag) (F : Hp) (kvs : List (κ × V)) (eds : List (κ × D)) : Prop := Paired (fun p q => p.1 = q.1 ∧ DV K F p.2 q.2) kvs eds
def CellR (K : PySem.W.Frag) (F : Hp) (o : HO) : Cell → Prop
  | .lst ds => ∃ vs, o = .lst vs ∧ DVs K F vs ds
  | .dK kvs => ∃ us, o = .dK us ∧ KD K F us kvs
  | .dT kvs => ∃ us, o = .dT us ∧ KD K F us kvs
  | .set S n => o = .set S n
  | .ins C fs => ∃ dx us, o = .ins C dx us ∧ KD K F us fs
  | .xd fs => ∃ us, o = .xd us ∧ KD K F us fs
  | .raw u => o = u
abbrev CMap := Addr → Option Cell
def updc (c : CMap) (a : Addr) (k : Cell) : CMap := fun b => if b = a then some k else c b
def delc (c : CMap) (a : Addr) : CMap := fun b => if b = a then none else c b
section
variable {c : CMap} {a b : Addr} {k k' : Cell}
theorem updc_same : updc c a k a = some k := by unfold updc; rw [if_pos rfl]
theorem updc_ne (h : b ≠ a) : updc c a k b = c b := by unfold updc; rw [if_neg h]
theorem updc_updc : updc (updc c a k) a k' = updc c a k' := by funext b; unfold updc; split <;> rfl
theorem delc_same : delc c a a = none := by unfold delc; rw [if_pos rfl]
theorem delc_ne (h : b ≠ a) : delc c a b = c b := by unfold delc; rw [if_neg h]
theorem ne_some_none (h : c a = some k) (h' : c b = none) : a ≠ b := by intro e; subst e; rw [h] at h'; cases h'
theorem ne_none_some (h : c a = none) (h' : c b = some k) : a ≠ b := by intro e; subst e; rw [h] at h'; cases h'
end
abbrev SubC (c c' : CMap) : Prop := ∀ a k, c a = some k → c' a = some k
theorem SubC.rfl' {c : CMap} : SubC c c := fun _ _ h => h
theorem SubC.trans' {a b c : CMap} (p : SubC a b) (q : SubC b c) : SubC a c := fun x k h => q x k (p x k h)
theorem SubC.new {c : CMap} {a : Addr} {k : Cell} (h : c a = none) : SubC c (updc c a k) := fun b u e => by
  rw [updc_ne (ne_some_none e h)]; exact e
theorem SubC.newr {c c' : CMap} {a : Addr} {k : Cell} (s : SubC c c') (h : c a = none) : SubC c (updc c' a k) := fun b u e => by
  rw [updc_ne (ne_some_none e h)]; exact s _ _ e
theorem SubC.del {c c' : CMap} {a : Addr} (s : SubC c c') (h : c a = none) : SubC c (delc c' a) := fun b u e => by
  rw [delc_ne (ne_some_none e h)]; exact s _ _ e
theorem SubC.upd {c c' : CMap} {a : Addr} {k : Cell} (s : SubC c c') : SubC (updc c a k) (updc c' a k) := fun b u e => by
  unfold updc at e ⊢
  split
  · rename_i q; rw [if_pos q] at e; exact e
  · rename_i q; rw [if_neg q] at e; exact s _ _ e

/-- what the heap keeps for ever: a fact that new and changed objects leave as it is -/
structure Glob (GI : Hp → Prop) : Prop where
  new : ∀ H p o, GI H → H p = none → GI (upd H p o)
  wr : ∀ H p o, GI H → Mut (H p) → GI (upd H p o)
theorem glob_true : Glob (fun _ => True) := ⟨fun _ _ _ _ _ => trivial, fun _ _ _ _ _ => trivial⟩

structure Rep (K : PySem.W.Frag) (GI : Hp → Prop) (F : Hp) (c : CMap) (H : Hp) : Prop where
  sub : Le F H
  cel : ∀ a k, c a = some k → F a = none ∧ ∃ o, H a = some o ∧ CellR K F o k
  gi : GI H
  gg : Glob GI
section
variable {K : PySem.W.Frag} {GI : Hp → Prop} {F F' H : Hp} {c c' : CMap} {p : Addr} {o : HO} {k : Cell} {vs : List V} {ds : List D}
theorem KD.le {κ : Type} {kvs : List (κ × V)} {eds : List (κ × D)} (l : Le F F') (h : KD K F kvs eds) : KD K F' kvs eds := Paired.mapP h fun _ _ q => ⟨q.1, q.2.le l⟩
theorem CellR.le (l : Le F F') (h : CellR K F o k) : CellR K F' o k := by
  cases k with
  | lst ds => obtain ⟨vs, e, q⟩ := h; exact ⟨vs, e, q.le l⟩
  | dK kvs => obtain ⟨vs, e, q⟩ := h; exact ⟨vs, e, KD.le l q⟩
  | dT kvs => obtain ⟨vs, e, q⟩ := h; exact ⟨vs, e, KD.le l q⟩
  | set S n => exact h
  | ins C fs => obtain ⟨dx, vs, e, q⟩ := h; exact ⟨dx, vs, e, KD.le l q⟩
  | xd fs => obtain ⟨vs, e, q⟩ := h; exact ⟨vs, e, KD.le l q⟩
  | raw u => exact h
theorem Rep.fr (r : Rep K GI F c H) (h : H p = none) : F p = none := by
  cases e : F p with
  | none => rfl
  | some o => rw [r.sub _ _ e] at h; cases h
theorem Rep.frc (r : Rep K GI F c H) (h : H p = none) : c p = none := by
  cases e : c p with
  | none => rfl
  | some k => obtain ⟨_, o, q, _⟩ := r.cel _ _ e; rw [q] at h; cases h
theorem Rep.sub' (r : Rep K GI F c H) (s : SubC c' c) : Rep K GI F c' H := ⟨r.sub, fun a k e => r.cel a k (s a k e), r.gi, r.gg⟩
/-- a new thing that stays -/
theorem Rep.newF (r : Rep K GI F c H) (h : H p = none) : Rep K GI (upd F p o) c (upd H p o) := by
  have fp := r.fr h
  refine ⟨fun a u e => ?_, fun a k e => ?_, r.gg.new _ _ _ r.gi h, r.gg⟩
  · by_cases q : a = p
    · subst q; rw [upd_same] at e ⊢; exact e
    · rw [upd_ne q] at e ⊢; exact r.sub _ _ e
  · obtain ⟨e1, u, e2, e3⟩ := r.cel a k e
    have q : a ≠ p := ne_of_none e2 h
    exact ⟨by rw [upd_ne q]; exact e1, u, by rw [upd_ne q]; exact e2, e3.le (Le.new fp)⟩
/-- a new thing that is nobody's -/
theorem Rep.newN (r : Rep K GI F c H) (h : H p = none) : Rep K GI F c (upd H p o) := by
  refine ⟨fun a u e => by rw [upd_ne (ne_of_none (r.sub _ _ e) h)]; exact r.sub _ _ e, fun a k e => ?_, r.gg.new _ _ _ r.gi h, r.gg⟩
  obtain ⟨e1, u, e2, e3⟩ := r.cel a k e
  exact ⟨e1, u, by rw [upd_ne (ne_of_none e2 h)]; exact e2, e3⟩
/-- a new cell -/
theorem Rep.newC (r : Rep K GI F c H) (h : H p = none) (q : CellR K F o k) : Rep K GI F (updc c p k) (upd H p o) := by
  have s := r.newN (o := o) h
  refine ⟨s.sub, fun a u e => ?_, s.gi, s.gg⟩
  by_cases z : a = p
  · subst z; rw [updc_same] at e; cases e; exact ⟨r.fr h, o, upd_same, q⟩
  · rw [updc_ne z] at e; exact s.cel a u e
/-- a cell written -/
theorem Rep.wr (r : Rep K GI F c H) {k0 : Cell} (e : c p = some k0) (m : Mut (H p)) (q : CellR K F o k) : Rep K GI F (updc c p k) (upd H p o) := by
  obtain ⟨f0, o0, h0, _⟩ := r.cel _ _ e
  refine ⟨fun a u z => ?_, fun a u z => ?_, r.gg.wr _ _ _ r.gi m, r.gg⟩
  · have n : a ≠ p := ne_of_none z f0
    rw [upd_ne n]; exact r.sub _ _ z
  · by_cases n : a = p
    · subst n; rw [updc_same] at z; cases z; exact ⟨f0, o, upd_same, q⟩
    · rw [updc_ne n] at z
      obtain ⟨e1, u', e2, e3⟩ := r.cel a u z
      exact ⟨e1, u', by rw [upd_ne n]; exact e2, e3⟩
theorem Rep.lst (r : Rep K GI F c H) (e : c p = some (.lst ds)) : ∃ vs, H p = some (.lst vs) ∧ DVs K F vs ds := by
  obtain ⟨_, o, h, vs, e1, e2⟩ := r.cel _ _ e
  exact ⟨vs, by rw [h, e1], e2⟩
theorem Rep.frz (r : Rep K GI F c H) (e : c p = some (.lst ds)) : ∃ F', Le F F' ∧ Rep K GI F' (delc c p) H ∧ DV K F' (.ref p) (.lst ds) := by
  obtain ⟨f0, o, h, vs, e1, e2⟩ := r.cel _ _ e
  subst e1
  have l : Le F (upd F p (.lst vs)) := Le.new f0
  refine ⟨upd F p (.lst vs), l, ⟨fun a u z => ?_, fun a u z => ?_, r.gi, r.gg⟩, .lst upd_same (e2.le l)⟩
  · by_cases n : a = p
    · subst n; rw [upd_same] at z; rw [← z]; exact h
    · rw [upd_ne n] at z; exact r.sub _ _ z
  · by_cases n : a = p
    · subst n; rw [delc_same] at z; cases z
    · rw [delc_ne n] at z
      obtain ⟨g1, u', g2, g3⟩ := r.cel a u z
      exact ⟨by rw [upd_ne n]; exact g1, u', g2, g3.le l⟩
end

/-! ### the names' values -/
abbrev DEnv := List (Option D)
structure RepE (K : PySem.W.Frag) (F : Hp) (env : DEnv) (σ : St) : Prop where
  len : env.length = σ.length
  val : ∀ (i : Nat) (d : D), env[i]? = some (some d) → ∃ v, σ[i]? = some (some v) ∧ DV K F v d
section
variable {K : PySem.W.Frag} {GI : Hp → Prop} {F F' H : Hp} {env : DEnv} {σ : St}
theorem RepE.le (l : Le F F') (r : RepE K F env σ) : RepE K F' env σ := ⟨r.len, fun i d e => let ⟨v, h, q⟩ := r.val i d e; ⟨v, h, q.le l⟩⟩
theorem RepE.set (r : RepE K F env σ) {v : V} {d : D} (i : Nat) (q : DV K F v d) : RepE K F (env.set i (some d)) (σ.set i (some v)) := by
  refine ⟨by simpa using r.len, fun j e h => ?_⟩
  by_cases n : i = j
  · subst n
    by_cases l : i < env.length
    · rw [List.getElem?_set_self l] at h
      cases h
      exact ⟨v, by rw [List.getElem?_set_self (by rw [← r.len]; exact l)], q⟩
    · rw [List.set_eq_of_length_le (by omega)] at h
      rw [List.getElem?_eq_none (by omega)] at h
      cases h
  · rw [List.getElem?_set_ne n] at h
    obtain ⟨v', h1, h2⟩ := r.val j e h
    exact ⟨v', by rw [List.getElem?_set_ne n]; exact h1, h2⟩
theorem RepE.clear (r : RepE K F env σ) (i : Nat) {x : Option V} : RepE K F (env.set i none) (σ.set i x) := by
  refine ⟨by simpa using r.len, fun j e h => ?_⟩
  by_cases n : i = j
  · subst n
    by_cases l : i < env.length
    · rw [List.getElem?_set_self l] at h; cases h
    · rw [List.set_eq_of_length_le (by omega)] at h
      rw [List.getElem?_eq_none (by omega)] at h
      cases h
  · rw [List.getElem?_set_ne n] at h
    obtain ⟨v', h1, h2⟩ := r.val j e h
    exact ⟨v', by rw [List.getElem?_set_ne n]; exact h1, h2⟩
def wipeE (env : DEnv) : List Nat → DEnv
  | [] => env
  | v :: vs => (wipeE env vs).set v none
theorem RepE.wipe (r : RepE K F env σ) : ∀ vs : List Nat, RepE K F (wipeE env vs) (wipe σ vs)
  | [] => r
  | v :: vs => (RepE.wipe r vs).clear v
def startE (n : Nat) (ds : List D) : DEnv := ds.map some ++ List.replicate (n - ds.length) none
theorem RepE.start {N : List Str} {vs : List V} {ds : List D} (h : DVs K F vs ds) : RepE K F (startE N.length ds) (start N vs) := by
  have hl := h.length
  unfold startE L2.start
  refine ⟨by simp [hl], fun i d e => ?_⟩
  by_cases q : i < ds.length
  · rw [List.getElem?_append_left (by simpa using q)] at e
    rw [List.getElem?_append_left (by simp [hl]; exact q)]
    simp only [List.getElem?_map] at e ⊢
    cases z : ds[i]? with
    | none => rw [z] at e; cases e
    | some d' =>
      rw [z] at e
      simp at e; subst e
      obtain ⟨v, h1, h2⟩ := h.at i z
      exact ⟨v, by rw [h1]; rfl, h2⟩
  · rw [List.getElem?_append_right (by simpa using q)] at e
    rw [List.getElem?_replicate] at e
    split at e <;> simp at e
end
end DL
/-! the data layer: judgements; expressions -/
namespace DL
open PySem PySem.Spec L2
open PyProof.Rows hiding St

abbrev DK := D → CMap → Prop
abbrev XD := Value → Option Addr → CMap → Prop
abbrev WE := XD → DEnv → CMap → DK → Prop
abbrev WT := XD → DEnv → CMap → (Bool → CMap → Prop) → Prop
abbrev WA := XD → DEnv → CMap → (List D → CMap → Prop) → Prop
structure DEnds where
  nx : DEnv → CMap → Prop
  rt : DK
  bk : DEnv → CMap → Prop := fun _ _ => False
  ct : DEnv → CMap → Prop := fun _ _ => False
  ex : Value → Option Addr → DEnv → CMap → Prop := fun _ _ _ _ => False
abbrev WS := DEnds → DEnv → CMap → Prop

structure XOk (X : Cx) (W : WX) : Prop where
  nd : X.N.Nodup
  tk : Takes X W
  own : PassesOwn (model X.prog X.w) X.A X.env X.xe

section
variable (K : PySem.W.Frag) (GI : Hp → Prop)
def LX (W : WX) (F : Hp) (σ : St) (E : XD) : Prop := ∀ F' c' H' cls od, Le F F' → Rep K GI F' c' H' → E cls od c' → W cls od σ H'
def LQ (F : Hp) (Qd : DK) (Q : VK) : Prop := ∀ F' c' H' v d, Le F F' → Rep K GI F' c' H' → DV K F' v d → Qd d c' → Q v H'
def lowE (W : WX) (we : WE) : TE := fun σ H Q => ∃ F env c E Qd, RepE K F env σ ∧ Rep K GI F c H ∧ LX K GI W F σ E ∧ we E env c Qd ∧ LQ K GI F Qd Q
def lowT (W : WX) (wt : WT) : TT := fun σ H Q => ∃ F env c E Qd, RepE K F env σ ∧ Rep K GI F c H ∧ LX K GI W F σ E ∧ wt E env c Qd ∧ ∀ F' c' H' b, Le F F' → Rep K GI F' c' H' → Qd b c' → Q b H'
def lowA (W : WX) (wa : WA) : TA := fun σ H Q => ∃ F env c E Qd, RepE K F env σ ∧ Rep K GI F c H ∧ LX K GI W F σ E ∧ wa E env c Qd ∧ ∀ F' c' H' vs ds, Le F F' → Rep K GI F' c' H' → DVs K F' vs ds → Qd ds c' → Q vs H'
structure LS (W : WX) (F : Hp) (DD : DEnds) (Dn : Ends) : Prop where
  nx : ∀ F' env' c' σ' H', Le F F' → RepE K F' env' σ' → Rep K GI F' c' H' → DD.nx env' c' → Dn.nx σ' H'
  rt : ∀ F' c' H' v d, Le F F' → Rep K GI F' c' H' → DV K F' v d → DD.rt d c' → Dn.rt v H'
  bk : ∀ F' env' c' σ' H', Le F F' → RepE K F' env' σ' → Rep K GI F' c' H' → DD.bk env' c' → Dn.bk σ' H'
  ct : ∀ F' env' c' σ' H', Le F F' → RepE K F' env' σ' → Rep K GI F' c' H' → DD.ct env' c' → Dn.ct σ' H'
  ex : ∀ F' env' c' σ' H' cls od, Le F F' → RepE K F' env' σ' → Rep K GI F' c' H' → DD.ex cls od env' c' → W cls od σ' H'
def lowS (W : WX) (ws : WS) : TS := fun Dn σ H => ∃ F env c DD, RepE K F env σ ∧ Rep K GI F c H ∧ ws DD env c ∧ LS K GI W F DD Dn
end
def CE (GI : Hp → Prop) (X : Cx) (e : Expr) (we : WE) : Prop := ∀ W, XOk X W → PE X e (lowE X.K GI W we)
def CT (GI : Hp → Prop) (X : Cx) (e : Expr) (wt : WT) : Prop := ∀ W, XOk X W → PT X e (lowT X.K GI W wt)
def CA (GI : Hp → Prop) (X : Cx) (es : List Expr) (wa : WA) : Prop := ∀ W, XOk X W → PA X es (lowA X.K GI W wa)
def CS (GI : Hp → Prop) (X : Cx) (st : Stmt) (ws : WS) : Prop := ∀ W, XOk X W → PS X st (lowS X.K GI W ws)
def CSs (GI : Hp → Prop) (X : Cx) (st : List Stmt) (ws : WS) : Prop := ∀ W, XOk X W → PSs X st (lowS X.K GI W ws)

section
variable {K : PySem.W.Frag} {GI : Hp → Prop} {W : WX} {F F' H : Hp} {σ : St} {E : XD} {env : DEnv} {c : CMap}
theorem LX.le (l : Le F F') (h : LX K GI W F σ E) : LX K GI W F' σ E := fun G c' H' cls od l' => h G c' H' cls od (l.trans' l')
theorem LQ.le {Qd : DK} {Q : VK} (l : Le F F') (h : LQ K GI F Qd Q) : LQ K GI F' Qd Q := fun G c' H' v d l' => h G c' H' v d (l.trans' l')
theorem LS.le {DD : DEnds} {Dn : Ends} (l : Le F F') (h : LS K GI W F DD Dn) : LS K GI W F' DD Dn :=
  ⟨fun G e' c' s' H' l' => h.nx G e' c' s' H' (l.trans' l'), fun G c' H' v d l' => h.rt G c' H' v d (l.trans' l'), fun G e' c' s' H' l' => h.bk G e' c' s' H' (l.trans' l'),
    fun G e' c' s' H' l' => h.ct G e' c' s' H' (l.trans' l'), fun G e' c' s' H' cls od l' => h.ex G e' c' s' H' cls od (l.trans' l')⟩
/-- a statement's wish of exceptions, for its expressions -/
abbrev exE (DD : DEnds) (env : DEnv) : XD := fun cls od c' => DD.ex cls od env c'
theorem LS.lx {DD : DEnds} {Dn : Ends} (h : LS K GI W F DD Dn) (e : RepE K F env σ) : LX K GI W F σ (exE DD env) := fun G c' H' cls od l r q => h.ex G env c' σ H' cls od l (e.le l) r q
theorem pe_imp {X : Cx} {e : Expr} {t t' : TE} (h : PE X e t) (k : ∀ σ H Q, t' σ H Q → t σ H Q) : PE X e t' := ⟨fun pins s σ H Q I q => h.run pins s σ H Q I (k _ _ _ q)⟩
theorem pt_imp {X : Cx} {e : Expr} {t t' : TT} (h : PT X e t) (k : ∀ σ H Q, t' σ H Q → t σ H Q) : PT X e t' := ⟨fun pins s σ H Q I q => h.run pins s σ H Q I (k _ _ _ q)⟩
theorem pa_imp {X : Cx} {e : List Expr} {t t' : TA} (h : PA X e t) (k : ∀ σ H Q, t' σ H Q → t σ H Q) : PA X e t' := ⟨fun p pins s σ H Q I q => h.run p pins s σ H Q I (k _ _ _ q)⟩
theorem ps_imp {X : Cx} {e : Stmt} {t t' : TS} (h : PS X e t) (k : ∀ Dn σ H, t' Dn σ H → t Dn σ H) : PS X e t' := ⟨fun pins s σ H Dn I q => h.run pins s σ H Dn I (k _ _ _ q)⟩
theorem pss_imp {X : Cx} {e : List Stmt} {t t' : TS} (h : PSs X e t) (k : ∀ Dn σ H, t' Dn σ H → t Dn σ H) : PSs X e t' := ⟨fun pins s σ H Dn I q => h.run pins s σ H Dn I (k _ _ _ q)⟩
end

/-! ### names, constants -/
def getE : DEnv → Nat → Option D
  | [], _ => none
  | x :: _, 0 => x
  | _ :: r, n + 1 => getE r n
theorem getE_at : ∀ {env : DEnv} {i : Nat} {d : D}, getE env i = some d → env[i]? = some (some d)
  | [], _, _, h => by cases h
  | x :: _, 0, d, h => by simp only [getE] at h; simp [h]
  | _ :: r, n + 1, d, h => by simp only [getE] at h; simpa using getE_at h
def wVar (i : Nat) : WE := fun _ env c Q => ∃ d, getE env i = some d ∧ Q d c
def wC (d : D) : WE := fun _ _ c Q => Q d c
section
variable {GI : Hp → Prop} {X : Cx} {pos : Pos}
theorem ce_var (i : Nat) {x : Str} (hN : X.N[i]? = some x := by rfl) (hv : Vis X.env.scope x := by first | exact Or.inl rfl | exact Or.inr (Or.inl rfl) | exact Or.inr (Or.inr rfl)) (hd : (x == ("__debug__" : Str)) = false := by decide)
    (hcd : (x == ("__classdict__" : Str)) = false := by decide) : CE GI X (.Name x pos) (wVar i) := fun W _ => by
  refine pe_imp (pe_var hN hv hd hcd) ?_
  rintro σ H Q ⟨F, env, c, E, Qd, re, r, lx, ⟨d, h, q⟩, k⟩
  obtain ⟨v, h1, h2⟩ := re.val i d (getE_at h)
  exact ⟨v, h1, k F c H v d Le.rfl' r h2 q⟩
theorem ce_tC {e : Expr} {v : V} {d : D} (h : PE X e (tC v)) (hd : ∀ F, DV X.K F v d) : CE GI X e (wC d) := fun W _ => by
  refine pe_imp h ?_
  rintro σ H Q ⟨F, env, c, E, Qd, re, r, lx, q, k⟩
  exact k F c H v d Le.rfl' r (hd F) q
theorem ce_int {i : Int} {j : Nat} : CE GI X (.Constant (.int i) j pos) (wC (.int i)) := ce_tC pe_int fun _ => .int i
theorem ce_bl {b : Bool} {j : Nat} : CE GI X (.Constant (.bool b) j pos) (wC (.bl b)) := ce_tC pe_bl fun _ => .bl b
theorem ce_non {j : Nat} : CE GI X (.Constant .none j pos) (wC .non) := ce_tC pe_non fun _ => .non
theorem ce_str {x : Str} {j : Nat} : CE GI X (.Constant (.str x) j pos) (wC (.str x)) := ce_tC pe_str fun _ => .str x
/-- a module's constant -/
structure GlD (K : PySem.W.Frag) (mg : Str → Option Value) (x : Str) (d : D) : Prop where
  ex : ∃ v u, mg x = some u ∧ RelV v u ∧ ∀ F, DV K F v d
theorem ce_glob {x : Str} {d : D} (h : GlD X.K X.mg x d) (hg : Gl X x := by rfl) (hd : (x == ("__debug__" : Str)) = false := by decide) : CE GI X (.Name x pos) (wC d) := by
  obtain ⟨v, u, h1, h2, h3⟩ := h.ex
  exact ce_tC (pe_glob hg h1 h2 hd) h3
theorem ce_bty {x : Str} {n : String} (hm : X.mg x = none) (hv : bootBuiltins x = some (.type n) := by decide +kernel) (hg : Gl X x := by rfl) (hn : x ≠ "__name__" := by decide) (hd : (x == ("__debug__" : Str)) = false := by decide) : CE GI X (.Name x pos) (wC (.ty n)) :=
  ce_tC (pe_bltn hg hm hv (v := .ty n) rfl hn hd) fun _ => .ty n
end

/-! ### operators by values -/
abbrev RD2 := CMap → D → D → DK → Prop
def Snd2 (K : PySem.W.Frag) (GI : Hp → Prop) (r : R2) (R : RD2) : Prop := ∀ (F H : Hp) (c : CMap) (v1 v2 : V) (d1 d2 : D) (Qd : DK) (Q : VK), Rep K GI F c H → DV K F v1 d1 → DV K F v2 d2 → R c d1 d2 Qd → LQ K GI F Qd Q → r v1 v2 H Q
def wOp (R : RD2) (a b : WE) : WE := fun E env c Q => a E env c fun d c1 => b E env c1 fun e c2 => R c2 d e Q
section
variable {GI : Hp → Prop} {X : Cx} {pos : Pos} {a b : Expr} {wa wb : WE} {r : R2} {R : RD2}
theorem low_op {W : WX} (s : Snd2 X.K GI r R) : ∀ σ H Q, lowE X.K GI W (wOp R wa wb) σ H Q → tOp r (lowE X.K GI W wa) (lowE X.K GI W wb) σ H Q := by
  rintro σ H Q ⟨F, env, c, E, Qd, re, rp, lx, q, k⟩
  refine ⟨F, env, c, E, _, re, rp, lx, q, ?_⟩
  intro F1 c1 H1 v1 d1 l1 r1 h1 q1
  refine ⟨F1, env, c1, E, _, re.le l1, r1, lx.le l1, q1, ?_⟩
  intro F2 c2 H2 v2 d2 l2 r2 h2 q2
  exact s F2 H2 c2 v1 v2 d1 d2 Qd Q r2 (h1.le l2) h2 q2 (LQ.le (l1.trans' l2) k)
theorem ce_op {op : Operator} (ho : OpR X (binaryOp op) r) (s : Snd2 X.K GI r R) (ha : CE GI X a wa) (hb : CE GI X b wb) : CE GI X (.BinOp a op b pos) (wOp R wa wb) := fun W x =>
  pe_imp (pe_op ho (ha W x) (hb W x)) (low_op s)
theorem ce_cmp {op : CmpOp} (ho : OpR X (compareOp op) r) (s : Snd2 X.K GI r R) (ha : CE GI X a wa) (hb : CE GI X b wb) (hm : behindInMarks op b = false := by first | exact nomark _ | rfl) : CE GI X (.Compare a [op] [b] pos) (wOp R wa wb) := fun W x =>
  pe_imp (pe_cmpR ho (ha W x) (hb W x) hm) (low_op s)
end
/-- a value that is True or False -/
def asB : D → CMap → (Bool → CMap → Prop) → Prop
  | .bl b, c, k => k b c
  | _, _, _ => False
def wTst (a : WE) : WT := fun E env c Q => a E env c fun d c' => asB d c' Q
section
variable {GI : Hp → Prop} {X : Cx} {pos : Pos} {a b : Expr} {wa wb : WE} {r : R2} {R : RD2}
theorem asB_bl {d : D} {c : CMap} {k : Bool → CMap → Prop} (h : asB d c k) : ∃ b, d = .bl b ∧ k b c := by
  cases d <;> first | exact ⟨_, rfl, h⟩ | exact h.elim
theorem low_tst {W : WX} {t : TE} (ht : ∀ σ H Q, lowE X.K GI W wa σ H Q → t σ H Q) : ∀ σ H Q, lowT X.K GI W (wTst wa) σ H Q → (t σ H fun x H' => ∃ k, x = .bl k ∧ Q k H') := by
  rintro σ H Q ⟨F, env, c, E, Qd, re, rp, lx, q, k⟩
  refine ht _ _ _ ⟨F, env, c, E, _, re, rp, lx, q, ?_⟩
  intro F1 c1 H1 v1 d1 l1 r1 h1 q1
  obtain ⟨b, rfl, q2⟩ := asB_bl q1
  cases h1
  exact ⟨b, rfl, k F1 c1 H1 b l1 r1 q2⟩
theorem ct_cmp {op : CmpOp} (ho : OpR X (compareOp op) r) (s : Snd2 X.K GI r R) (ha : CE GI X a wa) (hb : CE GI X b wb) (hm : behindInMarks op b = false := by first | exact nomark _ | rfl) : CT GI X (.Compare a [op] [b] pos) (wTst (wOp R wa wb)) := fun W x =>
  pt_imp (pt_cmpR ho (ha W x) (hb W x) hm) (low_tst (low_op s))
theorem ct_val (ha : CE GI X a wa) (he : ∀ whole, isTrue a X.env whole = (do let v ← whole; standAt a.pos; holding [v] (truthy v)) := by intro _; rfl) : CT GI X a (wTst wa) := fun W x =>
  pt_imp (pt_val (ha W x) he) (low_tst fun _ _ _ h => h)
end
/-! ### and, or, not, if-else -/
def wAnd (s t : WT) : WT := fun E env c Q => s E env c fun b c1 => if b = true then t E env c1 Q else Q false c1
def wOr (s t : WT) : WT := fun E env c Q => s E env c fun b c1 => if b = true then Q true c1 else t E env c1 Q
def wNot (s : WT) : WT := fun E env c Q => s E env c fun b c1 => Q (!b) c1
def wIfE (t : WT) (a b : WE) : WE := fun E env c Q => t E env c fun k c1 => if k = true then a E env c1 Q else b E env c1 Q
def CW (GI : Hp → Prop) (X : Cx) (e : Expr) (wt : WT) : Prop := ∀ W, XOk X W → PW X e (lowT X.K GI W wt)
section
variable {GI : Hp → Prop} {X : Cx} {pos : Pos} {a b e : Expr} {rest : List Expr} {s t : WT} {wa wb : WE}
theorem pw_imp {X : Cx} {e : Expr} {t t' : TT} (h : PW X e t) (k : ∀ σ H Q, t' σ H Q → t σ H Q) : PW X e t' := ⟨fun w pins s σ H Q I q => h.run w pins s σ H Q I (k _ _ _ q)⟩
theorem CW.ct (h : CW GI X e t) : CT GI X e t := fun W x => (h W x).pt
theorem cw_and1 (h : CT GI X a t) : CW GI X (.BoolOp .And [a] pos) t := fun W x => pw_and1 (h W x)
theorem cw_or1 (h : CT GI X a t) : CW GI X (.BoolOp .Or [a] pos) t := fun W x => pw_or1 (h W x)
theorem cw_and (h : CT GI X a s) (h2 : CW GI X (.BoolOp .And (b :: rest) pos) t) : CW GI X (.BoolOp .And (a :: b :: rest) pos) (wAnd s t) := fun W x => by
  refine pw_imp (pw_and (h W x) (h2 W x)) ?_
  rintro σ H Q ⟨F, env, c, E, Qd, re, rp, lx, q, k⟩
  refine ⟨F, env, c, E, _, re, rp, lx, q, ?_⟩
  intro F1 c1 H1 b1 l1 r1 q1
  cases b1 with
  | true => rw [if_pos rfl] at q1 ⊢; exact ⟨F1, env, c1, E, Qd, re.le l1, r1, lx.le l1, q1, fun F2 c2 H2 b2 l2 => k F2 c2 H2 b2 (l1.trans' l2)⟩
  | false => rw [if_neg (by decide)] at q1 ⊢; exact k F1 c1 H1 false l1 r1 q1
theorem cw_or (h : CT GI X a s) (h2 : CW GI X (.BoolOp .Or (b :: rest) pos) t) : CW GI X (.BoolOp .Or (a :: b :: rest) pos) (wOr s t) := fun W x => by
  refine pw_imp (pw_or (h W x) (h2 W x)) ?_
  rintro σ H Q ⟨F, env, c, E, Qd, re, rp, lx, q, k⟩
  refine ⟨F, env, c, E, _, re, rp, lx, q, ?_⟩
  intro F1 c1 H1 b1 l1 r1 q1
  cases b1 with
  | false => rw [if_neg (by decide)] at q1 ⊢; exact ⟨F1, env, c1, E, Qd, re.le l1, r1, lx.le l1, q1, fun F2 c2 H2 b2 l2 => k F2 c2 H2 b2 (l1.trans' l2)⟩
  | true => rw [if_pos rfl] at q1 ⊢; exact k F1 c1 H1 true l1 r1 q1
theorem ct_not (h : CT GI X a s) : CT GI X (.UnaryOp .Not a pos) (wNot s) := fun W x => by
  refine pt_imp (pt_not (h W x)) ?_
  rintro σ H Q ⟨F, env, c, E, Qd, re, rp, lx, q, k⟩
  exact ⟨F, env, c, E, _, re, rp, lx, q, fun F1 c1 H1 b1 l1 r1 q1 => k F1 c1 H1 _ l1 r1 q1⟩
theorem ce_if (h : CT GI X e t) (ha : CE GI X a wa) (hb : CE GI X b wb) : CE GI X (.IfExp e a b pos) (wIfE t wa wb) := fun W x => by
  refine pe_imp (pe_ifExp (h W x) (ha W x) (hb W x)) ?_
  rintro σ H Q ⟨F, env, c, E, Qd, re, rp, lx, q, k⟩
  refine ⟨F, env, c, E, _, re, rp, lx, q, ?_⟩
  intro F1 c1 H1 b1 l1 r1 q1
  cases b1 with
  | true => rw [if_pos rfl] at q1 ⊢; exact ⟨F1, env, c1, E, Qd, re.le l1, r1, lx.le l1, q1, k.le l1⟩
  | false => rw [if_neg (by decide)] at q1 ⊢; exact ⟨F1, env, c1, E, Qd, re.le l1, r1, lx.le l1, q1, k.le l1⟩
/-- .. as values -/
def wAndV (a b : WE) : WE := fun E env c Q => a E env c fun d c1 => asB d c1 fun k c2 => if k = true then b E env c2 Q else Q (.bl false) c2
def wOrV (a b : WE) : WE := fun E env c Q => a E env c fun d c1 => asB d c1 fun k c2 => if k = true then Q (.bl true) c2 else b E env c2 Q
def wNotV (a : WE) : WE := fun E env c Q => a E env c fun d c1 => asB d c1 fun k c2 => Q (.bl (!k)) c2
theorem ce_bone {op : BoolOp} (h : CE GI X a wa) : CE GI X (.BoolOp op [a] pos) wa := fun W x => pe_one (h W x)
theorem ce_and (h : CE GI X a wa) (h2 : CE GI X (.BoolOp .And (b :: rest) pos) wb) : CE GI X (.BoolOp .And (a :: b :: rest) pos) (wAndV wa wb) := fun W x => by
  refine pe_imp (pe_and (h W x) (h2 W x)) ?_
  rintro σ H Q ⟨F, env, c, E, Qd, re, rp, lx, q, k⟩
  refine ⟨F, env, c, E, _, re, rp, lx, q, ?_⟩
  intro F1 c1 H1 v1 d1 l1 r1 h1 q1
  obtain ⟨b, rfl, q2⟩ := asB_bl q1
  cases h1
  refine ⟨b, rfl, ?_⟩
  cases b with
  | true => rw [if_pos rfl] at q2 ⊢; exact ⟨F1, env, c1, E, Qd, re.le l1, r1, lx.le l1, q2, k.le l1⟩
  | false => rw [if_neg (by decide)] at q2 ⊢; exact k F1 c1 H1 _ _ l1 r1 (.bl false) q2
theorem ce_or (h : CE GI X a wa) (h2 : CE GI X (.BoolOp .Or (b :: rest) pos) wb) : CE GI X (.BoolOp .Or (a :: b :: rest) pos) (wOrV wa wb) := fun W x => by
  refine pe_imp (pe_or (h W x) (h2 W x)) ?_
  rintro σ H Q ⟨F, env, c, E, Qd, re, rp, lx, q, k⟩
  refine ⟨F, env, c, E, _, re, rp, lx, q, ?_⟩
  intro F1 c1 H1 v1 d1 l1 r1 h1 q1
  obtain ⟨b, rfl, q2⟩ := asB_bl q1
  cases h1
  refine ⟨b, rfl, ?_⟩
  cases b with
  | false => rw [if_neg (by decide)] at q2 ⊢; exact ⟨F1, env, c1, E, Qd, re.le l1, r1, lx.le l1, q2, k.le l1⟩
  | true => rw [if_pos rfl] at q2 ⊢; exact k F1 c1 H1 _ _ l1 r1 (.bl true) q2
theorem ce_not (h : CE GI X a wa) : CE GI X (.UnaryOp .Not a pos) (wNotV wa) := fun W x => by
  refine pe_imp (pe_not (h W x)) ?_
  rintro σ H Q ⟨F, env, c, E, Qd, re, rp, lx, q, k⟩
  refine ⟨F, env, c, E, _, re, rp, lx, q, ?_⟩
  intro F1 c1 H1 v1 d1 l1 r1 h1 q1
  obtain ⟨b, rfl, q2⟩ := asB_bl q1
  cases h1
  exact ⟨b, rfl, k F1 c1 H1 _ _ l1 r1 (.bl _) q2⟩
end
/-! ### arguments, displays, calls by values -/
def wNil : WA := fun _ _ c Q => Q [] c
def wCons (a : WE) (r : WA) : WA := fun E env c Q => a E env c fun d c1 => r E env c1 fun ds c2 => Q (d :: ds) c2
def newL (m : Bool) (c : CMap) (ds : List D) (Q : DK) : Prop := if m = true then ∀ p, c p = none → Q (.ref p) (updc c p (.lst ds)) else Q (.lst ds) c
def wTup (r : WA) : WE := fun E env c Q => r E env c fun ds c1 => ds.length ≤ sizeLine ∧ Q (.tup ds) c1
def wLst (m : Bool) (r : WA) : WE := fun E env c Q => r E env c fun ds c1 => ds.length ≤ sizeLine ∧ newL m c1 ds Q
theorem newL_snd {K : PySem.W.Frag} {GI : Hp → Prop} {F H : Hp} {c : CMap} {vs : List V} {ds : List D} {m : Bool} {Qd : DK} {Q : VK} (r : Rep K GI F c H) (h : DVs K F vs ds) (q : newL m c ds Qd) (k : LQ K GI F Qd Q) : ∀ p, H p = none → Q (.ref p) (upd H p (.lst vs)) := by
  intro p hp
  unfold newL at q
  cases m with
  | true =>
    rw [if_pos rfl] at q
    exact k F _ _ _ _ Le.rfl' (r.newC (k := .lst ds) hp ⟨vs, rfl, h⟩) (.ref p) (q p (r.frc hp))
  | false =>
    rw [if_neg (by decide)] at q
    have l : Le F (upd F p (.lst vs)) := Le.new (r.fr hp)
    exact k _ _ _ _ _ l (r.newF hp) (.lst upd_same (h.le l)) q
theorem newT_snd {K : PySem.W.Frag} {GI : Hp → Prop} {F H : Hp} {c : CMap} {vs : List V} {ds : List D} {Qd : DK} {Q : VK} (r : Rep K GI F c H) (h : DVs K F vs ds) (q : Qd (.tup ds) c) (k : LQ K GI F Qd Q) : ∀ p, H p = none → Q (.ref p) (upd H p (.tup vs)) := by
  intro p hp
  have l : Le F (upd F p (.tup vs)) := Le.new (r.fr hp)
  exact k _ _ _ _ _ l (r.newF hp) (.tup upd_same (h.le l)) q
section
variable {GI : Hp → Prop} {X : Cx} {pos : Pos} {e : Expr} {es : List Expr} {wa : WE} {wr : WA}
theorem ca_nil : CA GI X [] wNil := fun W x => by
  refine pa_imp pa_nil ?_
  rintro σ H Q ⟨F, env, c, E, Qd, re, rp, lx, q, k⟩
  exact k F c H [] [] Le.rfl' rp .nil q
theorem ca_cons (ha : CE GI X e wa) (hr : CA GI X es wr) (hs : starEach (e :: es) X.env = (false, eval e X.env) :: starEach es X.env := by rfl) : CA GI X (e :: es) (wCons wa wr) := fun W x => by
  refine pa_imp (pa_cons (ha W x) (hr W x) hs) ?_
  rintro σ H Q ⟨F, env, c, E, Qd, re, rp, lx, q, k⟩
  refine ⟨F, env, c, E, _, re, rp, lx, q, ?_⟩
  intro F1 c1 H1 v1 d1 l1 r1 h1 q1
  refine ⟨F1, env, c1, E, _, re.le l1, r1, lx.le l1, q1, ?_⟩
  intro F2 c2 H2 vs ds l2 r2 h2 q2
  exact k F2 c2 H2 _ _ (l1.trans' l2) r2 (.cons (h1.le l2) h2) q2
theorem ce_tup {x1 : Nat} (h : CA GI X es wr) : CE GI X (.Tuple es x1 pos) (wTup wr) := fun W x => by
  refine pe_imp (pe_tup (h W x)) ?_
  rintro σ H Q ⟨F, env, c, E, Qd, re, rp, lx, q, k⟩
  refine ⟨F, env, c, E, _, re, rp, lx, q, ?_⟩
  intro F1 c1 H1 vs ds l1 r1 h1 ⟨q1, q2⟩
  exact ⟨by rw [h1.length]; exact q1, newT_snd r1 h1 q2 (k.le l1)⟩
theorem ce_lst (m : Bool) (h : CA GI X es wr) : CE GI X (.List es pos) (wLst m wr) := fun W x => by
  refine pe_imp (pe_lst (h W x)) ?_
  rintro σ H Q ⟨F, env, c, E, Qd, re, rp, lx, q, k⟩
  refine ⟨F, env, c, E, _, re, rp, lx, q, ?_⟩
  intro F1 c1 H1 vs ds l1 r1 h1 ⟨q1, q2⟩
  exact ⟨by rw [h1.length]; exact q1, newL_snd r1 h1 q2 (k.le l1)⟩
end
abbrev RDn := CMap → List D → DK → Prop
def SndN (K : PySem.W.Frag) (GI : Hp → Prop) (r : List V → Hp → VK → Prop) (R : RDn) : Prop := ∀ (F H : Hp) (c : CMap) (vs : List V) (ds : List D) (Qd : DK) (Q : VK), Rep K GI F c H → DVs K F vs ds → R c ds Qd → LQ K GI F Qd Q → r vs H Q
def wFn (R : RDn) (r : WA) : WE := fun E env c Q => r E env c fun ds c1 => R c1 ds Q
section
variable {GI : Hp → Prop} {X : Cx} {x : Str} {p pos : Pos} {e : Expr} {es : List Expr} {wr : WA} {id T : String} {r : List V → Hp → VK → Prop} {R : RDn}
theorem low_fn {W : WX} (s : SndN X.K GI r R) : ∀ σ H Q, lowE X.K GI W (wFn R wr) σ H Q → tCB r (lowA X.K GI W wr) σ H Q := by
  rintro σ H Q ⟨F, env, c, E, Qd, re, rp, lx, q, k⟩
  refine ⟨F, env, c, E, _, re, rp, lx, q, ?_⟩
  intro F1 c1 H1 vs ds l1 r1 h1 q1
  exact s F1 H1 c1 vs ds Qd Q r1 h1 q1 (k.le l1)
/-- a built-in function -/
theorem ce_bfn (hc : CallR X (.builtin id) r) (s : SndN X.K GI r R) (hm : X.mg x = none) (ha : CA GI X (e :: es) wr) (hv : bootBuiltins x = some (.builtin id) := by decide +kernel) (hg : Gl X x := by rfl) (hn : x ≠ "__name__" := by decide) (hdb : (x == ("__debug__" : Str)) = false := by decide)
    (he : starEach (e :: es) X.env = (false, eval e X.env) :: starEach es X.env := by rfl) (hpl : (backTo pos (starEach es X.env)).any (·.1) = false := by rfl) : CE GI X (.Call (.Name x p) (e :: es) [] pos) (wFn R wr) := fun W xo =>
  pe_imp (pe_callB hc hg hm hv (ha W xo) hn hdb he hpl) (low_fn s)
/-- a built-in type -/
theorem ce_bcl (hc : CallR X (.type T) r) (s : SndN X.K GI r R) (hm : X.mg x = none) (ha : CA GI X (e :: es) wr) (hv : bootBuiltins x = some (.type T) := by decide +kernel) (hg : Gl X x := by rfl) (hn : x ≠ "__name__" := by decide) (hdb : (x == ("__debug__" : Str)) = false := by decide)
    (he : starEach (e :: es) X.env = (false, eval e X.env) :: starEach es X.env := by rfl) (hpl : (backTo pos (starEach es X.env)).any (·.1) = false := by rfl) : CE GI X (.Call (.Name x p) (e :: es) [] pos) (wFn R wr) := fun W xo =>
  pe_imp (pe_callTy hc hg hm hv (ha W xo) hn hdb he hpl) (low_fn s)
end
/-! ### defs of the text -/
abbrev DSpec := List D → CMap → XD → DK → Prop
def lowSp (K : PySem.W.Frag) (GI : Hp → Prop) (sp : DSpec) : Sp := fun vs H Q Ex => ∃ F ds c E Qd, DVs K F vs ds ∧ Rep K GI F c H ∧ sp ds c E Qd ∧ LQ K GI F Qd Q ∧ ∀ F' c' H' cls od, Le F F' → Rep K GI F' c' H' → E cls od c' → Ex cls od H'
/-- a def that keeps its promise -/
structure FnD (GI : Hp → Prop) (P : Program) (w : World) (K : PySem.W.Frag) (mg : Str → Option Value) (base : Heap) (k : Nat) (f : Addr) (n : Nat) (sp : DSpec) : Prop where
  ex : ∃ fd ps, ps.length = n ∧ PySem.W.keepIn K (.ref f) = true ∧ Binds K fd ps [] ∧ FnOk P w K mg base (L2.CX P w) k f fd ps (lowSp K GI sp)
abbrev HasF (GI : Hp → Prop) (X : Cx) (k : Nat) (x : Str) (n : Nat) (sp : DSpec) : Prop := ∃ f, X.mg x = some (.ref f) ∧ FnD GI X.prog X.w X.K X.mg X.base k f n sp
def wCall (sp : DSpec) (r : WA) : WE := fun E env c Q => r E env c fun ds c1 => sp ds c1 E Q
section
variable {GI : Hp → Prop} {X : Cx} {x : Str} {p pos : Pos} {e : Expr} {es : List Expr} {wr : WA} {sp : DSpec} {k n : Nat}
theorem ce_call (h : HasF GI X k x n sp) (hr : Room k X.A) (ha : CA GI X (e :: es) wr) (hg : Gl X x := by rfl) (hdb : (x == ("__debug__" : Str)) = false := by decide)
    (he : starEach (e :: es) X.env = (false, eval e X.env) :: starEach es X.env := by rfl) (hpl : (backTo pos (starEach es X.env)).any (·.1) = false := by rfl) : CE GI X (.Call (.Name x p) (e :: es) [] pos) (wCall sp wr) := fun W xo => by
  obtain ⟨f, hm, ⟨fd, ps, hl, kp, b, F⟩⟩ := h
  refine pe_imp (pe_callS F hr hg hm kp b (fun σ => passAt xo.tk σ) (ha W xo) hdb he hpl) ?_
  rintro σ H Q ⟨F, env, c, E, Qd, re, rp, lx, q, k⟩
  refine ⟨F, env, c, E, _, re, rp, lx, q, ?_⟩
  intro F1 c1 H1 vs ds l1 r1 h1 q1
  exact ⟨F1, ds, c1, E, Qd, h1, r1, q1, k.le l1, lx.le l1⟩
end
end DL
/-! the data layer: operators, subscripts, built-ins by values -/
namespace DL
open PySem PySem.Spec L2
open PyProof.Rows hiding St

/-- a list that is a cell, as its items -/
def resAt : Option Cell → Addr → D
  | some (.lst ds), _ => .lst ds
  | _, p => .ref p
def res (c : CMap) : D → D
  | .ref p => resAt (c p) p
  | d => d
section
variable {K : PySem.W.Frag} {GI : Hp → Prop} {F H : Hp} {c : CMap} {v : V} {d : D}
theorem resAt_cases (o : Option Cell) (p : Addr) : (∃ ds, o = some (.lst ds) ∧ resAt o p = .lst ds) ∨ resAt o p = .ref p := by
  unfold resAt
  split
  · exact .inl ⟨_, rfl, rfl⟩
  · exact .inr rfl
theorem res_oth {d' : D} (e : res c d = d') (h : ∀ ds, d' ≠ .lst ds) : d = d' := by
  cases d with
  | ref p =>
    rcases resAt_cases (c p) p with ⟨ds, _, e2⟩ | e2
    · exact absurd (e.symm.trans e2) (h ds)
    · exact e2.symm.trans e
  | _ => exact e
theorem res_lst (r : Rep K GI F c H) (h : DV K F v d) {ds : List D} (e : res c d = .lst ds) : ∃ a xs, v = .ref a ∧ H a = some (.lst xs) ∧ DVs K F xs ds := by
  cases d with
  | ref p =>
    rcases resAt_cases (c p) p with ⟨es, e1, e2⟩ | e2
    · have q : D.lst es = .lst ds := e2.symm.trans e
      injection q with q
      subst q
      obtain ⟨vs, h1, h2⟩ := r.lst e1
      cases h
      exact ⟨p, vs, rfl, h1, h2⟩
    · have q : D.ref p = .lst ds := e2.symm.trans e
      cases q
  | lst es =>
    have q : D.lst es = .lst ds := e
    injection q with q
    subst q
    cases h with
    | lst h1 h2 => exact ⟨_, _, rfl, r.sub _ _ h1, h2⟩
  | non => have q : D.non = .lst ds := e; cases q
  | bl _ => have q : D.bl _ = .lst ds := e; cases q
  | int _ => have q : D.int _ = .lst ds := e; cases q
  | str _ => have q : D.str _ = .lst ds := e; cases q
  | tup _ => have q : D.tup _ = .lst ds := e; cases q
  | kt _ => have q : D.kt _ = .lst ds := e; cases q
  | scr _ => have q : D.scr _ = .lst ds := e; cases q
  | ty _ => have q : D.ty _ = .lst ds := e; cases q
end
/-- closers for a split over resolved values -/
theorem DV.int_inv {K : PySem.W.Frag} {F : Hp} {v : V} {i : Int} (h : DV K F v (.int i)) : v = .int i := by cases h; rfl
theorem DV.str_inv {K : PySem.W.Frag} {F : Hp} {v : V} {i : Str} (h : DV K F v (.str i)) : v = .str i := by cases h; rfl
theorem DV.bl_inv {K : PySem.W.Frag} {F : Hp} {v : V} {i : Bool} (h : DV K F v (.bl i)) : v = .bl i := by cases h; rfl
theorem DV.non_inv {K : PySem.W.Frag} {F : Hp} {v : V} (h : DV K F v .non) : v = .non := by cases h; rfl
theorem DV.ref_inv {K : PySem.W.Frag} {F : Hp} {v : V} {a : Addr} (h : DV K F v (.ref a)) : v = .ref a := by cases h; rfl
theorem DV.tup_inv {K : PySem.W.Frag} {F : Hp} {v : V} {ds : List D} (h : DV K F v (.tup ds)) : ∃ a xs, v = .ref a ∧ F a = some (.tup xs) ∧ DVs K F xs ds := by
  cases h with
  | tup h1 h2 => exact ⟨_, _, rfl, h1, h2⟩
theorem DV.kt_inv {K : PySem.W.Frag} {F : Hp} {v : V} {ds : List D} (h : DV K F v (.kt ds)) : ∃ a xs, v = .ref a ∧ SqT K F a xs ∧ DVs K F xs ds := by
  cases h with
  | kt h1 h2 => exact ⟨_, _, rfl, h1, h2⟩
theorem DV.scr_inv {K : PySem.W.Frag} {F : Hp} {v : V} {ns : List Int} (h : DV K F v (.scr ns)) : ∃ a, v = .ref a ∧ SqL K F a (ns.map V.int) := by
  cases h with
  | scr h1 => exact ⟨_, rfl, h1⟩

/-! ### arithmetic -/
def addR (m : Bool) : RD2 := fun c d e Q => match res c d, res c e with
  | .int i, .int j => Q (.int (i + j)) c
  | .str x, .str y => x.length + y.length ≤ sizeLine ∧ Q (.str (x ++ y)) c
  | .lst a, .lst b => a.length + b.length ≤ sizeLine ∧ newL m c (a ++ b) Q
  | .tup a, .tup b => a ≠ [] ∧ b ≠ [] ∧ a.length + b.length ≤ sizeLine ∧ Q (.tup (a ++ b)) c
  | _, _ => False
def subR : RD2 := fun c d e Q => match d, e with
  | .int i, .int j => Q (.int (i - j)) c
  | _, _ => False
def mulR (m : Bool) : RD2 := fun c d e Q => match res c d, res c e with
  | .int i, .int j => (CMul i j ∨ CMulW i j) ∧ Q (.int (i * j)) c
  | .lst a, .int k => -(2 ^ 63) ≤ k ∧ k < 2 ^ 63 ∧ a.length * k.toNat ≤ sizeLine ∧ newL m c (List.replicate k.toNat a).flatten Q
  | _, _ => False
def fdivR : RD2 := fun c d e Q => match d, e with
  | .int i, .int j => (CDiv i j ∨ CDivW i j) ∧ Q (.int (i / j)) c
  | _, _ => False
def modR : RD2 := fun c d e Q => match d, e with
  | .int i, .int j => 0 < j ∧ Q (.int (i % j)) c
  | _, _ => False
def powR : RD2 := fun c d e Q => match d, e with
  | .int i, .int j => CPow i j ∧ Q (.int (i ^ j.toNat)) c
  | _, _ => False
def shlR : RD2 := fun c d e Q => match d, e with
  | .int i, .int j => CPow i j ∧ Q (.int (i * 2 ^ j.toNat)) c
  | _, _ => False
def shrR : RD2 := fun c d e Q => match d, e with
  | .int i, .int j => 0 ≤ j ∧ Q (.int (i / 2 ^ j.toNat)) c
  | _, _ => False
def bandR : RD2 := fun c d e Q => match d, e with
  | .int i, .int j => Q (.int (Builtin.bitAnd i j)) c
  | _, _ => False
section
variable {GI : Hp → Prop} {X : Cx} {pos : Pos} {a b : Expr} {wa wb : WE}
def rAddA : R2 := fun x y H Q => (∃ i j, x = .int i ∧ y = .int j ∧ Q (.int (i + j)) H) ∨ (∃ i j, x = .str i ∧ y = .str j ∧ i.length + j.length ≤ sizeLine ∧ Q (.str (i ++ j)) H) ∨ rCat x y H Q ∨ rCatT X.K x y H Q
theorem op_addA : OpR X (binaryOp .Add) (rAddA (X := X)) := op_add.or (op_add_str.or (op_cat.or op_catT))
theorem add_snd (m : Bool) : Snd2 X.K GI (rAddA (X := X)) (addR m) := by
  intro F H c v1 v2 d1 d2 Qd Q r h1 h2 q k
  unfold addR at q
  split at q
  · rename_i e1 e2
    obtain rfl := res_oth e1 (by intro _ z; cases z)
    obtain rfl := res_oth e2 (by intro _ z; cases z)
    exact .inl ⟨_, _, h1.int_inv, h2.int_inv, k F c H _ _ Le.rfl' r (.int _) q⟩
  · rename_i e1 e2
    obtain rfl := res_oth e1 (by intro _ z; cases z)
    obtain rfl := res_oth e2 (by intro _ z; cases z)
    exact .inr (.inl ⟨_, _, h1.str_inv, h2.str_inv, q.1, k F c H _ _ Le.rfl' r (.str _) q.2⟩)
  · rename_i e1 e2
    obtain ⟨a1, xs, rfl, g1, k1⟩ := res_lst r h1 e1
    obtain ⟨a2, ys, rfl, g2, k2⟩ := res_lst r h2 e2
    exact .inr (.inr (.inl ⟨a1, a2, xs, ys, rfl, rfl, g1, g2, by rw [k1.length, k2.length]; exact q.1, newL_snd r (k1.app k2) q.2 k⟩))
  · rename_i e1 e2
    obtain rfl := res_oth e1 (by intro _ z; cases z)
    obtain rfl := res_oth e2 (by intro _ z; cases z)
    obtain ⟨a1, xs, rfl, g1, k1⟩ := h1.tup_inv
    obtain ⟨a2, ys, rfl, g2, k2⟩ := h2.tup_inv
    have n1 : xs ≠ [] := fun z => by subst z; cases k1; exact q.1 rfl
    have n2 : ys ≠ [] := fun z => by subst z; cases k2; exact q.2.1 rfl
    exact .inr (.inr (.inr ⟨a1, a2, xs, ys, rfl, rfl, .inl (.inl (r.sub _ _ g1)), .inl (.inl (r.sub _ _ g2)), n1, by rw [k1.length, k2.length]; exact q.2.2.1, fun z => absurd z n2, fun _ => newT_snd r (k1.app k2) q.2.2.2 k⟩))
  · exact q.elim
theorem ce_add (m : Bool) (ha : CE GI X a wa) (hb : CE GI X b wb) : CE GI X (.BinOp a .Add b pos) (wOp (addR m) wa wb) := ce_op op_addA (add_snd m) ha hb
theorem int2_snd {C : Int → Int → Prop} {g : Int → Int → Int} {R : RD2} (hR : ∀ c d e Q, R c d e Q → ∃ i j, d = .int i ∧ e = .int j ∧ C i j ∧ Q (.int (g i j)) c) : Snd2 X.K GI (rI C fun i j => .int (g i j)) R := by
  intro F H c v1 v2 d1 d2 Qd Q r h1 h2 q k
  obtain ⟨i, j, rfl, rfl, hc, q⟩ := hR _ _ _ _ q
  exact ⟨i, j, h1.int_inv, h2.int_inv, hc, k F c H _ _ Le.rfl' r (.int _) q⟩
theorem ce_sub (ha : CE GI X a wa) (hb : CE GI X b wb) : CE GI X (.BinOp a .Sub b pos) (wOp subR wa wb) := ce_op op_sub (fun F H c v1 v2 d1 d2 Qd Q r h1 h2 q k => by
  unfold subR at q
  split at q
  · exact ⟨_, _, h1.int_inv, h2.int_inv, k F c H _ _ Le.rfl' r (.int _) q⟩
  · exact q.elim) ha hb
theorem ce_mul (m : Bool) (ha : CE GI X a wa) (hb : CE GI X b wb) : CE GI X (.BinOp a .Mult b pos) (wOp (mulR m) wa wb) := ce_op (op_mul.or (op_mulW.or op_rep)) (fun F H c v1 v2 d1 d2 Qd Q r h1 h2 q k => by
  unfold mulR at q
  split at q
  · rename_i e1 e2
    obtain rfl := res_oth e1 (by intro _ z; cases z)
    obtain rfl := res_oth e2 (by intro _ z; cases z)
    rcases q.1 with g | g
    · exact .inl ⟨_, _, h1.int_inv, h2.int_inv, g, k F c H _ _ Le.rfl' r (.int _) q.2⟩
    · exact .inr (.inl ⟨_, _, h1.int_inv, h2.int_inv, g, k F c H _ _ Le.rfl' r (.int _) q.2⟩)
  · rename_i e1 e2
    obtain ⟨a1, xs, rfl, g1, k1⟩ := res_lst r h1 e1
    obtain rfl := res_oth e2 (by intro _ z; cases z)
    exact .inr (.inr ⟨a1, _, xs, rfl, h2.int_inv, g1, q.1, q.2.1, by rw [k1.length]; exact q.2.2.1, newL_snd r (k1.rep _) q.2.2.2 k⟩)
  · exact q.elim) ha hb
theorem ce_fdiv (ha : CE GI X a wa) (hb : CE GI X b wb) : CE GI X (.BinOp a .FloorDiv b pos) (wOp fdivR wa wb) := ce_op (op_fdiv.or op_fdivW) (fun F H c v1 v2 d1 d2 Qd Q r h1 h2 q k => by
  unfold fdivR at q
  split at q
  · rcases q.1 with g | g
    · exact .inl ⟨_, _, h1.int_inv, h2.int_inv, g, k F c H _ _ Le.rfl' r (.int _) q.2⟩
    · exact .inr ⟨_, _, h1.int_inv, h2.int_inv, g, k F c H _ _ Le.rfl' r (.int _) q.2⟩
  · exact q.elim) ha hb
theorem ce_mod (ha : CE GI X a wa) (hb : CE GI X b wb) : CE GI X (.BinOp a .Mod b pos) (wOp modR wa wb) := ce_op op_mod (int2_snd fun c d e Q q => by
  unfold modR at q
  split at q
  · exact ⟨_, _, rfl, rfl, q.1, q.2⟩
  · exact q.elim) ha hb
theorem ce_pow (ha : CE GI X a wa) (hb : CE GI X b wb) : CE GI X (.BinOp a .Pow b pos) (wOp powR wa wb) := ce_op op_pow (int2_snd fun c d e Q q => by
  unfold powR at q
  split at q
  · exact ⟨_, _, rfl, rfl, q.1, q.2⟩
  · exact q.elim) ha hb
theorem ce_shl (ha : CE GI X a wa) (hb : CE GI X b wb) : CE GI X (.BinOp a .LShift b pos) (wOp shlR wa wb) := ce_op op_shl (int2_snd fun c d e Q q => by
  unfold shlR at q
  split at q
  · exact ⟨_, _, rfl, rfl, q.1, q.2⟩
  · exact q.elim) ha hb
theorem ce_shr (ha : CE GI X a wa) (hb : CE GI X b wb) : CE GI X (.BinOp a .RShift b pos) (wOp shrR wa wb) := ce_op op_shr (int2_snd fun c d e Q q => by
  unfold shrR at q
  split at q
  · exact ⟨_, _, rfl, rfl, q.1, q.2⟩
  · exact q.elim) ha hb
theorem ce_band (ha : CE GI X a wa) (hb : CE GI X b wb) : CE GI X (.BinOp a .BitAnd b pos) (wOp bandR wa wb) := ce_op op_and (fun F H c v1 v2 d1 d2 Qd Q r h1 h2 q k => by
  unfold bandR at q
  split at q
  · exact ⟨_, _, h1.int_inv, h2.int_inv, k F c H _ _ Le.rfl' r (.int _) q⟩
  · exact q.elim) ha hb
/-- -a -/
def negR (d : D) (c : CMap) (Q : DK) : Prop := match d with
  | .int i => Q (.int (-i)) c
  | _ => False
def wNeg (a : WE) : WE := fun E env c Q => a E env c fun d c1 => negR d c1 Q
theorem ce_neg (ha : CE GI X a wa) : CE GI X (.UnaryOp .USub a pos) (wNeg wa) := fun W x => by
  refine pe_imp (pe_un un_neg (ha W x)) ?_
  rintro σ H Q ⟨F, env, c, E, Qd, re, rp, lx, q, k⟩
  refine ⟨F, env, c, E, _, re, rp, lx, q, ?_⟩
  intro F1 c1 H1 v1 d1 l1 r1 h1 q1
  unfold negR at q1
  split at q1
  · exact ⟨_, h1.int_inv, k F1 c1 H1 _ _ l1 r1 (.int _) q1⟩
  · exact q1.elim
end

/-! ### comparisons -/
mutual
def toPy : D → PyData
  | .non => .none
  | .bl b => .bool b
  | .int i => .int i
  | .str x => .str x
  | .tup ds => .tuple (toPys ds)
  | .kt ds => .tuple (toPys ds)
  | .lst ds => .list (toPys ds)
  | .scr ns => .list (ns.map .int)
  | .ref _ => .dict []
  | .ty _ => .dict []
def toPys : List D → List PyData
  | [] => []
  | d :: ds => toPy d :: toPys ds
end
mutual
/-- data that == tells apart as it stands: no bools, no refs -/
def okD : D → Bool
  | .non => true
  | .int _ => true
  | .str x => PyData.strOk x
  | .tup ds => okDs ds
  | .lst ds => okDs ds
  | _ => false
def okDs : List D → Bool
  | [] => true
  | d :: ds => okD d && okDs ds
end
mutual
def dep : D → Nat
  | .tup ds => deps ds + 1
  | .lst ds => deps ds + 1
  | _ => 0
def deps : List D → Nat
  | [] => 0
  | d :: ds => max (dep d) (deps ds)
end
def eqOk (d : D) : Prop := okD d = true ∧ dep d ≤ 64
mutual
theorem okD_can : ∀ d : D, okD d = true → (toPy d).canLay0 = true
  | .non, _ => rfl
  | .int _, _ => rfl
  | .str _, h => h
  | .tup ds, h => okDs_can ds h
  | .lst ds, h => okDs_can ds h
  | .bl _, h => by simp [okD] at h
  | .kt _, h => by simp [okD] at h
  | .scr _, h => by simp [okD] at h
  | .ref _, h => by simp [okD] at h
  | .ty _, h => by simp [okD] at h
theorem okDs_can : ∀ ds : List D, okDs ds = true → PyData.canLayAll0 (toPys ds) = true
  | [], _ => rfl
  | d :: ds, h => by
    simp only [okDs, Bool.and_eq_true] at h
    simp only [toPys, PyData.canLayAll0, Bool.and_eq_true]
    exact ⟨okD_can d h.1, okDs_can ds h.2⟩
end
mutual
theorem dep_py : ∀ d : D, okD d = true → (toPy d).depth = dep d
  | .non, _ => rfl
  | .int _, _ => rfl
  | .str _, h => rfl
  | .tup ds, h => by simp only [toPy, PyData.depth, dep, deps_py ds h]
  | .lst ds, h => by simp only [toPy, PyData.depth, dep, deps_py ds h]
  | .bl _, h => by simp [okD] at h
  | .kt _, h => by simp [okD] at h
  | .scr _, h => by simp [okD] at h
  | .ref _, h => by simp [okD] at h
  | .ty _, h => by simp [okD] at h
theorem deps_py : ∀ ds : List D, okDs ds = true → PyData.depthAll (toPys ds) = deps ds
  | [], _ => rfl
  | d :: ds, h => by
    simp only [okDs, Bool.and_eq_true] at h
    simp only [toPys, PyData.depthAll, deps, dep_py d h.1, deps_py ds h.2]
end
mutual
theorem eqv_py : ∀ d e : D, okD d = true → okD e = true → (PyData.eqv (toPy d) (toPy e) = true ↔ d = e)
  | .non, e, _, h => by cases e <;> simp_all [toPy, PyData.eqv, okD]
  | .int _, e, _, h => by cases e <;> simp_all [toPy, PyData.eqv, okD]
  | .str _, e, _, h => by cases e <;> simp_all [toPy, PyData.eqv, okD]
  | .tup ds, .tup es, h, h' => by
    simp only [toPy, PyData.eqv]
    rw [eqvs_py ds es h h']
    exact ⟨fun q => by rw [q], fun q => by injection q⟩
  | .lst ds, .lst es, h, h' => by
    simp only [toPy, PyData.eqv]
    rw [eqvs_py ds es h h']
    exact ⟨fun q => by rw [q], fun q => by injection q⟩
  | .tup ds, .lst es, h, h' => by simp [toPy, PyData.eqv]
  | .lst ds, .tup es, h, h' => by simp [toPy, PyData.eqv]
  | .tup ds, .non, h, h' => by simp [toPy, PyData.eqv]
  | .lst ds, .non, h, h' => by simp [toPy, PyData.eqv]
  | .tup ds, .int _, h, h' => by simp [toPy, PyData.eqv]
  | .lst ds, .int _, h, h' => by simp [toPy, PyData.eqv]
  | .tup ds, .str _, h, h' => by simp [toPy, PyData.eqv]
  | .lst ds, .str _, h, h' => by simp [toPy, PyData.eqv]
  | .bl _, _, h, _ => by simp [okD] at h
  | .kt _, _, h, _ => by simp [okD] at h
  | .scr _, _, h, _ => by simp [okD] at h
  | .ref _, _, h, _ => by simp [okD] at h
  | .ty _, _, h, _ => by simp [okD] at h
  | .tup _, .bl _, _, h => by simp [okD] at h
  | .tup _, .kt _, _, h => by simp [okD] at h
  | .tup _, .scr _, _, h => by simp [okD] at h
  | .tup _, .ref _, _, h => by simp [okD] at h
  | .tup _, .ty _, _, h => by simp [okD] at h
  | .lst _, .bl _, _, h => by simp [okD] at h
  | .lst _, .kt _, _, h => by simp [okD] at h
  | .lst _, .scr _, _, h => by simp [okD] at h
  | .lst _, .ref _, _, h => by simp [okD] at h
  | .lst _, .ty _, _, h => by simp [okD] at h
theorem eqvs_py : ∀ ds es : List D, okDs ds = true → okDs es = true → (PyData.eqvAll (toPys ds) (toPys es) = true ↔ ds = es)
  | [], [], _, _ => by simp [toPys, PyData.eqvAll]
  | [], _ :: _, _, _ => by simp [toPys, PyData.eqvAll]
  | _ :: _, [], _, _ => by simp [toPys, PyData.eqvAll]
  | d :: ds, e :: es, h, h' => by
    simp only [okDs, Bool.and_eq_true] at h h'
    simp only [toPys, PyData.eqvAll, Bool.and_eq_true, eqv_py d e h.1 h'.1, eqvs_py ds es h.2 h'.2, List.cons.injEq]
end
mutual
theorem DV.dp {K : PySem.W.Frag} {F H : Hp} (l : Le F H) : ∀ {v : V} {d : D}, DV K F v d → okD d = true → Dp K H v (toPy d)
  | _, _, .non, _ => .non
  | _, _, .bl b, h => by simp [okD] at h
  | _, _, .int i, _ => .int i
  | _, _, .str x, _ => .str x
  | _, _, .ref _, h => by simp [okD] at h
  | _, _, .ty _, h => by simp [okD] at h
  | _, _, .lst e k, h => .lst (SqL.of (l _ _ e)) (DVs.dp l k h)
  | _, _, .tup e k, h => .tup (SqT.of (l _ _ e)) (DVs.dp l k h)
  | _, _, .kt e k, h => by simp [okD] at h
  | _, _, .scr e, h => by simp [okD] at h
theorem DVs.dp {K : PySem.W.Frag} {F H : Hp} (l : Le F H) : ∀ {v : List V} {d : List D}, DVs K F v d → okDs d = true → DpAll K H v (toPys d)
  | _, _, .nil, _ => .nil
  | _, _, .cons e k, h => by
    simp only [okDs, Bool.and_eq_true] at h
    exact .cons (DV.dp l e h.1) (DVs.dp l k h.2)
end
theorem res_dp {K : PySem.W.Frag} {GI : Hp → Prop} {F H : Hp} {c : CMap} {v : V} {d d' : D} (r : Rep K GI F c H) (h : DV K F v d) (e : res c d = d') (o : okD d' = true) : Dp K H v (toPy d') := by
  by_cases q : ∃ ds, d' = .lst ds
  · obtain ⟨ds, rfl⟩ := q
    obtain ⟨a, xs, rfl, h1, h2⟩ := res_lst r h e
    exact .lst (SqL.of h1) (DVs.dp r.sub h2 o)
  · obtain rfl := res_oth e (fun ds z => q ⟨ds, z⟩)
    exact h.dp r.sub o
theorem shaped_of {d : D} (h : eqOk d) : SeqAt.shaped (toPy d) = true := by
  unfold SeqAt.shaped
  rw [okD_can d h.1, dep_py d h.1]
  simpa using h.2
/-- ==: bools with bools, the rest as data -/
def eqR (neg : Bool) : RD2 := fun c d e Q => match res c d, res c e with
  | .bl a, .bl b => Q (.bl (neg ^^ decide (a = b))) c
  | d', e' => eqOk d' ∧ eqOk e' ∧ Q (.bl (neg ^^ decide (d' = e'))) c
theorem eqv_dec {d e : D} (h : okD d = true) (h' : okD e = true) : PyData.eqv (toPy d) (toPy e) = decide (d = e) := by
  by_cases q : d = e
  · rw [decide_eq_true q]; exact (eqv_py d e h h').mpr q
  · rw [decide_eq_false q]
    cases z : PyData.eqv (toPy d) (toPy e) with
    | true => exact absurd ((eqv_py d e h h').mp z) q
    | false => rfl
def ltR (f : Int → Int → Bool) (g : Str → Str → Bool) : RD2 := fun c d e Q => match d, e with
  | .int i, .int j => Q (.bl (f i j)) c
  | .str i, .str j => Q (.bl (g i j)) c
  | _, _ => False
def flatD : D → Bool
  | .non => true
  | .int _ => true
  | .str _ => true
  | _ => false
def valD {κ : Type} [DecidableEq κ] (kvs : List (κ × D)) (k : κ) : Option D := (kvs.find? fun kv => decide (kv.1 = k)).map (·.2)
def keyD : D → Option Key
  | .int i => some (.inl i)
  | .str x => some (.inr x)
  | _ => none
def keysD : List D → Option (List Key)
  | [] => some []
  | d :: ds => match keyD d, keysD ds with
    | some k, some ks => some (k :: ks)
    | _, _ => none
/-- what a dict holds at a key -/
def dictAt (c : CMap) (p : Addr) (e : D) (k : Option D → Prop) : Prop := match c p with
  | some (.dK kvs) => match keyD e with
    | some x => k (valD kvs x)
    | none => False
  | some (.dT kvs) => match e with
    | .tup es => match keysD es with
      | some x => k (valD kvs x)
      | none => False
    | _ => False
  | _ => False
/-- d in e -/
def inR (neg : Bool) : RD2 := fun c d e Q => match res c e with
  | .lst ds => flatD d = true ∧ ds.all flatD = true ∧ Q (.bl (neg ^^ decide (d ∈ ds))) c
  | .tup ds => flatD d = true ∧ ds.all flatD = true ∧ Q (.bl (neg ^^ decide (d ∈ ds))) c
  | .kt ds => flatD d = true ∧ ds.all flatD = true ∧ Q (.bl (neg ^^ decide (d ∈ ds))) c
  | .str z => match d with
    | .str x => ∃ k, x = ⟨#[k]⟩ ∧ Q (.bl (neg ^^ decide (k ∈ z.cps.toList))) c
    | _ => False
  | .ref p => dictAt c p d fun o => Q (.bl (neg ^^ o.isSome)) c
  | _ => False
theorem keyD_kV {K : PySem.W.Frag} {F : Hp} {v : V} {d : D} {k : Key} (h : DV K F v d) (e : keyD d = some k) : v = kV k := by
  cases d <;> simp only [keyD, Option.some.injEq, reduceCtorEq] at e
  · subst e; exact h.int_inv
  · subst e; exact h.str_inv
theorem keysD_kV {K : PySem.W.Frag} {F : Hp} : ∀ {vs : List V} {ds : List D} {ks : List Key}, DVs K F vs ds → keysD ds = some ks → vs = ks.map kV
  | _, _, _, .nil, e => by simp only [keysD, Option.some.injEq] at e; subst e; rfl
  | _, _, _, .cons (d := d) (ds := ds) h k, e => by
    simp only [keysD] at e
    split at e
    · rename_i k1 ks1 e1 e2
      simp only [Option.some.injEq] at e
      subst e
      rw [List.map_cons, ← keyD_kV h e1, ← keysD_kV k e2]
    · cases e
theorem KD.val {κ : Type} [DecidableEq κ] {K : PySem.W.Frag} {F : Hp} {us : List (κ × V)} {kvs : List (κ × D)} (h : KD K F us kvs) (k : κ) :
    (valV us k = none ∧ valD kvs k = none) ∨ ∃ v d, valV us k = some v ∧ valD kvs k = some d ∧ DV K F v d := by
  induction h with
  | nil => exact .inl ⟨rfl, rfl⟩
  | @cons a b l1 l2 q t ih =>
    by_cases e : a.1 = k
    · refine .inr ⟨a.2, b.2, valV_pos e, ?_, q.2⟩
      simp [valD, List.find?_cons, ← q.1, e]
    · have e2 : ¬ b.1 = k := by rw [← q.1]; exact e
      rw [valV_neg e]
      simpa [valD, List.find?_cons, e2] using ih
theorem dict_snd {K : PySem.W.Frag} {GI : Hp → Prop} {F H : Hp} {c : CMap} {v : V} {d : D} {p : Addr} {k : Option D → Prop} (r : Rep K GI F c H) (h : DV K F v d) (q : dictAt c p d k) :
    ∃ o od, DGet H p v o ∧ k od ∧ ((o = none ∧ od = none) ∨ ∃ x y, o = some x ∧ od = some y ∧ DV K F x y) := by
  unfold dictAt at q
  split at q
  · rename_i kvs e
    obtain ⟨f0, o, h0, us, rfl, h1⟩ := r.cel _ _ e
    split at q
    · rename_i x ex
      obtain rfl := keyD_kV h ex
      refine ⟨_, _, DGet.k h0, q, ?_⟩
      rcases KD.val h1 x with ⟨z1, z2⟩ | ⟨a, b, z1, z2, z3⟩
      · exact .inl ⟨z1, z2⟩
      · exact .inr ⟨a, b, z1, z2, z3⟩
    · exact q.elim
  · rename_i kvs e
    obtain ⟨f0, o, h0, us, rfl, h1⟩ := r.cel _ _ e
    split at q
    · rename_i es
      split at q
      · rename_i x ex
        obtain ⟨b, xs, rfl, g1, g2⟩ := h.tup_inv
        obtain rfl := keysD_kV g2 ex
        refine ⟨_, _, DGet.t h0 (r.sub _ _ g1), q, ?_⟩
        rcases KD.val h1 x with ⟨z1, z2⟩ | ⟨a, b, z1, z2, z3⟩
        · exact .inl ⟨z1, z2⟩
        · exact .inr ⟨a, b, z1, z2, z3⟩
      · exact q.elim
    · exact q.elim
  · exact q.elim
theorem flat_V {K : PySem.W.Frag} {F : Hp} {v : V} {d : D} (h : DV K F v d) (f : flatD d = true) : flatV v = true := by
  cases d <;> simp [flatD] at f
  · rw [h.non_inv]; rfl
  · rw [h.int_inv]; rfl
  · rw [h.str_inv]; rfl
theorem flat_eq {K : PySem.W.Frag} {F : Hp} {v u : V} {d e : D} (h : DV K F v d) (h' : DV K F u e) (f : flatD d = true) (f' : flatD e = true) : eqV v u = decide (d = e) := by
  cases d <;> simp [flatD] at f <;> cases e <;> simp [flatD] at f'
  · rw [h.non_inv, h'.non_inv]; simp [eqV]
  · rw [h.non_inv, h'.int_inv]; simp [eqV]
  · rw [h.non_inv, h'.str_inv]; simp [eqV]
  · rw [h.int_inv, h'.non_inv]; simp [eqV]
  · rw [h.int_inv, h'.int_inv, Bool.eq_iff_iff]; simp [eqV]
  · rw [h.int_inv, h'.str_inv]; simp [eqV]
  · rw [h.str_inv, h'.non_inv]; simp [eqV]
  · rw [h.str_inv, h'.int_inv]; simp [eqV]
  · rw [h.str_inv, h'.str_inv, Bool.eq_iff_iff]; simp [eqV]
theorem flat_all {K : PySem.W.Frag} {F : Hp} : ∀ {vs : List V} {ds : List D}, DVs K F vs ds → ds.all flatD = true → vs.all flatV = true
  | _, _, .nil, _ => rfl
  | _, _, .cons h k, f => by
    simp only [List.all_cons, Bool.and_eq_true] at f ⊢
    exact ⟨flat_V h f.1, flat_all k f.2⟩
theorem flat_in {K : PySem.W.Frag} {F : Hp} {v : V} {d : D} (h : DV K F v d) (f : flatD d = true) : ∀ {vs : List V} {ds : List D}, DVs K F vs ds → ds.all flatD = true → inV v vs = decide (d ∈ ds)
  | _, _, .nil, _ => by simp [inV]
  | _, _, .cons (d := e) (ds := es) h' k, g => by
    simp only [List.all_cons, Bool.and_eq_true] at g
    have ih := flat_in h f k g.2
    unfold inV at ih ⊢
    rw [List.any_cons, ih, flat_eq h' h g.1 f]
    by_cases z : e = d
    · simp [z]
    · have z2 : ¬ d = e := fun q => z q.symm
      simp [z, z2]
section
variable {GI : Hp → Prop} {X : Cx} {pos : Pos} {a b : Expr} {wa wb : WE}
theorem eq_snd : Snd2 X.K GI (fun x y H Q => rEq x y H Q ∨ rEqD X.K x y H Q) (eqR false) := by
  intro F H c v1 v2 d1 d2 Qd Q r h1 h2 q k
  unfold eqR at q
  split at q
  · rename_i e1 e2
    obtain rfl := res_oth e1 (by intro _ z; cases z)
    obtain rfl := res_oth e2 (by intro _ z; cases z)
    rename_i p1 p2
    rw [h1.bl_inv, h2.bl_inv]
    refine .inl ⟨rfl, ?_⟩
    have : decide (V.bl p1 = V.bl p2) = (false ^^ decide (p1 = p2)) := by simp
    rw [this]
    exact k F c H _ _ Le.rfl' r (.bl _) q
  · obtain ⟨o1, o2, q⟩ := q
    refine .inr ⟨_, _, res_dp r h1 rfl o1.1, res_dp r h2 rfl o2.1, shaped_of o1, shaped_of o2, ?_⟩
    rw [eqv_dec o1.1 o2.1]
    rw [Bool.false_xor] at q
    exact k F c H _ _ Le.rfl' r (.bl _) q
theorem ne_snd : Snd2 X.K GI (fun x y H Q => rNe x y H Q ∨ rNeD X.K x y H Q) (eqR true) := by
  intro F H c v1 v2 d1 d2 Qd Q r h1 h2 q k
  unfold eqR at q
  split at q
  · rename_i e1 e2
    obtain rfl := res_oth e1 (by intro _ z; cases z)
    obtain rfl := res_oth e2 (by intro _ z; cases z)
    rename_i p1 p2
    rw [h1.bl_inv, h2.bl_inv]
    refine .inl ⟨rfl, ?_⟩
    have : (!decide (V.bl p1 = V.bl p2)) = (true ^^ decide (p1 = p2)) := by simp
    rw [this]
    exact k F c H _ _ Le.rfl' r (.bl _) q
  · obtain ⟨o1, o2, q⟩ := q
    refine .inr ⟨_, _, res_dp r h1 rfl o1.1, res_dp r h2 rfl o2.1, shaped_of o1, shaped_of o2, ?_⟩
    rw [eqv_dec o1.1 o2.1]
    rw [Bool.true_xor] at q
    exact k F c H _ _ Le.rfl' r (.bl _) q
theorem op_eqA (hu : X.A.units + 64 < cLine) : OpR X (compareOp .Eq) (fun x y H Q => rEq x y H Q ∨ rEqD X.K x y H Q) := op_eq.or (op_eqD hu)
theorem op_neA (hu : X.A.units + 64 < cLine) : OpR X (compareOp .NotEq) (fun x y H Q => rNe x y H Q ∨ rNeD X.K x y H Q) := op_ne.or (op_neD hu)
theorem lt_snd {f : Int → Int → Bool} {g : Str → Str → Bool} : Snd2 X.K GI (fun x y H Q => rI0 (fun i j => .bl (f i j)) x y H Q ∨ ∃ i j, x = .str i ∧ y = .str j ∧ Q (.bl (g i j)) H) (ltR f g) := by
  intro F H c v1 v2 d1 d2 Qd Q r h1 h2 q k
  unfold ltR at q
  split at q
  · exact .inl ⟨_, _, h1.int_inv, h2.int_inv, k F c H _ _ Le.rfl' r (.bl _) q⟩
  · exact .inr ⟨_, _, h1.str_inv, h2.str_inv, k F c H _ _ Le.rfl' r (.bl _) q⟩
  · exact q.elim
abbrev ltA : RD2 := ltR (fun i j => decide (i < j)) (fun i j => decide (i.cps.toList < j.cps.toList))
theorem op_ltA : OpR X (compareOp .Lt) (fun x y H Q => rI0 (fun i j => .bl (decide (i < j))) x y H Q ∨ ∃ i j, x = .str i ∧ y = .str j ∧ Q (.bl (decide (i.cps.toList < j.cps.toList))) H) := op_lt.or op_lt_str
/-- int comparisons alone -/
def ltI (f : Int → Int → Bool) : RD2 := fun c d e Q => match d, e with
  | .int i, .int j => Q (.bl (f i j)) c
  | _, _ => False
theorem ltI_snd {f : Int → Int → Bool} : Snd2 X.K GI (rI0 (fun i j => .bl (f i j))) (ltI f) := by
  intro F H c v1 v2 d1 d2 Qd Q r h1 h2 q k
  unfold ltI at q
  split at q
  · exact ⟨_, _, h1.int_inv, h2.int_inv, k F c H _ _ Le.rfl' r (.bl _) q⟩
  · exact q.elim
abbrev leA : RD2 := ltI fun i j => decide (i ≤ j)
abbrev gtA : RD2 := ltI fun i j => decide (j < i)
abbrev geA : RD2 := ltI fun i j => decide (j ≤ i)
def isNR (neg : Bool) : RD2 := fun c d e Q => match e with
  | .non => Q (.bl (neg ^^ decide (d = .non))) c
  | _ => False
theorem non_iff {K : PySem.W.Frag} {F : Hp} {v : V} {d : D} (h : DV K F v d) : decide (v = .non) = decide (d = .non) := by
  cases h <;> simp
theorem isN_snd : Snd2 X.K GI (fun x y H Q => y = .non ∧ Q (.bl (decide (x = .non))) H) (isNR false) := by
  intro F H c v1 v2 d1 d2 Qd Q r h1 h2 q k
  unfold isNR at q
  split at q
  · refine ⟨h2.non_inv, ?_⟩
    rw [non_iff h1]
    rw [Bool.false_xor] at q
    exact k F c H _ _ Le.rfl' r (.bl _) q
  · exact q.elim
theorem notN_snd : Snd2 X.K GI (fun x y H Q => y = .non ∧ Q (.bl (!decide (x = .non))) H) (isNR true) := by
  intro F H c v1 v2 d1 d2 Qd Q r h1 h2 q k
  unfold isNR at q
  split at q
  · refine ⟨h2.non_inv, ?_⟩
    rw [non_iff h1]
    rw [Bool.true_xor] at q
    exact k F c H _ _ Le.rfl' r (.bl _) q
  · exact q.elim
theorem op_inD (hu : X.A.units + 1 < cLine) : OpR X (compareOp .In) (fun x y H Q => ∃ a o, y = .ref a ∧ DGet H a x o ∧ Q (.bl o.isSome) H) := by
  intro pins s σ H x y v u Q I rx ry h
  obtain ⟨p, o, rfl, g, q⟩ := h
  cases ry
  exact d_in hu I g rx fun s' I' => ⟨.bl o.isSome, H, I', rfl, q⟩
theorem op_notInD (hu : X.A.units + 1 < cLine) : OpR X (compareOp .NotIn) (fun x y H Q => ∃ a o, y = .ref a ∧ DGet H a x o ∧ Q (.bl (!o.isSome)) H) := by
  intro pins s σ H x y v u Q I rx ry h
  obtain ⟨p, o, rfl, g, q⟩ := h
  cases ry
  exact d_notIn hu I g rx fun s' I' => ⟨.bl (!o.isSome), H, I', rfl, q⟩
end
end DL
/-! the data layer: in, subscripts, slices, built-ins -/
namespace DL
open PySem PySem.Spec L2
open PyProof.Rows hiding St

section
variable {GI : Hp → Prop} {X : Cx} {pos : Pos} {a b : Expr} {wa wb : WE}
def rInA (K : PySem.W.Frag) : R2 := fun x y H Q => rIn K false x y H Q ∨ (∃ (c : Nat) (z : Str), x = .str ⟨#[c]⟩ ∧ y = .str z ∧ Q (.bl (decide (c ∈ z.cps.toList))) H) ∨ ∃ a o, y = .ref a ∧ DGet H a x o ∧ Q (.bl o.isSome) H
def rNiA (K : PySem.W.Frag) : R2 := fun x y H Q => rIn K true x y H Q ∨ (∃ (c : Nat) (z : Str), x = .str ⟨#[c]⟩ ∧ y = .str z ∧ Q (.bl (!decide (c ∈ z.cps.toList))) H) ∨ ∃ a o, y = .ref a ∧ DGet H a x o ∧ Q (.bl (!o.isSome)) H
theorem op_inA (hu : X.A.units + 1 < cLine) : OpR X (compareOp .In) (rInA X.K) := op_in_seq.or (op_in_sign.or (op_inD hu))
theorem op_niA (hu : X.A.units + 1 < cLine) : OpR X (compareOp .NotIn) (rNiA X.K) := op_notIn_seq.or (op_notIn_sign.or (op_notInD hu))
theorem in_snd : Snd2 X.K GI (rInA X.K) (inR false) := by
  intro F H c v1 v2 d1 d2 Qd Q r h1 h2 q k
  unfold inR at q
  split at q
  · rename_i e2
    obtain ⟨p, xs, rfl, g1, k1⟩ := res_lst r h2 e2
    refine .inl ⟨p, xs, rfl, .inl (SqL.of g1), flat_V h1 q.1, flat_all k1 q.2.1, ?_⟩
    rw [flat_in h1 q.1 k1 q.2.1]
    have q := q.2.2; rw [Bool.false_xor] at q
    exact k F c H _ _ Le.rfl' r (.bl _) q
  · rename_i e2
    obtain rfl := res_oth e2 (by intro _ z; cases z)
    obtain ⟨p, xs, rfl, g1, k1⟩ := h2.tup_inv
    refine .inl ⟨p, xs, rfl, .inr (SqT.of (r.sub _ _ g1)), flat_V h1 q.1, flat_all k1 q.2.1, ?_⟩
    rw [flat_in h1 q.1 k1 q.2.1]
    have q := q.2.2; rw [Bool.false_xor] at q
    exact k F c H _ _ Le.rfl' r (.bl _) q
  · rename_i e2
    obtain rfl := res_oth e2 (by intro _ z; cases z)
    obtain ⟨p, xs, rfl, g1, k1⟩ := h2.kt_inv
    refine .inl ⟨p, xs, rfl, .inr (sqT_le r.sub g1), flat_V h1 q.1, flat_all k1 q.2.1, ?_⟩
    rw [flat_in h1 q.1 k1 q.2.1]
    have q := q.2.2; rw [Bool.false_xor] at q
    exact k F c H _ _ Le.rfl' r (.bl _) q
  · rename_i e2
    obtain rfl := res_oth e2 (by intro _ z; cases z)
    split at q
    · obtain ⟨n, rfl, q⟩ := q
      rw [Bool.false_xor] at q
      exact .inr (.inl ⟨n, _, h1.str_inv, h2.str_inv, k F c H _ _ Le.rfl' r (.bl _) q⟩)
    · exact q.elim
  · rename_i e2
    obtain rfl := res_oth e2 (by intro _ z; cases z)
    obtain ⟨o, od, g, q, z⟩ := dict_snd r h1 q
    refine .inr (.inr ⟨_, o, h2.ref_inv, g, ?_⟩)
    rw [Bool.false_xor] at q
    rcases z with ⟨rfl, rfl⟩ | ⟨x, y, rfl, rfl, _⟩
    · exact k F c H _ _ Le.rfl' r (.bl _) q
    · exact k F c H _ _ Le.rfl' r (.bl _) q
  · exact q.elim
theorem ni_snd : Snd2 X.K GI (rNiA X.K) (inR true) := by
  intro F H c v1 v2 d1 d2 Qd Q r h1 h2 q k
  unfold inR at q
  split at q
  · rename_i e2
    obtain ⟨p, xs, rfl, g1, k1⟩ := res_lst r h2 e2
    refine .inl ⟨p, xs, rfl, .inl (SqL.of g1), flat_V h1 q.1, flat_all k1 q.2.1, ?_⟩
    rw [flat_in h1 q.1 k1 q.2.1]
    have q := q.2.2; rw [Bool.true_xor] at q
    exact k F c H _ _ Le.rfl' r (.bl _) q
  · rename_i e2
    obtain rfl := res_oth e2 (by intro _ z; cases z)
    obtain ⟨p, xs, rfl, g1, k1⟩ := h2.tup_inv
    refine .inl ⟨p, xs, rfl, .inr (SqT.of (r.sub _ _ g1)), flat_V h1 q.1, flat_all k1 q.2.1, ?_⟩
    rw [flat_in h1 q.1 k1 q.2.1]
    have q := q.2.2; rw [Bool.true_xor] at q
    exact k F c H _ _ Le.rfl' r (.bl _) q
  · rename_i e2
    obtain rfl := res_oth e2 (by intro _ z; cases z)
    obtain ⟨p, xs, rfl, g1, k1⟩ := h2.kt_inv
    refine .inl ⟨p, xs, rfl, .inr (sqT_le r.sub g1), flat_V h1 q.1, flat_all k1 q.2.1, ?_⟩
    rw [flat_in h1 q.1 k1 q.2.1]
    have q := q.2.2; rw [Bool.true_xor] at q
    exact k F c H _ _ Le.rfl' r (.bl _) q
  · rename_i e2
    obtain rfl := res_oth e2 (by intro _ z; cases z)
    split at q
    · obtain ⟨n, rfl, q⟩ := q
      rw [Bool.true_xor] at q
      exact .inr (.inl ⟨n, _, h1.str_inv, h2.str_inv, k F c H _ _ Le.rfl' r (.bl _) q⟩)
    · exact q.elim
  · rename_i e2
    obtain rfl := res_oth e2 (by intro _ z; cases z)
    obtain ⟨o, od, g, q, z⟩ := dict_snd r h1 q
    refine .inr (.inr ⟨_, o, h2.ref_inv, g, ?_⟩)
    rw [Bool.true_xor] at q
    rcases z with ⟨rfl, rfl⟩ | ⟨x, y, rfl, rfl, _⟩
    · exact k F c H _ _ Le.rfl' r (.bl _) q
    · exact k F c H _ _ Le.rfl' r (.bl _) q
  · exact q.elim
end

/-! ### subscripts -/
def idxR : RD2 := fun c d e Q => match res c d, e with
  | .lst ds, .int i => ∃ x, atI ds i = some x ∧ Q x c
  | .tup ds, .int i => ∃ x, atI ds i = some x ∧ Q x c
  | .kt ds, .int i => ∃ x, atI ds i = some x ∧ Q x c
  | .scr ns, .int i => ∃ x, atI ns i = some x ∧ Q (.int x) c
  | .str z, .int i => z.length ≤ sizeLine ∧ ∃ k, atI z.cps.toList i = some k ∧ Q (.str ⟨#[k]⟩) c
  | .ref p, e' => dictAt c p e' fun o => ∃ x, o = some x ∧ Q x c
  | _, _ => False
theorem atI_le {α : Type} {xs : List α} {i : Int} {v : α} (h : atI xs i = some v) : ∃ j, ixN xs.length i = some j ∧ xs[j]? = some v := by
  unfold atI at h
  cases e : ixN xs.length i with
  | none => rw [e] at h; cases h
  | some j => rw [e] at h; exact ⟨j, rfl, h⟩
theorem atI_D {K : PySem.W.Frag} {F : Hp} {vs : List V} {ds : List D} {i : Int} {x : D} (h : DVs K F vs ds) (e : atI ds i = some x) : ∃ v, atI vs i = some v ∧ DV K F v x := by
  obtain ⟨j, e1, e2⟩ := atI_le e
  obtain ⟨v, h1, h2⟩ := h.at j e2
  refine ⟨v, ?_, h2⟩
  unfold atI
  rw [h.length, e1]
  exact h1
theorem atI_map {ns : List Int} {i x : Int} (e : atI ns i = some x) : atI (ns.map V.int) i = some (.int x) := by
  obtain ⟨j, e1, e2⟩ := atI_le e
  unfold atI
  rw [List.length_map, e1]
  show (ns.map V.int)[j]? = _
  rw [List.getElem?_map, e2]; rfl
theorem ix_dict {X : Cx} (hu : X.A.units + 1 < cLine) : IxR X (fun x y H Q => ∃ a v, x = .ref a ∧ DGet H a y (some v) ∧ Q v H) := by
  intro value slice pins s σ H x y v u Q I rx ry h hs
  obtain ⟨a, z, rfl, g, q⟩ := h
  cases rx
  exact tail_any (ops := [.ref a, u]) (dict_typeIs I g) PySem.F.slot_dict_getitem.lookup (d_getItem hu I g ry fun w' s' I' r' => ⟨z, H, I', r', q⟩) hs
section
variable {GI : Hp → Prop} {X : Cx} {pos : Pos} {a b : Expr} {wa wb : WE}
theorem idx_snd : Snd2 X.K GI (fun x y H Q => rIx X.K x y H Q ∨ ∃ a v, x = .ref a ∧ DGet H a y (some v) ∧ Q v H) idxR := by
  intro F H c v1 v2 d1 d2 Qd Q r h1 h2 q k
  unfold idxR at q
  split at q
  · rename_i e1
    obtain ⟨p, xs, rfl, g1, k1⟩ := res_lst r h1 e1
    obtain ⟨x, e, q⟩ := q
    obtain ⟨v, h3, h4⟩ := atI_D k1 e
    exact .inl (.inl ⟨p, xs, _, v, rfl, h2.int_inv, SqL.of g1, h3, k F c H _ _ Le.rfl' r h4 q⟩)
  · rename_i e1
    obtain rfl := res_oth e1 (by intro _ z; cases z)
    obtain ⟨p, xs, rfl, g1, k1⟩ := h1.tup_inv
    obtain ⟨x, e, q⟩ := q
    obtain ⟨v, h3, h4⟩ := atI_D k1 e
    exact .inl (.inr (.inl ⟨p, xs, _, v, rfl, h2.int_inv, SqT.of (r.sub _ _ g1), h3, k F c H _ _ Le.rfl' r h4 q⟩))
  · rename_i e1
    obtain rfl := res_oth e1 (by intro _ z; cases z)
    obtain ⟨p, xs, rfl, g1, k1⟩ := h1.kt_inv
    obtain ⟨x, e, q⟩ := q
    obtain ⟨v, h3, h4⟩ := atI_D k1 e
    exact .inl (.inr (.inl ⟨p, xs, _, v, rfl, h2.int_inv, sqT_le r.sub g1, h3, k F c H _ _ Le.rfl' r h4 q⟩))
  · rename_i e1
    obtain rfl := res_oth e1 (by intro _ z; cases z)
    obtain ⟨p, rfl, g1⟩ := h1.scr_inv
    obtain ⟨x, e, q⟩ := q
    exact .inl (.inl ⟨p, _, _, _, rfl, h2.int_inv, sqL_le r.sub g1, atI_map e, k F c H _ _ Le.rfl' r (.int _) q⟩)
  · rename_i e1
    obtain rfl := res_oth e1 (by intro _ z; cases z)
    obtain ⟨q1, x, e, q⟩ := q
    exact .inl (.inr (.inr ⟨_, _, x, h1.str_inv, h2.int_inv, q1, e, k F c H _ _ Le.rfl' r (.str _) q⟩))
  · rename_i e1
    obtain rfl := res_oth e1 (by intro _ z; cases z)
    obtain ⟨o, od, g, ⟨x, e3, q⟩, z⟩ := dict_snd r h2 q
    rcases z with ⟨rfl, rfl⟩ | ⟨y, y2, rfl, rfl, h3⟩
    · cases e3
    · cases e3
      exact .inr ⟨_, y, h1.ref_inv, g, k F c H _ _ Le.rfl' r h3 q⟩
  · exact q.elim
theorem ce_idx (hr : Room 0 X.A) (ha : CE GI X a wa) (hb : CE GI X b wb) (hs : PlainIx b := by exact fun _ _ => rfl) : CE GI X (.Subscript a b pos) (wOp idxR wa wb) := fun W x =>
  pe_imp (pe_ix (ix_seq.or (ix_dict (hu_of hr))) (ha W x) (hb W x) hs) (low_op idx_snd)
theorem ct_in (hr : Room 0 X.A) (ha : CE GI X a wa) (hb : CE GI X b wb) (hm : behindInMarks .In b = false := by rfl) : CT GI X (.Compare a [.In] [b] pos) (wTst (wOp (inR false) wa wb)) := ct_cmp (op_inA (hu_of hr)) in_snd ha hb hm
theorem ct_ni (hr : Room 0 X.A) (ha : CE GI X a wa) (hb : CE GI X b wb) (hm : behindInMarks .NotIn b = false := by rfl) : CT GI X (.Compare a [.NotIn] [b] pos) (wTst (wOp (inR true) wa wb)) := ct_cmp (op_niA (hu_of hr)) ni_snd ha hb hm
theorem ce_in (hr : Room 0 X.A) (ha : CE GI X a wa) (hb : CE GI X b wb) (hm : behindInMarks .In b = false := by rfl) : CE GI X (.Compare a [.In] [b] pos) (wOp (inR false) wa wb) := ce_cmp (op_inA (hu_of hr)) in_snd ha hb hm
theorem ce_ni (hr : Room 0 X.A) (ha : CE GI X a wa) (hb : CE GI X b wb) (hm : behindInMarks .NotIn b = false := by rfl) : CE GI X (.Compare a [.NotIn] [b] pos) (wOp (inR true) wa wb) := ce_cmp (op_niA (hu_of hr)) ni_snd ha hb hm
theorem ct_eq (hr : Room 0 X.A) (ha : CE GI X a wa) (hb : CE GI X b wb) : CT GI X (.Compare a [.Eq] [b] pos) (wTst (wOp (eqR false) wa wb)) := ct_cmp (op_eqA hr.units) eq_snd ha hb (nomark _)
theorem ct_ne (hr : Room 0 X.A) (ha : CE GI X a wa) (hb : CE GI X b wb) : CT GI X (.Compare a [.NotEq] [b] pos) (wTst (wOp (eqR true) wa wb)) := ct_cmp (op_neA hr.units) ne_snd ha hb (nomark _)
theorem ce_eq (hr : Room 0 X.A) (ha : CE GI X a wa) (hb : CE GI X b wb) : CE GI X (.Compare a [.Eq] [b] pos) (wOp (eqR false) wa wb) := ce_cmp (op_eqA hr.units) eq_snd ha hb (nomark _)
theorem ce_ne (hr : Room 0 X.A) (ha : CE GI X a wa) (hb : CE GI X b wb) : CE GI X (.Compare a [.NotEq] [b] pos) (wOp (eqR true) wa wb) := ce_cmp (op_neA hr.units) ne_snd ha hb (nomark _)
theorem ct_lt (ha : CE GI X a wa) (hb : CE GI X b wb) : CT GI X (.Compare a [.Lt] [b] pos) (wTst (wOp ltA wa wb)) := ct_cmp op_ltA lt_snd ha hb (nomark _)
theorem ce_lt (ha : CE GI X a wa) (hb : CE GI X b wb) : CE GI X (.Compare a [.Lt] [b] pos) (wOp ltA wa wb) := ce_cmp op_ltA lt_snd ha hb (nomark _)
theorem ct_le (ha : CE GI X a wa) (hb : CE GI X b wb) : CT GI X (.Compare a [.LtE] [b] pos) (wTst (wOp leA wa wb)) := ct_cmp op_le ltI_snd ha hb (nomark _)
theorem ce_le (ha : CE GI X a wa) (hb : CE GI X b wb) : CE GI X (.Compare a [.LtE] [b] pos) (wOp leA wa wb) := ce_cmp op_le ltI_snd ha hb (nomark _)
theorem ct_gt (ha : CE GI X a wa) (hb : CE GI X b wb) : CT GI X (.Compare a [.Gt] [b] pos) (wTst (wOp gtA wa wb)) := ct_cmp op_gt ltI_snd ha hb (nomark _)
theorem ce_gt (ha : CE GI X a wa) (hb : CE GI X b wb) : CE GI X (.Compare a [.Gt] [b] pos) (wOp gtA wa wb) := ce_cmp op_gt ltI_snd ha hb (nomark _)
theorem ct_ge (ha : CE GI X a wa) (hb : CE GI X b wb) : CT GI X (.Compare a [.GtE] [b] pos) (wTst (wOp geA wa wb)) := ct_cmp op_ge ltI_snd ha hb (nomark _)
theorem ce_ge (ha : CE GI X a wa) (hb : CE GI X b wb) : CE GI X (.Compare a [.GtE] [b] pos) (wOp geA wa wb) := ce_cmp op_ge ltI_snd ha hb (nomark _)
theorem ct_is (ha : CE GI X a wa) (hb : CE GI X b wb) : CT GI X (.Compare a [.Is] [b] pos) (wTst (wOp (isNR false) wa wb)) := ct_cmp op_isN isN_snd ha hb (nomark _)
theorem ce_is (ha : CE GI X a wa) (hb : CE GI X b wb) : CE GI X (.Compare a [.Is] [b] pos) (wOp (isNR false) wa wb) := ce_cmp op_isN isN_snd ha hb (nomark _)
theorem ct_isnot (ha : CE GI X a wa) (hb : CE GI X b wb) : CT GI X (.Compare a [.IsNot] [b] pos) (wTst (wOp (isNR true) wa wb)) := ct_cmp op_notN notN_snd ha hb (nomark _)
theorem ce_isnot (ha : CE GI X a wa) (hb : CE GI X b wb) : CE GI X (.Compare a [.IsNot] [b] pos) (wOp (isNR true) wa wb) := ce_cmp op_notN notN_snd ha hb (nomark _)
end

/-! ### slices -/
abbrev WO := XD → DEnv → CMap → (Option Int → CMap → Prop) → Prop
def lowO (K : PySem.W.Frag) (GI : Hp → Prop) (W : WX) (wo : WO) : TO := fun σ H Q => ∃ F env c E Qd, RepE K F env σ ∧ Rep K GI F c H ∧ LX K GI W F σ E ∧ wo E env c Qd ∧ ∀ F' c' H' b, Le F F' → Rep K GI F' c' H' → Qd b c' → Q b H'
def CO (GI : Hp → Prop) (X : Cx) (e : Option Expr) (wo : WO) : Prop := ∀ W, XOk X W → PO X e (lowO X.K GI W wo)
def wNo : WO := fun _ _ c Q => Q none c
def asI : D → CMap → (Int → CMap → Prop) → Prop
  | .int i, c, k => k i c
  | _, _, _ => False
theorem asI_int {d : D} {c : CMap} {k : Int → CMap → Prop} (h : asI d c k) : ∃ i, d = .int i ∧ k i c := by
  cases d <;> first | exact ⟨_, rfl, h⟩ | exact h.elim
def wSome (a : WE) : WO := fun E env c Q => a E env c fun d c1 => asI d c1 fun i c2 => Q (some i) c2
def cutG {α : Type} (xs : List α) (lo hi : Option Int) : List α := (xs.drop (HT.sIx xs.length 0 lo)).take (HT.sIx xs.length xs.length hi - HT.sIx xs.length 0 lo)
def sliceR (m : Bool) (c : CMap) (d : D) (lo hi : Option Int) (Q : DK) : Prop := match res c d with
  | .lst ds => newL m c (cutG ds lo hi) Q
  | .scr ns => newL m c ((cutG ns lo hi).map D.int) Q
  | .str z => z.length ≤ sizeLine ∧ Q (.str (cutS z lo hi)) c
  | .tup ds => ¬ (HT.sIx ds.length 0 lo = 0 ∧ HT.sIx ds.length ds.length hi = ds.length) ∧ Q (.tup (cutG ds lo hi)) c
  | _ => False
def wSl (m : Bool) (a : WE) (lo hi : WO) : WE := fun E env c Q => a E env c fun d c1 => lo E env c1 fun l c2 => hi E env c2 fun h c3 => sliceR m c3 d l h Q
theorem po_imp {X : Cx} {e : Option Expr} {t t' : TO} (h : PO X e t) (k : ∀ σ H Q, t' σ H Q → t σ H Q) : PO X e t' := ⟨fun pins s σ H Q I q => h.run pins s σ H Q I (k _ _ _ q)⟩
section
variable {GI : Hp → Prop} {X : Cx} {pos p2 : Pos} {a : Expr} {lo hi : Option Expr} {wa : WE} {wl wh : WO}
theorem co_none : CO GI X none wNo := fun W x => by
  refine po_imp po_none ?_
  rintro σ H Q ⟨F, env, c, E, Qd, re, rp, lx, q, k⟩
  exact k F c H none Le.rfl' rp q
theorem co_some (h : CE GI X a wa) : CO GI X (some a) (wSome wa) := fun W x => by
  refine po_imp (po_some (h W x)) ?_
  rintro σ H Q ⟨F, env, c, E, Qd, re, rp, lx, q, k⟩
  refine ⟨F, env, c, E, _, re, rp, lx, q, ?_⟩
  intro F1 c1 H1 v1 d1 l1 r1 h1 q1
  obtain ⟨i, rfl, q2⟩ := asI_int q1
  exact ⟨i, h1.int_inv, k F1 c1 H1 _ l1 r1 q2⟩
theorem cut_snd {K : PySem.W.Frag} {F : Hp} {vs : List V} {ds : List D} (h : DVs K F vs ds) (l u : Option Int) : DVs K F (cutV vs l u) (cutG ds l u) := by
  unfold cutV cutG
  rw [h.length]
  exact (h.drop _).take _
theorem sl_snd (m : Bool) {F H : Hp} {c : CMap} {v : V} {d : D} {l u : Option Int} {Qd : DK} {Q : VK} (r : Rep X.K GI F c H) (h : DV X.K F v d) (q : sliceR m c d l u Qd) (k : LQ X.K GI F Qd Q) :
    rSlL X.K v l u H Q ∨ rSlT X.K v l u H Q ∨ rSlS v l u H Q := by
  unfold sliceR at q
  split at q
  · rename_i e1
    obtain ⟨p, xs, rfl, g1, k1⟩ := res_lst r h e1
    exact .inl ⟨p, xs, rfl, SqL.of g1, newL_snd r (cut_snd k1 l u) q k⟩
  · rename_i e1
    obtain rfl := res_oth e1 (by intro _ z; cases z)
    obtain ⟨p, rfl, g1⟩ := h.scr_inv
    refine .inl ⟨p, _, rfl, sqL_le r.sub g1, newL_snd r (?_ : DVs X.K F _ _) q k⟩
    rename_i ns
    have e : cutV (ns.map V.int) l u = (cutG ns l u).map V.int := by
      unfold cutV cutG
      rw [List.length_map, List.map_take, List.map_drop]
    rw [e]
    exact DVs.ints
  · rename_i e1
    obtain rfl := res_oth e1 (by intro _ z; cases z)
    exact .inr (.inr ⟨_, h.str_inv, q.1, k F c H _ _ Le.rfl' r (.str _) q.2⟩)
  · rename_i e1
    obtain rfl := res_oth e1 (by intro _ z; cases z)
    obtain ⟨p, xs, rfl, g1, k1⟩ := h.tup_inv
    exact .inr (.inl ⟨p, xs, rfl, SqT.of (r.sub _ _ g1), by rw [k1.length]; exact q.1, newT_snd r (cut_snd k1 l u) q.2 k⟩)
  · exact q.elim
theorem ce_slice (m : Bool) (ha : CE GI X a wa) (hl : CO GI X lo wl) (hh : CO GI X hi wh) : CE GI X (.Subscript a (.Slice lo hi none p2) pos) (wSl m wa wl wh) := fun W x => by
  refine pe_imp (pe_slice (sl_list.or (sl_tup.or sl_str)) (ha W x) (hl W x) (hh W x)) ?_
  rintro σ H Q ⟨F, env, c, E, Qd, re, rp, lx, q, k⟩
  refine ⟨F, env, c, E, _, re, rp, lx, q, ?_⟩
  intro F1 c1 H1 v1 d1 l1 r1 h1 q1
  refine ⟨F1, env, c1, E, _, re.le l1, r1, lx.le l1, q1, ?_⟩
  intro F2 c2 H2 o2 l2 r2 q2
  refine ⟨F2, env, c2, E, _, (re.le l1).le l2, r2, (lx.le l1).le l2, q2, ?_⟩
  intro F3 c3 H3 o3 l3 r3 q3
  exact sl_snd m r3 ((h1.le l2).le l3) q3 (((k.le l1).le l2).le l3)
end

/-! ### built-ins -/
def lenR : RDn := fun c ds Q => match ds with
  | [d] => match res c d with
    | .lst es => Q (.int es.length) c
    | .tup es => Q (.int es.length) c
    | .kt es => Q (.int es.length) c
    | .scr ns => Q (.int ns.length) c
    | .str z => z.length ≤ sizeLine ∧ Q (.int z.length) c
    | _ => False
  | _ => False
theorem DVs.inv1 {K : PySem.W.Frag} {F : Hp} {vs : List V} {d : D} (h : DVs K F vs [d]) : ∃ v, vs = [v] ∧ DV K F v d := by
  cases h with
  | cons h k => cases k; exact ⟨_, rfl, h⟩
theorem DVs.inv2 {K : PySem.W.Frag} {F : Hp} {vs : List V} {d e : D} (h : DVs K F vs [d, e]) : ∃ v u, vs = [v, u] ∧ DV K F v d ∧ DV K F u e := by
  cases h with
  | cons h k =>
    obtain ⟨u, rfl, h2⟩ := k.inv1
    exact ⟨_, u, rfl, h, h2⟩
def intR : RDn := fun c ds Q => match ds with
  | [.int i] => Q (.int i) c
  | [.bl b] => Q (.int (if b then 1 else 0)) c
  | _ => False
def absR : RDn := fun c ds Q => match ds with
  | [.int i] => Q (.int (if i < 0 then -i else i)) c
  | _ => False
def max2R : RDn := fun c ds Q => match ds with
  | [.int i, .int j] => Q (.int (if j > i then j else i)) c
  | _ => False
def min2R : RDn := fun c ds Q => match ds with
  | [.int i, .int j] => Q (.int (if j < i then j else i)) c
  | _ => False
def strR : RDn := fun c ds Q => match ds with
  | [.int i] => i.natAbs.log2 < 1920 ∧ Q (.str (toString i)) c
  | _ => False
def rangeR : RDn := fun c ds Q => match ds with
  | [.int n] => ∀ p, c p = none → Q (.ref p) (updc c p (.raw (.rng 0 n)))
  | [.int a, .int b] => ∀ p, c p = none → Q (.ref p) (updc c p (.raw (.rng a b)))
  | _ => False
def upto (a : Int) (n : Nat) : List Int := (List.range n).map fun (i : Nat) => a + (i : Int)
def listR (m : Bool) : RDn := fun c ds Q => match ds with
  | [d] => match res c d with
    | .lst es => newL m c es Q
    | .tup es => newL m c es Q
    | .kt es => newL m c es Q
    | .scr ns => newL m c (ns.map D.int) Q
    | .ref p => match c p with
      | some (.raw (.rng a b)) => -(2 ^ 62) ≤ a ∧ a < 2 ^ 62 ∧ -(2 ^ 62) ≤ b ∧ b < 2 ^ 62 ∧ (b - a).toNat ≤ 2 ^ 24 ∧ newL m c ((upto a (b - a).toNat).map D.int) Q
      | _ => False
    | _ => False
  | _ => False
def tupleR : RDn := fun c ds Q => match ds with
  | [d] => match res c d with
    | .lst es => Q (.tup es) c
    | .tup es => Q (.tup es) c
    | _ => False
  | _ => False
def blsD : List D → Option (List Bool)
  | [] => some []
  | .bl b :: r => (blsD r).map (b :: ·)
  | _ => none
def allR : RDn := fun c ds Q => match ds with
  | [d] => match res c d with
    | .lst es => ∃ bs, blsD es = some bs ∧ Q (.bl (bs.all id)) c
    | _ => False
  | _ => False
def anyR : RDn := fun c ds Q => match ds with
  | [d] => match res c d with
    | .lst es => ∃ bs, blsD es = some bs ∧ Q (.bl (bs.any id)) c
    | _ => False
  | _ => False
def intsD : List D → Option (List Int)
  | [] => some []
  | .int b :: r => (intsD r).map (b :: ·)
  | _ => none
def sumR : RDn := fun c ds Q => match ds with
  | [d] => match res c d with
    | .lst es => ∃ ns, intsD es = some ns ∧ Q (.int ns.sum) c
    | _ => False
  | _ => False
def maxLR : RDn := fun c ds Q => match ds with
  | [d] => match res c d with
    | .lst es => ∃ ns, intsD es = some ns ∧ 0 < ns.length ∧ ∀ m, m ∈ ns → (∀ y, y ∈ ns → y ≤ m) → Q (.int m) c
    | _ => False
  | _ => False
def minLR : RDn := fun c ds Q => match ds with
  | [d] => match res c d with
    | .lst es => ∃ ns, intsD es = some ns ∧ 0 < ns.length ∧ ∀ m, m ∈ ns → (∀ y, y ∈ ns → m ≤ y) → Q (.int m) c
    | _ => False
  | _ => False
theorem bls_V {K : PySem.W.Frag} {F : Hp} : ∀ {vs : List V} {ds : List D} {bs : List Bool}, DVs K F vs ds → blsD ds = some bs → vs = bs.map V.bl
  | _, _, _, .nil, e => by simp only [blsD, Option.some.injEq] at e; subst e; rfl
  | _, _, _, .cons (d := d) h k, e => by
    cases d <;> simp only [blsD, reduceCtorEq, Option.map_eq_some_iff] at e
    obtain ⟨bs, e1, rfl⟩ := e
    rw [List.map_cons, ← bls_V k e1, h.bl_inv]
theorem ints_V {K : PySem.W.Frag} {F : Hp} : ∀ {vs : List V} {ds : List D} {bs : List Int}, DVs K F vs ds → intsD ds = some bs → vs = bs.map V.int
  | _, _, _, .nil, e => by simp only [intsD, Option.some.injEq] at e; subst e; rfl
  | _, _, _, .cons (d := d) h k, e => by
    cases d <;> simp only [intsD, reduceCtorEq, Option.map_eq_some_iff] at e
    obtain ⟨bs, e1, rfl⟩ := e
    rw [List.map_cons, ← ints_V k e1, h.int_inv]
theorem blsD_map (bs : List Bool) : blsD (bs.map D.bl) = some bs := by
  induction bs with
  | nil => rfl
  | cons b r ih => simp [blsD, ih]
theorem intsD_map (bs : List Int) : intsD (bs.map D.int) = some bs := by
  induction bs with
  | nil => rfl
  | cons b r ih => simp [intsD, ih]
def cellTy : Option Cell → Option String
  | some (.lst _) => some "list"
  | some (.dK _) => some "dict"
  | some (.dT _) => some "dict"
  | _ => none
/-- a value's type's name -/
def tyN (c : CMap) : D → Option String
  | .non => some "NoneType"
  | .bl _ => some "bool"
  | .int _ => some "int"
  | .str _ => some "str"
  | .tup _ => some "tuple"
  | .kt _ => some "tuple"
  | .lst _ => some "list"
  | .scr _ => some "list"
  | .ref p => cellTy (c p)
  | .ty _ => none
def tyNs : List String := ["NoneType", "bool", "int", "str", "tuple", "list", "dict"]
def isiB (t n : String) : Option Bool := if tyNs.contains t && tyNs.contains n then some (t == n || (t == "bool" && n == "int")) else none
theorem isi_kit {K : PySem.W.Frag} {t n : String} {b : Bool} (h : isiB t n = some b) : PySem.W.kitOne K (.type t) (.type n) = some b := by
  unfold isiB at h
  split at h
  · rename_i g
    simp only [tyNs, Bool.and_eq_true, List.contains_eq_mem, List.mem_cons, List.not_mem_nil, or_false, decide_eq_true_eq] at g
    simp only [Option.some.injEq] at h
    subst h
    obtain ⟨g1, g2⟩ := g
    rcases g1 with rfl | rfl | rfl | rfl | rfl | rfl | rfl <;> rcases g2 with rfl | rfl | rfl | rfl | rfl | rfl | rfl <;> rfl
  · cases h
def tysD : List D → Option (List String)
  | [] => some []
  | .ty n :: r => (tysD r).map (n :: ·)
  | _ => none
def isiAny (t : String) : List String → Option Bool
  | [] => some false
  | n :: r => match isiB t n with
    | some true => some true
    | some false => isiAny t r
    | none => none
theorem tysD_cls {K : PySem.W.Frag} {F : Hp} : ∀ {vs : List V} {ds : List D} {ns : List String}, DVs K F vs ds → tysD ds = some ns → Paired ClsV vs (ns.map Value.type)
  | _, _, _, .nil, e => by simp only [tysD, Option.some.injEq] at e; subst e; exact .nil
  | _, _, _, .cons (d := d) h k, e => by
    cases d <;> simp only [tysD, reduceCtorEq, Option.map_eq_some_iff] at e
    obtain ⟨ns, e1, rfl⟩ := e
    cases h
    exact .cons (.ty _) (tysD_cls k e1)
theorem isiAny_kit {K : PySem.W.Frag} {t : String} : ∀ {ns : List String} {b : Bool}, isiAny t ns = some b → PySem.W.kitAny K (.type t) (ns.map Value.type) = some b
  | [], b, e => e
  | n :: r, b, e => by
    simp only [isiAny] at e
    split at e
    · rename_i z
      simp only [Option.some.injEq] at e
      subst e
      exact kitAny_cons (isi_kit z) (fun z => by cases z) fun _ => rfl
    · rename_i z
      exact kitAny_cons (isi_kit z) (fun _ => isiAny_kit e) (fun z => by cases z)
    · cases e
def isiR : RDn := fun c ds Q => match ds with
  | [d, .ty n] => ∃ t b, tyN c d = some t ∧ isiB t n = some b ∧ Q (.bl b) c
  | [d, .tup ts] => ∃ t b ns, tyN c d = some t ∧ tysD ts = some ns ∧ isiAny t ns = some b ∧ Q (.bl b) c
  | _ => False
theorem tyN_snd {K : PySem.W.Frag} {GI : Hp → Prop} {F H : Hp} {c : CMap} {v : V} {d : D} {t : String} (r : Rep K GI F c H) (h : DV K F v d) (e : tyN c d = some t) : TyX K H v (.type t) := by
  cases d with
  | non => cases e; rw [h.non_inv]; exact .base .non
  | bl b => cases e; rw [h.bl_inv]; exact .base (.bl _)
  | int b => cases e; rw [h.int_inv]; exact .base (.int _)
  | str b => cases e; rw [h.str_inv]; exact .base (.str _)
  | tup ds => cases e; obtain ⟨a, xs, rfl, g, _⟩ := h.tup_inv; exact .base (.tup (r.sub _ _ g))
  | kt ds =>
    cases e
    obtain ⟨a, xs, rfl, g, _⟩ := h.kt_inv
    rcases sqT_le r.sub g with (g | ⟨o, g⟩) | ⟨o, its, n, g1, g2, _⟩
    · exact .base (.tup g)
    · exact .fTuple g
    · exact .kTuple g1 g2
  | lst ds => cases e; cases h with | lst g _ => exact .base (.lst (r.sub _ _ g))
  | scr ns =>
    cases e
    obtain ⟨a, rfl, g⟩ := h.scr_inv
    rcases sqL_le r.sub g with (g | ⟨o, g⟩) | ⟨o, its, n, g1, g2, _⟩
    · exact .base (.lst g)
    · exact .base (.frz g)
    · exact .kList g1 g2
  | ref p =>
    rw [h.ref_inv]
    have e : cellTy (c p) = some t := e
    unfold cellTy at e
    split at e
    · rename_i z
      cases e
      obtain ⟨_, o, h0, us, rfl, h1⟩ := r.cel _ _ z
      exact .base (.lst h0)
    · rename_i z
      cases e
      obtain ⟨_, o, h0, us, rfl, h1⟩ := r.cel _ _ z
      exact .base (.dK h0)
    · rename_i z
      cases e
      obtain ⟨_, o, h0, us, rfl, h1⟩ := r.cel _ _ z
      exact .base (.dT h0)
    · cases e
  | ty n => cases e
section
variable {GI : Hp → Prop} {X : Cx} {p pos : Pos} {x : Str} {e : Expr} {es : List Expr} {wr : WA}
theorem len_snd : SndN X.K GI (fun xs H Q => (∃ p ys, xs = [.ref p] ∧ (SqL X.K H p ys ∨ SqT X.K H p ys) ∧ Q (.int ys.length) H) ∨ ∃ z, xs = [.str z] ∧ z.length ≤ sizeLine ∧ Q (.int z.length) H) lenR := by
  intro F H c vs ds Qd Q r h q k
  unfold lenR at q
  split at q
  · obtain ⟨v, rfl, h0⟩ := h.inv1; clear h; have h := h0
    split at q
    · rename_i e1
      obtain ⟨p, xs, rfl, g1, k1⟩ := res_lst r h e1
      exact .inl ⟨p, xs, rfl, .inl (SqL.of g1), k F c H _ _ Le.rfl' r (by rw [k1.length]; exact .int _) q⟩
    · rename_i e1
      obtain rfl := res_oth e1 (by intro _ z; cases z)
      obtain ⟨p, xs, rfl, g1, k1⟩ := h.tup_inv
      exact .inl ⟨p, xs, rfl, .inr (SqT.of (r.sub _ _ g1)), k F c H _ _ Le.rfl' r (by rw [k1.length]; exact .int _) q⟩
    · rename_i e1
      obtain rfl := res_oth e1 (by intro _ z; cases z)
      obtain ⟨p, xs, rfl, g1, k1⟩ := h.kt_inv
      exact .inl ⟨p, xs, rfl, .inr (sqT_le r.sub g1), k F c H _ _ Le.rfl' r (by rw [k1.length]; exact .int _) q⟩
    · rename_i e1
      obtain rfl := res_oth e1 (by intro _ z; cases z)
      obtain ⟨p, rfl, g1⟩ := h.scr_inv
      exact .inl ⟨p, _, rfl, .inl (sqL_le r.sub g1), k F c H _ _ Le.rfl' r (by rw [List.length_map]; exact .int _) q⟩
    · rename_i e1
      obtain rfl := res_oth e1 (by intro _ z; cases z)
      exact .inr ⟨_, by rw [h.str_inv], q.1, k F c H _ _ Le.rfl' r (.int _) q.2⟩
    · exact q.elim
  · exact q.elim
theorem ce_len (hm : X.mg "len" = none) (ha : CA GI X [e] wr) (hg : Gl X "len" := by rfl) (he : starEach [e] X.env = (false, eval e X.env) :: starEach [] X.env := by rfl) (hpl : (backTo pos (starEach [] X.env)).any (·.1) = false := by rfl) :
    CE GI X (.Call (.Name "len" p) [e] [] pos) (wFn lenR wr) := ce_bfn (call_len_seq.or call_len_str) len_snd hm ha (hg := hg) (he := he) (hpl := hpl)
theorem int_snd : SndN X.K GI (fun xs H Q => (∃ i, xs = [.int i] ∧ Q (.int i) H) ∨ ∃ k, xs = [.bl k] ∧ Q (.int (if k then 1 else 0)) H) intR := by
  intro F H c vs ds Qd Q r h q k
  unfold intR at q
  split at q
  · obtain ⟨v, rfl, h0⟩ := h.inv1; clear h; have h := h0
    exact .inl ⟨_, by rw [h.int_inv], k F c H _ _ Le.rfl' r (.int _) q⟩
  · obtain ⟨v, rfl, h0⟩ := h.inv1; clear h; have h := h0
    exact .inr ⟨_, by rw [h.bl_inv], k F c H _ _ Le.rfl' r (.int _) q⟩
  · exact q.elim
theorem ce_intc (hm : X.mg "int" = none) (ha : CA GI X [e] wr) (hg : Gl X "int" := by rfl) (he : starEach [e] X.env = (false, eval e X.env) :: starEach [] X.env := by rfl) (hpl : (backTo pos (starEach [] X.env)).any (·.1) = false := by rfl) :
    CE GI X (.Call (.Name "int" p) [e] [] pos) (wFn intR wr) := ce_bcl call_int1 int_snd hm ha (hg := hg) (he := he) (hpl := hpl)
theorem ce_abs (hm : X.mg "abs" = none) (ha : CA GI X [e] wr) (hg : Gl X "abs" := by rfl) (he : starEach [e] X.env = (false, eval e X.env) :: starEach [] X.env := by rfl) (hpl : (backTo pos (starEach [] X.env)).any (·.1) = false := by rfl) :
    CE GI X (.Call (.Name "abs" p) [e] [] pos) (wFn absR wr) := ce_bfn call_abs (fun F H c vs ds Qd Q r h q k => by
  unfold absR at q
  split at q
  · obtain ⟨v, rfl, h0⟩ := h.inv1; clear h; have h := h0
    exact ⟨_, by rw [h.int_inv], k F c H _ _ Le.rfl' r (.int _) q⟩
  · exact q.elim) hm ha (hg := hg) (he := he) (hpl := hpl)
theorem ce_max2 {f : Expr} (hc : X.calm = true) (hm : X.mg "max" = none) (ha : CA GI X [e, f] wr) (hg : Gl X "max" := by rfl) (he : starEach [e, f] X.env = (false, eval e X.env) :: starEach [f] X.env := by rfl) (hpl : (backTo pos (starEach [f] X.env)).any (·.1) = false := by rfl) :
    CE GI X (.Call (.Name "max" p) [e, f] [] pos) (wFn max2R wr) := ce_bfn (call_max2 hc) (fun F H c vs ds Qd Q r h q k => by
  unfold max2R at q
  split at q
  · obtain ⟨v, u, rfl, h0, h'⟩ := h.inv2; clear h; have h := h0
    exact ⟨_, _, by rw [h.int_inv, h'.int_inv], k F c H _ _ Le.rfl' r (.int _) q⟩
  · exact q.elim) hm ha (hg := hg) (he := he) (hpl := hpl)
theorem ce_min2 {f : Expr} (hc : X.calm = true) (hm : X.mg "min" = none) (ha : CA GI X [e, f] wr) (hg : Gl X "min" := by rfl) (he : starEach [e, f] X.env = (false, eval e X.env) :: starEach [f] X.env := by rfl) (hpl : (backTo pos (starEach [f] X.env)).any (·.1) = false := by rfl) :
    CE GI X (.Call (.Name "min" p) [e, f] [] pos) (wFn min2R wr) := ce_bfn (call_min2 hc) (fun F H c vs ds Qd Q r h q k => by
  unfold min2R at q
  split at q
  · obtain ⟨v, u, rfl, h0, h'⟩ := h.inv2; clear h; have h := h0
    exact ⟨_, _, by rw [h.int_inv, h'.int_inv], k F c H _ _ Le.rfl' r (.int _) q⟩
  · exact q.elim) hm ha (hg := hg) (he := he) (hpl := hpl)
theorem ce_strc (hm : X.mg "str" = none) (ha : CA GI X [e] wr) (hg : Gl X "str" := by rfl) (he : starEach [e] X.env = (false, eval e X.env) :: starEach [] X.env := by rfl) (hpl : (backTo pos (starEach [] X.env)).any (·.1) = false := by rfl) :
    CE GI X (.Call (.Name "str" p) [e] [] pos) (wFn strR wr) := ce_bcl call_str_int (fun F H c vs ds Qd Q r h q k => by
  unfold strR at q
  split at q
  · obtain ⟨v, rfl, h0⟩ := h.inv1; clear h; have h := h0
    exact ⟨_, by rw [h.int_inv], q.1, k F c H _ _ Le.rfl' r (.str _) q.2⟩
  · exact q.elim) hm ha (hg := hg) (he := he) (hpl := hpl)
theorem ce_isi {f : Expr} (hm : X.mg "isinstance" = none) (ha : CA GI X [e, f] wr) (hg : Gl X "isinstance" := by rfl) (he : starEach [e, f] X.env = (false, eval e X.env) :: starEach [f] X.env := by rfl) (hpl : (backTo pos (starEach [f] X.env)).any (·.1) = false := by rfl) :
    CE GI X (.Call (.Name "isinstance" p) [e, f] [] pos) (wFn isiR wr) := ce_bfn (call_isi.or call_isiT) (fun F H c vs ds Qd Q r h q k => by
  unfold isiR at q
  split at q
  · obtain ⟨v, u, rfl, h0, h'⟩ := h.inv2; clear h; have h := h0
    obtain ⟨t, b, e1, e2, q⟩ := q
    cases h'
    exact .inl ⟨v, _, _, _, b, rfl, .ty _, tyN_snd r h e1, isi_kit e2, k F c H _ _ Le.rfl' r (.bl _) q⟩
  · obtain ⟨v, u, rfl, h0, h'⟩ := h.inv2; clear h; have h := h0
    obtain ⟨t, b, ns, e1, e2, e3, q⟩ := q
    obtain ⟨a, xs, rfl, g, kk⟩ := h'.tup_inv
    exact .inr ⟨v, a, xs, _, _, b, rfl, r.sub _ _ g, tysD_cls kk e2, tyN_snd r h e1, isiAny_kit e3, k F c H _ _ Le.rfl' r (.bl _) q⟩
  · exact q.elim) hm ha (hg := hg) (he := he) (hpl := hpl)
/-- range(a), range(a, b) as values -/
theorem call_rng : CallR X (.type "range") (fun vs H Q => (∃ n, vs = [.int n] ∧ ∀ p, H p = none → Q (.ref p) (upd H p (.rng 0 n))) ∨ ∃ a b, vs = [.int a, .int b] ∧ ∀ p, H p = none → Q (.ref p) (upd H p (.rng a b))) := by
  intro pins s σ H xs us Q I r h
  rcases h with ⟨n, rfl, q⟩ | ⟨a, b, rfl, q⟩
  · obtain ⟨u, rfl, t, rfl⟩ := vals1 r
    exact call_range_1 ⟨.ref s.heap.objs.size, _, I.laid (o := .rng 0 n) (fun b o e => Heap.get?_push_of_some _ e) (Nat.le_refl _) ⟨_, _, _, Heap.get?_push_size _ rfl⟩, rfl, q _ (I.hok.fresh (Nat.le_refl _))⟩
  · obtain ⟨u, u', rfl, ⟨t, rfl⟩, t', rfl⟩ := vals2 r
    exact call_range_2 ⟨.ref s.heap.objs.size, _, I.laid (o := .rng a b) (fun b o e => Heap.get?_push_of_some _ e) (Nat.le_refl _) ⟨_, _, _, Heap.get?_push_size _ rfl⟩, rfl, q _ (I.hok.fresh (Nat.le_refl _))⟩
theorem ce_range (hm : X.mg "range" = none) (ha : CA GI X (e :: es) wr) (hg : Gl X "range" := by rfl) (he : starEach (e :: es) X.env = (false, eval e X.env) :: starEach es X.env := by rfl) (hpl : (backTo pos (starEach es X.env)).any (·.1) = false := by rfl) :
    CE GI X (.Call (.Name "range" p) (e :: es) [] pos) (wFn rangeR wr) := ce_bcl call_rng (fun F H c vs ds Qd Q r h q k => by
  unfold rangeR at q
  split at q
  · obtain ⟨v, rfl, h0⟩ := h.inv1; clear h; have h := h0
    refine .inl ⟨_, by rw [h.int_inv], fun p hp => k F _ _ _ _ Le.rfl' (r.newC (k := .raw (.rng 0 _)) hp rfl) (.ref p) (q p (r.frc hp))⟩
  · obtain ⟨v, u, rfl, h0, h'⟩ := h.inv2; clear h; have h := h0
    refine .inr ⟨_, _, by rw [h.int_inv, h'.int_inv], fun p hp => k F _ _ _ _ Le.rfl' (r.newC (k := .raw (.rng _ _)) hp rfl) (.ref p) (q p (r.frc hp))⟩
  · exact q.elim) hm ha (hg := hg) (he := he) (hpl := hpl)
end
end DL
/-! the data layer: more built-ins; statements, loops, comprehensions, defs -/
namespace DL
open PySem PySem.Spec L2
open PyProof.Rows hiding St

theorem vals_of_items {a : Int} : ∀ {n : Nat} {us : List Value}, us.length = n → (∀ (j : Nat) v, us[j]? = some v → ∃ t, v = .int (a + (j : Int)) t) → Vals ((upto a n).map V.int) us := by
  intro n us hl h
  have key : ∀ (k : Nat) (us : List Value), (∀ (j : Nat) v, us[j]? = some v → ∃ t, v = .int (a + ((k + j : Nat) : Int)) t) → Vals ((List.range' k us.length).map fun (i : Nat) => V.int (a + (i : Int))) us := by
    intro k us
    induction us generalizing k with
    | nil => intro _; exact .nil
    | cons u r ih =>
      intro h
      rw [List.length_cons, List.range'_succ, List.map_cons]
      refine .cons ?_ (ih (k + 1) fun j v e => ?_)
      · obtain ⟨t, e⟩ := h 0 u (by simp)
        exact ⟨t, by simpa using e⟩
      · obtain ⟨t, e'⟩ := h (j + 1) v (by simpa using e)
        refine ⟨t, ?_⟩
        rw [e', show k + (j + 1) = k + 1 + j by omega]
  have := key 0 us (fun j v e => by simpa using h j v e)
  unfold upto
  rw [List.range_eq_range', ← hl, List.map_map]
  exact this
section
variable {GI : Hp → Prop} {X : Cx} {p pos : Pos} {x : Str} {e : Expr} {es : List Expr} {wr : WA}
theorem call_list_rng (hc : X.calm = true) : CallR X (.type "list") (fun vs H Q => ∃ p a b, vs = [.ref p] ∧ H p = some (.rng a b) ∧ -(2 ^ 62) ≤ a ∧ a < 2 ^ 62 ∧ -(2 ^ 62) ≤ b ∧ b < 2 ^ 62 ∧ (b - a).toNat ≤ 2 ^ 24 ∧
    ∀ l, H l = none → Q (.ref l) (upd H l (.lst ((upto a (b - a).toNat).map V.int)))) := by
  intro pins s σ H xs us Q I r h
  obtain ⟨p, a, b, rfl, hH, h1, h2, h3, h4, h5, q⟩ := h
  obtain ⟨u, rfl, ru⟩ := vals1 r
  cases (show u = Value.ref p from ru)
  obtain ⟨t, t2, t3, e⟩ := (show ObjOk X.prog X.w H s.heap p (.rng a b) from I.hok p _ hH)
  have hn : Builtin.Range.rangeSize a b 1 = (((b - a).toNat : Nat) : Int) := by rw [rangeSize_one]; split <;> omega
  refine call_list_range (I.ok.hd hc) e (small_one h1 h2 h3 h4) hn h5 fun h' tk acc' c' k hS it => ?_
  have hv : Vals ((upto a (b - a).toNat).map V.int) acc'.toList := vals_of_items (by simpa using it.1) fun j v ev => by
    obtain ⟨t, e⟩ := it.2 j v (by simpa using ev)
    exact ⟨t, by rw [e]; simp⟩
  have hz : ((upto a (b - a).toNat).map V.int).length ≤ sizeLine := by
    rw [hv.length, sizeLine_eq]
    have := it.1
    simp only [Array.length_toList]
    omega
  exact ⟨.ref s.heap.objs.size, _, I.laid (o := .lst ((upto a (b - a).toNat).map V.int)) k (Nat.le_refl _) ⟨hz, acc'.toList, c', hv, by simpa using hS⟩, rfl, q _ (I.hok.fresh (Nat.le_refl _))⟩
theorem list_snd (m : Bool) : SndN X.K GI (fun xs H Q => (∃ p ys, xs = [.ref p] ∧ (SqL X.K H p ys ∨ SqT X.K H p ys) ∧ ∀ l, H l = none → Q (.ref l) (upd H l (.lst ys))) ∨
    (∃ p a b, xs = [.ref p] ∧ H p = some (.rng a b) ∧ -(2 ^ 62) ≤ a ∧ a < 2 ^ 62 ∧ -(2 ^ 62) ≤ b ∧ b < 2 ^ 62 ∧ (b - a).toNat ≤ 2 ^ 24 ∧ ∀ l, H l = none → Q (.ref l) (upd H l (.lst ((upto a (b - a).toNat).map V.int))))) (listR m) := by
  intro F H c vs ds Qd Q r h q k
  unfold listR at q
  split at q
  · obtain ⟨v, rfl, h0⟩ := h.inv1; clear h; have h := h0
    split at q
    · rename_i e1
      obtain ⟨p, xs, rfl, g1, k1⟩ := res_lst r h e1
      exact .inl ⟨p, xs, rfl, .inl (SqL.of g1), newL_snd r k1 q k⟩
    · rename_i e1
      obtain rfl := res_oth e1 (by intro _ z; cases z)
      obtain ⟨p, xs, rfl, g1, k1⟩ := h.tup_inv
      exact .inl ⟨p, xs, rfl, .inr (SqT.of (r.sub _ _ g1)), newL_snd r k1 q k⟩
    · rename_i e1
      obtain rfl := res_oth e1 (by intro _ z; cases z)
      obtain ⟨p, xs, rfl, g1, k1⟩ := h.kt_inv
      exact .inl ⟨p, xs, rfl, .inr (sqT_le r.sub g1), newL_snd r k1 q k⟩
    · rename_i e1
      obtain rfl := res_oth e1 (by intro _ z; cases z)
      obtain ⟨p, rfl, g1⟩ := h.scr_inv
      exact .inl ⟨p, _, rfl, .inl (sqL_le r.sub g1), newL_snd r DVs.ints q k⟩
    · rename_i e1
      obtain rfl := res_oth e1 (by intro _ z; cases z)
      split at q
      · rename_i z
        obtain ⟨_, o, h0, rfl⟩ := r.cel _ _ z
        exact .inr ⟨_, _, _, by rw [h.ref_inv], h0, q.1, q.2.1, q.2.2.1, q.2.2.2.1, q.2.2.2.2.1, newL_snd r DVs.ints q.2.2.2.2.2 k⟩
      · exact q.elim
    · exact q.elim
  · exact q.elim
theorem ce_listc (m : Bool) (hc : X.calm = true) (hm : X.mg "list" = none) (ha : CA GI X [e] wr) (hg : Gl X "list" := by rfl) (he : starEach [e] X.env = (false, eval e X.env) :: starEach [] X.env := by rfl) (hpl : (backTo pos (starEach [] X.env)).any (·.1) = false := by rfl) :
    CE GI X (.Call (.Name "list" p) [e] [] pos) (wFn (listR m) wr) := ce_bcl (call_list_of.or (call_list_rng hc)) (list_snd m) hm ha (hg := hg) (he := he) (hpl := hpl)
theorem ce_tuplec (hm : X.mg "tuple" = none) (ha : CA GI X [e] wr) (hg : Gl X "tuple" := by rfl) (he : starEach [e] X.env = (false, eval e X.env) :: starEach [] X.env := by rfl) (hpl : (backTo pos (starEach [] X.env)).any (·.1) = false := by rfl) :
    CE GI X (.Call (.Name "tuple" p) [e] [] pos) (wFn tupleR wr) := ce_bcl call_tuple_of (fun F H c vs ds Qd Q r h q k => by
  unfold tupleR at q
  split at q
  · obtain ⟨v, rfl, h0⟩ := h.inv1; clear h; have h := h0
    split at q
    · rename_i e1
      obtain ⟨p, xs, rfl, g1, k1⟩ := res_lst r h e1
      exact ⟨p, xs, rfl, .inl ⟨SqL.of g1, newT_snd r k1 q k⟩⟩
    · rename_i e1
      obtain rfl := res_oth e1 (by intro _ z; cases z)
      obtain ⟨p, xs, rfl, g1, k1⟩ := h.tup_inv
      exact ⟨p, xs, rfl, .inr ⟨SqT.of (r.sub _ _ g1), k F c H _ _ Le.rfl' r (.tup g1 k1) q⟩⟩
    · exact q.elim
  · exact q.elim) hm ha (hg := hg) (he := he) (hpl := hpl)
theorem lst1_snd {r : List V → Hp → VK → Prop} {R : CMap → List D → DK → Prop} (hR : ∀ F H c a vs es Qd Q, Rep X.K GI F c H → SqL X.K H a vs → DVs X.K F vs es → R c es Qd → LQ X.K GI F Qd Q → r [.ref a] H Q) :
    SndN X.K GI r (fun c ds Q => match ds with
      | [d] => match res c d with
        | .lst es => R c es Q
        | _ => False
      | _ => False) := by
  intro F H c vs ds Qd Q rp h q k
  split at q
  · obtain ⟨v, rfl, h0⟩ := h.inv1; clear h; have h := h0
    split at q
    · rename_i e1
      obtain ⟨p, xs, rfl, g1, k1⟩ := res_lst rp h e1
      exact hR F H c p xs _ Qd Q rp (SqL.of g1) k1 q k
    · exact q.elim
  · exact q.elim
theorem ce_all (hc : X.calm = true) (hm : X.mg "all" = none) (ha : CA GI X [e] wr) (hg : Gl X "all" := by rfl) (he : starEach [e] X.env = (false, eval e X.env) :: starEach [] X.env := by rfl) (hpl : (backTo pos (starEach [] X.env)).any (·.1) = false := by rfl) :
    CE GI X (.Call (.Name "all" p) [e] [] pos) (wFn allR wr) := ce_bfn (cr_all hc) (lst1_snd (R := fun c es Q => ∃ bs, blsD es = some bs ∧ Q (.bl (bs.all id)) c) fun F H c a vs es Qd Q r s h q k => by
  obtain ⟨bs, e, q⟩ := q
  obtain rfl := bls_V h e
  exact ⟨a, bs, rfl, s, k F c H _ _ Le.rfl' r (.bl _) q⟩) hm ha (hg := hg) (he := he) (hpl := hpl)
theorem ce_any (hc : X.calm = true) (hm : X.mg "any" = none) (ha : CA GI X [e] wr) (hg : Gl X "any" := by rfl) (he : starEach [e] X.env = (false, eval e X.env) :: starEach [] X.env := by rfl) (hpl : (backTo pos (starEach [] X.env)).any (·.1) = false := by rfl) :
    CE GI X (.Call (.Name "any" p) [e] [] pos) (wFn anyR wr) := ce_bfn (cr_any hc) (lst1_snd (R := fun c es Q => ∃ bs, blsD es = some bs ∧ Q (.bl (bs.any id)) c) fun F H c a vs es Qd Q r s h q k => by
  obtain ⟨bs, e, q⟩ := q
  obtain rfl := bls_V h e
  exact ⟨a, bs, rfl, s, k F c H _ _ Le.rfl' r (.bl _) q⟩) hm ha (hg := hg) (he := he) (hpl := hpl)
theorem ce_sum (hc : X.calm = true) (hm : X.mg "sum" = none) (ha : CA GI X [e] wr) (hg : Gl X "sum" := by rfl) (he : starEach [e] X.env = (false, eval e X.env) :: starEach [] X.env := by rfl) (hpl : (backTo pos (starEach [] X.env)).any (·.1) = false := by rfl) :
    CE GI X (.Call (.Name "sum" p) [e] [] pos) (wFn sumR wr) := ce_bfn (cr_sum hc) (lst1_snd (R := fun c es Q => ∃ ns, intsD es = some ns ∧ Q (.int ns.sum) c) fun F H c a vs es Qd Q r s h q k => by
  obtain ⟨bs, e, q⟩ := q
  obtain rfl := ints_V h e
  exact ⟨a, bs, rfl, s, k F c H _ _ Le.rfl' r (.int _) q⟩) hm ha (hg := hg) (he := he) (hpl := hpl)
theorem ce_maxL (hc : X.calm = true) (hm : X.mg "max" = none) (ha : CA GI X [e] wr) (hg : Gl X "max" := by rfl) (he : starEach [e] X.env = (false, eval e X.env) :: starEach [] X.env := by rfl) (hpl : (backTo pos (starEach [] X.env)).any (·.1) = false := by rfl) :
    CE GI X (.Call (.Name "max" p) [e] [] pos) (wFn maxLR wr) := ce_bfn (cr_max hc) (lst1_snd (R := fun c es Q => ∃ ns, intsD es = some ns ∧ 0 < ns.length ∧ ∀ m, m ∈ ns → (∀ y, y ∈ ns → y ≤ m) → Q (.int m) c) fun F H c a vs es Qd Q r s h q k => by
  obtain ⟨bs, e, q0, q⟩ := q
  obtain rfl := ints_V h e
  exact ⟨a, bs, rfl, s, q0, fun m hm1 hm2 => k F c H _ _ Le.rfl' r (.int _) (q m hm1 hm2)⟩) hm ha (hg := hg) (he := he) (hpl := hpl)
theorem ce_minL (hc : X.calm = true) (hm : X.mg "min" = none) (ha : CA GI X [e] wr) (hg : Gl X "min" := by rfl) (he : starEach [e] X.env = (false, eval e X.env) :: starEach [] X.env := by rfl) (hpl : (backTo pos (starEach [] X.env)).any (·.1) = false := by rfl) :
    CE GI X (.Call (.Name "min" p) [e] [] pos) (wFn minLR wr) := ce_bfn (cr_min hc) (lst1_snd (R := fun c es Q => ∃ ns, intsD es = some ns ∧ 0 < ns.length ∧ ∀ m, m ∈ ns → (∀ y, y ∈ ns → m ≤ y) → Q (.int m) c) fun F H c a vs es Qd Q r s h q k => by
  obtain ⟨bs, e, q0, q⟩ := q
  obtain rfl := ints_V h e
  exact ⟨a, bs, rfl, s, q0, fun m hm1 hm2 => k F c H _ _ Le.rfl' r (.int _) (q m hm1 hm2)⟩) hm ha (hg := hg) (he := he) (hpl := hpl)
end
/-! ### sorted -/
def strsD : List D → Option (List Str)
  | [] => some []
  | .str b :: r => (strsD r).map (b :: ·)
  | _ => none
theorem strs_V2 {K : PySem.W.Frag} {F : Hp} : ∀ {vs : List V} {ds : List D} {bs : List Str}, DVs K F vs ds → strsD ds = some bs → vs = bs.map V.str
  | _, _, _, .nil, e => by simp only [strsD, Option.some.injEq] at e; subst e; rfl
  | _, _, _, .cons (d := d) h k, e => by
    cases d <;> simp only [strsD, reduceCtorEq, Option.map_eq_some_iff] at e
    obtain ⟨bs, e1, rfl⟩ := e
    rw [List.map_cons, ← strs_V2 k e1, h.str_inv]
theorem strsD_map (bs : List Str) : strsD (bs.map D.str) = some bs := by
  induction bs with
  | nil => rfl
  | cons b r ih => simp [strsD, ih]
theorem DVs.strs {K : PySem.W.Frag} {F : Hp} : ∀ {ns : List Str}, DVs K F (ns.map V.str) (ns.map D.str)
  | [] => .nil
  | n :: r => .cons (.str n) DVs.strs
def sortR (m : Bool) : RDn := fun c ds Q => match ds with
  | [d] => match res c d with
    | .lst es => (∃ ns, intsD es = some ns ∧ ∀ ns' : List Int, ns'.Perm ns → ns'.Pairwise (· ≤ ·) → newL m c (ns'.map D.int) Q) ∨ ∃ ss, strsD es = some ss ∧ ss.length < 64 ∧ ∀ ys : List Str, ys.Perm ss → PyProof.Rows.sortedS ys = true → newL m c (ys.map D.str) Q
    | _ => False
  | _ => False
theorem ce_sorted {GI : Hp → Prop} {X : Cx} {p pos : Pos} {e : Expr} {wr : WA} (m : Bool) (hm : X.mg "sorted" = none) (ha : CA GI X [e] wr) (hg : Gl X "sorted" := by rfl) (he : starEach [e] X.env = (false, eval e X.env) :: starEach [] X.env := by rfl) (hpl : (backTo pos (starEach [] X.env)).any (·.1) = false := by rfl) :
    CE GI X (.Call (.Name "sorted" p) [e] [] pos) (wFn (sortR m) wr) := ce_bfn (cr_sortedI.or cr_sortedS) (lst1_snd (R := fun c es Q => (∃ ns, intsD es = some ns ∧ ∀ ns' : List Int, ns'.Perm ns → ns'.Pairwise (· ≤ ·) → newL m c (ns'.map D.int) Q) ∨ ∃ ss, strsD es = some ss ∧ ss.length < 64 ∧ ∀ ys : List Str, ys.Perm ss → PyProof.Rows.sortedS ys = true → newL m c (ys.map D.str) Q) fun F H c a vs es Qd Q r s h q k => by
  rcases q with ⟨ns, e, q⟩ | ⟨ss, e, hl, q⟩
  · obtain rfl := ints_V h e
    exact .inl ⟨a, ns, rfl, s, fun ns' p g1 g2 hp => newL_snd r DVs.ints (q ns' g1 g2) k p hp⟩
  · obtain rfl := strs_V2 h e
    exact .inr ⟨a, ss, rfl, s, hl, fun ys p g1 g2 hp => newL_snd r DVs.strs (q ys g1 g2) k p hp⟩) hm ha (hg := hg) (he := he) (hpl := hpl)
/-- a cell's list laid by for ever -/
def frzR (d : D) (c1 : CMap) (Q : DK) : Prop := ∃ p ds, d = .ref p ∧ c1 p = some (.lst ds) ∧ Q (.lst ds) (delc c1 p)
def wFrz (a : WE) : WE := fun E env c Q => a E env c fun d c1 => frzR d c1 Q
theorem ce_frz {GI : Hp → Prop} {X : Cx} {e : Expr} {wa : WE} (h : CE GI X e wa) : CE GI X e (wFrz wa) := fun W x => by
  refine pe_imp (h W x) ?_
  rintro σ H Q ⟨F, env, c, E, Qd, re, rp, lx, q, k⟩
  refine ⟨F, env, c, E, _, re, rp, lx, q, ?_⟩
  rintro F1 c1 H1 v1 d1 l1 r1 h1 ⟨p, ds, rfl, e1, q1⟩
  obtain ⟨F2, l2, r2, h2⟩ := r1.frz e1
  rw [h1.ref_inv]
  exact k F2 _ H1 _ _ (l1.trans' l2) r2 h2 q1

/-- cells that nobody asks for any more may be left out -/
def wkQ (Q : DK) : DK := fun d c' => ∃ c2, SubC c2 c' ∧ Q d c2
def wWk (a : WE) : WE := fun E env c Q => a E env c (wkQ Q)
theorem ce_wk {GI : Hp → Prop} {X : Cx} {e : Expr} {wa : WE} (h : CE GI X e wa) : CE GI X e (wWk wa) := fun W x => by
  refine pe_imp (h W x) ?_
  rintro σ H Q ⟨F, env, c, E, Qd, re, rp, lx, q, k⟩
  refine ⟨F, env, c, E, _, re, rp, lx, q, ?_⟩
  rintro F1 c1 H1 v1 d1 l1 r1 h1 ⟨c2, s2, q1⟩
  exact k F1 c2 H1 _ _ l1 (r1.sub' s2) h1 q1

/-! ### statements -/
def wSeq (a b : WS) : WS := fun DD env c => a { DD with nx := fun env' c' => b DD env' c' } env c
def wSkip : WS := fun DD env c => DD.nx env c
def wBrk : WS := fun DD env c => DD.bk env c
def wCnt : WS := fun DD env c => DD.ct env c
def wDrop (a : WE) : WS := fun DD env c => a (exE DD env) env c fun _ c1 => DD.nx env c1
def wRet (a : WE) : WS := fun DD env c => a (exE DD env) env c DD.rt
def wRetN : WS := fun DD _ c => DD.rt .non c
def wIf (t : WT) (a b : WS) : WS := fun DD env c => t (exE DD env) env c fun k c1 => if k = true then a DD env c1 else b DD env c1
def wAsg (i : Nat) (a : WE) : WS := fun DD env c => a (exE DD env) env c fun d c1 => DD.nx (env.set i (some d)) c1
section
variable {GI : Hp → Prop} {X : Cx} {st : Stmt} {rest sa sb : List Stmt} {ws ws2 : WS} {e : Expr} {wa : WE} {wt : WT} {pos : Pos}
theorem css_nil : CSs GI X [] wSkip := fun W x => by
  refine pss_imp pss_nil ?_
  rintro Dn σ H ⟨F, env, c, DD, re, r, q, l⟩
  exact l.nx F env c σ H Le.rfl' re r q
theorem css_cons (h : CS GI X st ws) (h2 : CSs GI X rest ws2) : CSs GI X (st :: rest) (wSeq ws ws2) := fun W x => by
  refine pss_imp (pss_cons (h W x) (h2 W x)) ?_
  rintro Dn σ H ⟨F, env, c, DD, re, r, q, l⟩
  refine ⟨F, env, c, _, re, r, q, ⟨fun F1 env1 c1 σ1 H1 l1 re1 r1 q1 => ?_, l.rt, l.bk, l.ct, l.ex⟩⟩
  exact ⟨F1, env1, c1, DD, re1, r1, q1, l.le l1⟩
theorem css_one (h : CS GI X st ws) : CSs GI X [st] ws := fun W x => pss_one (h W x)
theorem cs_pass : CS GI X (.Pass pos) wSkip := fun W x => by
  refine ps_imp ps_pass ?_
  rintro Dn σ H ⟨F, env, c, DD, re, r, q, l⟩
  exact l.nx F env c σ H Le.rfl' re r q
theorem cs_break : CS GI X (.Break pos) wBrk := fun W x => by
  refine ps_imp ps_break ?_
  rintro Dn σ H ⟨F, env, c, DD, re, r, q, l⟩
  exact l.bk F env c σ H Le.rfl' re r q
theorem cs_continue : CS GI X (.Continue pos) wCnt := fun W x => by
  refine ps_imp ps_continue ?_
  rintro Dn σ H ⟨F, env, c, DD, re, r, q, l⟩
  exact l.ct F env c σ H Le.rfl' re r q
theorem cs_expr (h : CE GI X e wa) (hs : swapsWith e none pos.line X.env = pure false := by rfl) : CS GI X (.Expr e pos) (wDrop wa) := fun W x => by
  refine ps_imp (ps_expr (h W x) hs) ?_
  rintro Dn σ H ⟨F, env, c, DD, re, r, q, l⟩
  refine ⟨F, env, c, _, _, re, r, l.lx re, q, ?_⟩
  intro F1 c1 H1 v d l1 r1 h1 q1
  exact l.nx F1 env c1 σ H1 l1 (re.le l1) r1 q1
theorem cs_ret (h : CE GI X e wa) : CS GI X (.Return (some e) pos) (wRet wa) := fun W x => by
  refine ps_imp (ps_ret (h W x)) ?_
  rintro Dn σ H ⟨F, env, c, DD, re, r, q, l⟩
  exact ⟨F, env, c, _, _, re, r, l.lx re, q, fun F1 c1 H1 v d l1 r1 h1 q1 => l.rt F1 c1 H1 v d l1 r1 h1 q1⟩
theorem cs_retN : CS GI X (.Return none pos) wRetN := fun W x => by
  refine ps_imp ps_retN ?_
  rintro Dn σ H ⟨F, env, c, DD, re, r, q, l⟩
  exact l.rt F c H _ _ Le.rfl' r .non q
theorem cs_if (h : CT GI X e wt) (ha : CSs GI X sa ws) (hb : CSs GI X sb ws2) : CS GI X (.If e sa sb pos) (wIf wt ws ws2) := fun W x => by
  refine ps_imp (ps_if (h W x) (ha W x) (hb W x)) ?_
  rintro Dn σ H ⟨F, env, c, DD, re, r, q, l⟩
  refine ⟨F, env, c, _, _, re, r, l.lx re, q, ?_⟩
  intro F1 c1 H1 b l1 r1 q1
  cases b with
  | true => rw [if_pos rfl] at q1 ⊢; exact ⟨F1, env, c1, DD, re.le l1, r1, q1, l.le l1⟩
  | false => rw [if_neg (by decide)] at q1 ⊢; exact ⟨F1, env, c1, DD, re.le l1, r1, q1, l.le l1⟩
theorem cs_asg (i : Nat) {x : Str} {pos' : Pos} (he : CE GI X e wa) (hi : X.N[i]? = some x := by rfl) (hx : Loc X.env.scope x := by first | exact Or.inl rfl | exact Or.inr rfl) (hs : swapsWith e (some (.Name x pos')) pos.line X.env = pure false := by rfl)
    (hf : X.fn x = true ∨ X.env.scope.names.lookup x = some .local := by first | exact .inl rfl | exact .inr rfl) : CS GI X (.Assign [.Name x pos'] e pos) (wAsg i wa) := fun W xo => by
  refine ps_imp (ps_set xo.nd hi hx (he W xo) hs hf) ?_
  rintro Dn σ H ⟨F, env, c, DD, re, r, q, l⟩
  refine ⟨F, env, c, _, _, re, r, l.lx re, q, ?_⟩
  intro F1 c1 H1 v d l1 r1 h1 q1
  exact l.nx F1 _ c1 _ H1 l1 ((re.le l1).set i h1) r1 q1
end
/-! ### targets -/
abbrev WG := D → DEnv → CMap → (DEnv → CMap → Prop) → Prop
abbrev WGs := List D → DEnv → CMap → (DEnv → CMap → Prop) → Prop
def lowG (K : PySem.W.Frag) (GI : Hp → Prop) (vs : List Nat) (wg : WG) : TG := fun v σ H Q => ∃ F env c d Qd, RepE K F env σ ∧ Rep K GI F c H ∧ DV K F v d ∧ wg d env c Qd ∧ ∀ F' env' c' σ' H', Le F F' → RepE K F' env' σ' → Rep K GI F' c' H' → wipe σ' vs = wipe σ vs → Qd env' c' → Q σ' H'
def lowGs (K : PySem.W.Frag) (GI : Hp → Prop) (vs : List Nat) (wg : WGs) : TGs := fun us σ H Q => ∃ F env c ds Qd, RepE K F env σ ∧ Rep K GI F c H ∧ DVs K F us ds ∧ wg ds env c Qd ∧ ∀ F' env' c' σ' H', Le F F' → RepE K F' env' σ' → Rep K GI F' c' H' → wipe σ' vs = wipe σ vs → Qd env' c' → Q σ' H'
def CG (GI : Hp → Prop) (X : Cx) (vs : List Nat) (tg : Expr) (wg : WG) : Prop := X.N.Nodup → PG X tg (lowG X.K GI vs wg)
def CGs (GI : Hp → Prop) (X : Cx) (vs : List Nat) (tg : List Expr) (wg : WGs) : Prop := X.N.Nodup → PGs X tg (lowGs X.K GI vs wg)
theorem pg_imp {X : Cx} {e : Expr} {t t' : TG} (h : PG X e t) (k : ∀ v σ H Q, t' v σ H Q → t v σ H Q) : PG X e t' := ⟨fun pins s σ H v u Q I r q => h.run pins s σ H v u Q I r (k _ _ _ _ q)⟩
theorem pgs_imp {X : Cx} {e : List Expr} {t t' : TGs} (h : PGs X e t) (k : ∀ v σ H Q, t' v σ H Q → t v σ H Q) : PGs X e t' := ⟨fun pins s σ H v u Q I r q => h.run pins s σ H v u Q I r (k _ _ _ _ q)⟩
theorem wipe_set {i : Nat} {x : Option V} : ∀ {vs : List Nat} {σ : St}, i ∈ vs → wipe (σ.set i x) vs = wipe σ vs
  | v :: vs, σ, h => by
    have key : ∀ (ws : List Nat) (τ : St), (wipe (τ.set i x) ws).set i none = (wipe τ ws).set i none := by
      intro ws
      induction ws with
      | nil => intro τ; show (τ.set i x).set i none = τ.set i none; rw [List.set_set]
      | cons w ws ih =>
        intro τ
        show ((wipe (τ.set i x) ws).set w none).set i none = ((wipe τ ws).set w none).set i none
        by_cases hw : w = i
        · subst hw; rw [List.set_set, List.set_set, ih]
        · rw [List.set_comm _ _ hw, ih, List.set_comm _ _ (Ne.symm hw)]
    rcases List.mem_cons.mp h with rfl | h
    · exact key vs σ
    · show (wipe (σ.set i x) vs).set v none = (wipe σ vs).set v none
      rw [wipe_set h]
def gNm (i : Nat) : WG := fun d env c Q => Q (env.set i (some d)) c
def gNl : WGs := fun ds env c Q => ds = [] ∧ Q env c
def gCn (g : WG) (gs : WGs) : WGs := fun ds env c Q => ∃ d r, ds = d :: r ∧ g d env c fun env' c' => gs r env' c' Q
def gTp (n : Nat) (gs : WGs) : WG := fun d env c Q => ∃ ds, (d = .tup ds ∨ d = .kt ds) ∧ ds.length = n ∧ gs ds env c Q
section
variable {GI : Hp → Prop} {X : Cx} {pos : Pos} {vs : List Nat} {es : List Expr} {g : WG} {gs : WGs} {e : Expr}
theorem cg_name (i : Nat) {x : Str} (hv : i ∈ vs := by decide) (hi : X.N[i]? = some x := by rfl) (hx : Loc X.env.scope x := by first | exact Or.inl rfl | exact Or.inr rfl) (hf : X.fn x = true ∨ X.env.scope.names.lookup x = some .local := by first | exact .inl rfl | exact .inr rfl) : CG GI X vs (.Name x pos) (gNm i) := fun nd => by
  refine pg_imp (pg_name nd hi hx hf) ?_
  rintro v σ H Q ⟨F, env, c, d, Qd, re, r, h, q, k⟩
  exact k F _ c _ H Le.rfl' (re.set i h) r (wipe_set hv) q
theorem cgs_nil : CGs GI X vs [] gNl := fun nd => by
  refine pgs_imp pgs_nil ?_
  rintro v σ H Q ⟨F, env, c, ds, Qd, re, r, h, ⟨rfl, q⟩, k⟩
  cases h
  exact ⟨rfl, k F _ c _ H Le.rfl' re r rfl q⟩
theorem cgs_cons (h1 : CG GI X vs e g) (h2 : CGs GI X vs es gs) (hs : (assignEach (e :: es) X.env).map (·.2) = assign e X.env :: (assignEach es X.env).map (·.2) := by rfl) : CGs GI X vs (e :: es) (gCn g gs) := fun nd => by
  refine pgs_imp (pgs_cons (h1 nd) (h2 nd) hs) ?_
  rintro us σ H Q ⟨F, env, c, ds, Qd, re, r, h, ⟨d, dr, rfl, q⟩, k⟩
  cases h with
  | cons ha hb =>
    refine ⟨_, _, rfl, F, env, c, d, _, re, r, ha, q, ?_⟩
    intro F1 env1 c1 σ1 H1 l1 re1 r1 w1 q1
    refine ⟨F1, env1, c1, dr, Qd, re1, r1, hb.le l1, q1, ?_⟩
    intro F2 env2 c2 σ2 H2 l2 re2 r2 w2 q2
    exact k F2 env2 c2 σ2 H2 (l1.trans' l2) re2 r2 (w2.trans w1) q2
theorem cg_tup (n : Nat) {k : Nat} (hc : X.calm = true) (h : CGs GI X vs es gs) (hn : (assignEach es X.env).length = n := by rfl) (hst : (assignEach es X.env).findIdx? (·.1) = none := by rfl) : CG GI X vs (.Tuple es k pos) (gTp n gs) := fun nd => by
  refine pg_imp (pg_tup hc (h nd) hn hst) ?_
  rintro v σ H Q ⟨F, env, c, d, Qd, re, r, h, ⟨ds, hd, hl, q⟩, kk⟩
  rcases hd with rfl | rfl
  · obtain ⟨a, xs, rfl, g1, k1⟩ := h.tup_inv
    exact ⟨a, xs, rfl, SqT.of (r.sub _ _ g1), by rw [k1.length]; exact hl, F, env, c, ds, Qd, re, r, k1, q, kk⟩
  · obtain ⟨a, xs, rfl, g1, k1⟩ := h.kt_inv
    exact ⟨a, xs, rfl, sqT_le r.sub g1, by rw [k1.length]; exact hl, F, env, c, ds, Qd, re, r, k1, q, kk⟩
end
def wAsgG (g : WG) (a : WE) : WS := fun DD env c => a (exE DD env) env c fun d c1 => g d env c1 DD.nx
theorem cs_asgG {GI : Hp → Prop} {X : Cx} {pos : Pos} (vs : List Nat) {tg e : Expr} {wa : WE} {g : WG} (he : CE GI X e wa) (hg : CG GI X vs tg g) (hs : swapsWithSole [tg] e pos.line X.env = pure false := by rfl) (hw : swappedStores [tg] e X.env = pure none := by rfl)
    (h1 : (assignEach [tg] X.env).map (·.2) = [assign tg X.env] := by rfl) : CS GI X (.Assign [tg] e pos) (wAsgG g wa) := fun W x => by
  refine ps_imp (ps_asg (he W x) (hg x.nd) hs hw h1) ?_
  rintro Dn σ H ⟨F, env, c, DD, re, r, q, l⟩
  refine ⟨F, env, c, _, _, re, r, l.lx re, q, ?_⟩
  intro F1 c1 H1 v d l1 r1 h1 q1
  exact ⟨F1, env, c1, d, _, re.le l1, r1, h1, q1, fun F2 env2 c2 σ2 H2 l2 re2 r2 _ q2 => l.nx F2 env2 c2 σ2 H2 (l1.trans' l2) re2 r2 q2⟩
/-- o[i] = e -/
def putKD {κ : Type} [DecidableEq κ] (kvs : List (κ × D)) (k : κ) (v : D) : List (κ × D) :=
  if (kvs.any fun kv => decide (kv.1 = k)) = true then kvs.map (fun kv => if kv.1 = k then (kv.1, v) else kv) else kvs ++ [(k, v)]
def setR (c : CMap) (o i v : D) (Q : CMap → Prop) : Prop := ∃ p, o = .ref p ∧ match c p with
  | some (.lst ds) => ∃ k j, i = .int k ∧ ixN ds.length k = some j ∧ Q (updc c p (.lst (ds.set j v)))
  | some (.dK kvs) => ∃ k, keyD i = some k ∧ kvs.length < sizeLine ∧ Q (updc c p (.dK (putKD kvs k v)))
  | some (.dT kvs) => ∃ es k, i = .tup es ∧ keysD es = some k ∧ kvs.length < sizeLine ∧ Q (updc c p (.dT (putKD kvs k v)))
  | _ => False
def wSet (o i a : WE) : WS := fun DD env c => a (exE DD env) env c fun d c1 => o (exE DD env) env c1 fun x c2 => i (exE DD env) env c2 fun y c3 => setR c3 x y d fun c4 => DD.nx env c4
theorem set_dict {X : Cx} (hu : X.A.units + 1 < cLine) : PSet X (fun o i v H Q => ∃ a H4, o = .ref a ∧ DPut H a i v H4 ∧ Q H4) := by
  intro pins s σ H o i v ov iv u Q I ro ri rv h
  obtain ⟨a, H4, rfl, g, q⟩ := h
  cases ro
  exact d_setItem hu I g ri rv fun s' I' => ⟨H4, I', q⟩
theorem pset_or {X : Cx} {t t' : TSet} (h : PSet X t) (h' : PSet X t') : PSet X (fun o i v H Q => t o i v H Q ∨ t' o i v H Q) := by
  intro pins s σ H o i v ov iv u Q I ro ri rv q
  rcases q with q | q
  · exact h pins s σ H o i v ov iv u Q I ro ri rv q
  · exact h' pins s σ H o i v ov iv u Q I ro ri rv q
theorem KD.length {κ : Type} {K : PySem.W.Frag} {F : Hp} {us : List (κ × V)} {kvs : List (κ × D)} (h : KD K F us kvs) : us.length = kvs.length := Paired.length h
theorem KD.repl {κ : Type} [DecidableEq κ] {K : PySem.W.Frag} {F : Hp} {us : List (κ × V)} {kvs : List (κ × D)} (h : KD K F us kvs) (k : κ) {v : V} {d : D} (q : DV K F v d) :
    KD K F (us.map fun kv => if kv.1 = k then (kv.1, v) else kv) (kvs.map fun kv => if kv.1 = k then (kv.1, d) else kv) := by
  induction h with
  | nil => exact .nil
  | @cons a b l1 l2 z t ih =>
    rw [List.map_cons, List.map_cons]
    refine .cons ?_ ih
    obtain ⟨z1, z2⟩ := z
    by_cases e : a.1 = k
    · rw [if_pos e, if_pos (by rw [← z1]; exact e)]; exact ⟨z1, q⟩
    · rw [if_neg e, if_neg (by rw [← z1]; exact e)]; exact ⟨z1, z2⟩
theorem KD.put {κ : Type} [DecidableEq κ] {K : PySem.W.Frag} {F : Hp} {us : List (κ × V)} {kvs : List (κ × D)} (h : KD K F us kvs) (k : κ) {v : V} {d : D} (q : DV K F v d) : KD K F (putK us k v) (putKD kvs k d) := by
  have hany : (us.any fun kv => decide (kv.1 = k)) = (kvs.any fun kv => decide (kv.1 = k)) := by
    induction h with
    | nil => rfl
    | cons a t ih => rw [List.any_cons, List.any_cons, ih, a.1]
  unfold putK putKD
  rw [hany]
  split
  · exact KD.repl h k q
  · exact Paired.snoc h ⟨rfl, q⟩
theorem set_snd {K : PySem.W.Frag} {GI : Hp → Prop} {F H : Hp} {c : CMap} {o i v : V} {x y d : D} {Qd : CMap → Prop} {Q : Hp → Prop} (r : Rep K GI F c H) (ho : DV K F o x) (hi : DV K F i y) (hv : DV K F v d) (q : setR c x y d Qd)
    (k : ∀ c' H', Rep K GI F c' H' → Qd c' → Q H') : rSetL o i v H Q ∨ ∃ a H4, o = .ref a ∧ DPut H a i v H4 ∧ Q H4 := by
  obtain ⟨p, rfl, q⟩ := q
  rw [ho.ref_inv]
  split at q
  · rename_i ds e
    obtain ⟨kk, j, rfl, q1, q2⟩ := q
    obtain ⟨us, h0, h1⟩ := r.lst e
    refine .inl ⟨p, us, kk, j, rfl, hi.int_inv, h0, by rw [h1.length]; exact q1, k _ _ (r.wr (k := .lst (ds.set j d)) e (by rw [h0]; trivial) ⟨_, rfl, h1.set j hv⟩) q2⟩
  · rename_i kvs e
    obtain ⟨kk, q0, q1, q2⟩ := q
    obtain ⟨_, o, h0, us, rfl, h1⟩ := r.cel _ _ e
    obtain rfl := keyD_kV hi q0
    exact .inr ⟨p, _, rfl, DPut.k h0 (by rw [h1.length]; exact q1), k _ _ (r.wr (k := .dK (putKD kvs kk d)) e (by rw [h0]; trivial) ⟨_, rfl, h1.put kk hv⟩) q2⟩
  · rename_i kvs e
    obtain ⟨es, kk, rfl, q0, q1, q2⟩ := q
    obtain ⟨_, o, h0, us, rfl, h1⟩ := r.cel _ _ e
    obtain ⟨b, xs, rfl, g1, g2⟩ := hi.tup_inv
    obtain rfl := keysD_kV g2 q0
    exact .inr ⟨p, _, rfl, DPut.t h0 (r.sub _ _ g1) (by rw [h1.length]; exact q1), k _ _ (r.wr (k := .dT (putKD kvs kk d)) e (by rw [h0]; trivial) ⟨_, rfl, h1.put kk hv⟩) q2⟩
  · exact q.elim
theorem cs_set {GI : Hp → Prop} {X : Cx} {pos pos' : Pos} {o i e : Expr} {wo wi wa : WE} (hr : Room 0 X.A) (ho : CE GI X o wo) (hi : CE GI X i wi) (he : CE GI X e wa) (hs : swapsWithSole [.Subscript o i pos'] e pos.line X.env = pure false := by rfl)
    (hw : swappedStores [.Subscript o i pos'] e X.env = pure none := by rfl) (h1 : (assignEach [.Subscript o i pos'] X.env).map (·.2) = [assign (.Subscript o i pos') X.env] := by rfl)
    (hA : ∀ v, assign (.Subscript o i pos') X.env v = (do
      let ov ← holding [v] (eval o X.env)
      let iv ← holding [v, ov] (eval i X.env)
      standAt pos'
      holding [v, ov, iv] (setItem ov iv v)
      release [v, ov, iv] []) := by intro _; rfl) : CS GI X (.Assign [.Subscript o i pos'] e pos) (wSet wo wi wa) := fun W x => by
  refine ps_imp (ps_asg (he W x) (pg_sub (ho W x) (hi W x) (pset_or set_list (set_dict (hu_of hr))) hA) hs hw h1) ?_
  rintro Dn σ H ⟨F, env, c, DD, re, r, q, l⟩
  refine ⟨F, env, c, _, _, re, r, l.lx re, q, ?_⟩
  intro F1 c1 H1 v d l1 r1 h1 q1
  refine ⟨F1, env, c1, _, _, re.le l1, r1, (l.le l1).lx (re.le l1), q1, ?_⟩
  intro F2 c2 H2 o2 x2 l2 r2 h2 q2
  refine ⟨F2, env, c2, _, _, (re.le l1).le l2, r2, ((l.le l1).le l2).lx ((re.le l1).le l2), q2, ?_⟩
  intro F3 c3 H3 i3 y3 l3 r3 h3 q3
  exact set_snd r3 (h2.le l3) h3 ((h1.le l2).le l3) q3 fun c4 H4 r4 q4 => l.nx F3 env c4 σ H4 ((l1.trans' l2).trans' l3) (((re.le l1).le l2).le l3) r4 q4

/-! ### what a loop walks -/
/-- what a walk asks of the cells at each turn -/
abbrev noG : CMap → Prop := fun _ => True
abbrev WI := XD → DEnv → CMap → (List D → (CMap → Prop) → CMap → Prop) → Prop
def DIter (K : PySem.W.Frag) (GI : Hp → Prop) (J : It) (ds : List D) (G : CMap → Prop) (F : Hp) : Prop := ∀ (F1 : Hp) (c : CMap) (H : Hp) (i : Nat), Le F F1 → Rep K GI F1 c H → G c →
  (∀ d, ds[i]? = some d → J.go i H ∧ ∀ x H', J.yld i H x H' → ∃ F2, Le F1 F2 ∧ Rep K GI F2 c H' ∧ DV K F2 x d) ∧ (ds.length ≤ i → J.stop i H)
theorem DIter.le {K : PySem.W.Frag} {GI : Hp → Prop} {J : It} {ds : List D} {G : CMap → Prop} {F F' : Hp} (l : Le F F') (h : DIter K GI J ds G F) : DIter K GI J ds G F' := fun F1 c H i l1 => h F1 c H i (l.trans' l1)
def lowI (K : PySem.W.Frag) (GI : Hp → Prop) (W : WX) (wi : WI) : TI := fun σ H R => ∃ F env c E Qd, RepE K F env σ ∧ Rep K GI F c H ∧ LX K GI W F σ E ∧ wi E env c Qd ∧ ∀ F' c' H' J ds G, Le F F' → Rep K GI F' c' H' → DIter K GI J ds G F' → Qd ds G c' → R J H'
def CI (GI : Hp → Prop) (X : Cx) (tg e : Expr) (wi : WI) : Prop := ∀ W, XOk X W → PI X tg e (lowI X.K GI W wi)
theorem pi_imp {X : Cx} {tg e : Expr} {t t' : TI} (h : PI X tg e t) (k : ∀ σ H Q, t' σ H Q → t σ H Q) : PI X tg e t' := ⟨fun pins s σ H Q I q => h.run pins s σ H Q I (k _ _ _ q)⟩
/-- a frozen list, a tuple, a text, as what is walked -/
def itsD : D → Option (List D)
  | .lst ds => some ds
  | .tup ds => some ds
  | .kt ds => some ds
  | .scr ns => some (ns.map D.int)
  | .str z => some (z.cps.toList.map fun k => D.str ⟨#[k]⟩)
  | _ => none
def itR (d : D) (c1 : CMap) (N : List D → (CMap → Prop) → CMap → Prop) : Prop := (∃ ds, itsD d = some ds ∧ N ds noG c1) ∨ ∃ p ds, d = .ref p ∧ c1 p = some (.lst ds) ∧ N ds (fun c => c p = some (.lst ds)) c1
def wIt (a : WE) : WI := fun E env c Q => a E env c fun d c1 => itR d c1 Q
theorem pi_any {X : Cx} {tg e : Expr} {te : TE} (he : PE X e te) : PI X tg e (fun σ H R => te σ H fun v H1 => (∃ a, v = .ref a ∧ (∃ xs, SqL X.K H1 a xs) ∧ R (Itl X.K a) H1) ∨ (∃ a, v = .ref a ∧ (∃ xs, SqT X.K H1 a xs) ∧ R (Itt X.K a) H1) ∨ ∃ z, v = .str z ∧ R (Its z) H1) := by
  refine ⟨fun pins s σ H R I0 h0 => ?_⟩
  refine thn (he.run pins s σ H _ I0 h0) fun u s1 ⟨y, H1, I, ry, hy⟩ => ?_
  rcases hy with ⟨a, rfl, ⟨xs, hq⟩, q⟩ | ⟨a, rfl, ⟨xs, hq⟩, q⟩ | ⟨z, rfl, q⟩
  · cases ry
    obtain ⟨its, _, pl, _⟩ := I.list hq
    exact wpAny_pyIter_list pl.isList (pi_one (tk := s1.toks) I _ (turn_list a _) ⟨_, Heap.get?_push_size _ rfl, rfl, rfl⟩ q)
  · cases ry
    obtain ⟨its, _, pl, _⟩ := I.tuple hq
    exact wpAny_pyIter_tuple (show s1.heap.IsTuple a its.toArray from pl) (pi_one (tk := s1.toks) I _ (turn_tuple a _) ⟨_, Heap.get?_push_size _ rfl, rfl, rfl⟩ q)
  · obtain ⟨t, rfl⟩ := ry
    cases hw : z.cps.all (· < 128) with
    | false => exact wpAny_pyIter_wide hw (pi_one (tk := s1.toks) I _ (turn_str _ z t "str_iterator" (.inr rfl)) ⟨_, Heap.get?_push_size _ rfl, rfl, rfl⟩ q)
    | true => exact wpAny_pyIter_ascii hw (pi_one (tk := s1.toks) I _ (turn_str _ z t "str_ascii_iterator" (.inl rfl)) ⟨_, Heap.get?_push_size _ rfl, rfl, rfl⟩ q)
section
variable {K : PySem.W.Frag} {GI : Hp → Prop} {F : Hp} {a : Addr} {xs : List V} {ds : List D}
theorem diter_list (h : SqL K F a xs) (k : DVs K F xs ds) : DIter K GI (Itl K a) ds noG F := by
  intro F1 c H i l r _
  have h1 := sqL_le r.sub (sqL_le l h)
  refine ⟨fun d e => ?_, fun e => ⟨xs, h1, by rw [k.length]; exact e⟩⟩
  obtain ⟨v, e1, e2⟩ := k.at i e
  refine ⟨⟨xs, v, h1, e1⟩, fun x H' ⟨eH, y⟩ => ?_⟩
  subst eH
  have := y xs h1
  rw [e1] at this; cases this
  exact ⟨F1, Le.rfl', r, e2.le l⟩
theorem diter_cell {p : Addr} : DIter K GI (Itl K p) ds (fun c => c p = some (.lst ds)) F := by
  intro F1 c H i l r g
  obtain ⟨us, h1, k⟩ := r.lst g
  refine ⟨fun d e => ?_, fun e => ⟨us, SqL.of h1, by rw [k.length]; exact e⟩⟩
  obtain ⟨v, e1, e2⟩ := k.at i e
  refine ⟨⟨us, v, SqL.of h1, e1⟩, fun x H' ⟨eH, y⟩ => ?_⟩
  subst eH
  have := y us (SqL.of h1)
  rw [e1] at this; cases this
  exact ⟨F1, Le.rfl', r, e2⟩
theorem diter_tup (h : SqT K F a xs) (k : DVs K F xs ds) : DIter K GI (Itt K a) ds noG F := by
  intro F1 c H i l r _
  have h1 := sqT_le r.sub (sqT_le l h)
  refine ⟨fun d e => ?_, fun e => ⟨xs, h1, by rw [k.length]; exact e⟩⟩
  obtain ⟨v, e1, e2⟩ := k.at i e
  refine ⟨⟨xs, v, h1, e1⟩, fun x H' ⟨eH, y⟩ => ?_⟩
  subst eH
  have := y xs h1
  rw [e1] at this; cases this
  exact ⟨F1, Le.rfl', r, e2.le l⟩
theorem diter_str (z : Str) : DIter K GI (Its z) (z.cps.toList.map fun k => D.str ⟨#[k]⟩) noG F := by
  intro F1 c H i l r _
  refine ⟨fun d e => ?_, fun e => ?_⟩
  · rw [List.getElem?_map] at e
    cases g : z.cps.toList[i]? with
    | none => rw [g] at e; cases e
    | some k =>
      rw [g] at e
      simp only [Option.map_some, Option.some.injEq] at e
      subst e
      refine ⟨?_, ?_⟩
      · have := (List.getElem?_eq_some_iff.mp g).1
        show i < z.cps.size
        simpa using this
      rintro x H' ⟨rfl, k', g', rfl⟩
      have : k' = k := by
        have g2 : z.cps.toList[i]? = some k' := by simpa using g'
        rw [g] at g2; exact (Option.some.inj g2).symm
      subst this
      exact ⟨F1, Le.rfl', r, .str _⟩
  · show z.cps.size ≤ i
    simpa using e
theorem diter_rng (lo : Int) (n : Nat) : DIter K GI (Itr lo n) ((upto lo n).map D.int) noG F := by
  intro F1 c H i l r _
  refine ⟨fun d e => ?_, fun e => ?_⟩
  · unfold upto at e
    rw [List.map_map, List.getElem?_map] at e
    cases g : (List.range n)[i]? with
    | none => rw [g] at e; cases e
    | some k =>
      rw [g] at e
      simp only [Option.map_some, Option.some.injEq] at e
      obtain ⟨g1, g2⟩ := List.getElem?_eq_some_iff.mp g
      rw [List.getElem_range] at g2
      subst g2 e
      refine ⟨by show i < n; simpa using g1, ?_⟩
      rintro x H' ⟨rfl, rfl⟩
      exact ⟨F1, Le.rfl', r, .int _⟩
  · show n ≤ i
    simpa [upto] using e
end
section
variable {GI : Hp → Prop} {X : Cx} {tg e : Expr} {wa : WE} {wr : WA} {p pos : Pos}
theorem ci_any (h : CE GI X e wa) : CI GI X tg e (wIt wa) := fun W x => by
  refine pi_imp (pi_any (h W x)) ?_
  rintro σ H R ⟨F, env, c, E, Qd, re, r, lx, q, k⟩
  refine ⟨F, env, c, E, _, re, r, lx, q, ?_⟩
  rintro F1 c1 H1 v d l1 r1 h1 (⟨ds, e1, q1⟩ | ⟨p, ds, rfl, e1, q1⟩)
  rotate_left
  · obtain ⟨us, g1, k1⟩ := r1.lst e1
    exact .inl ⟨p, h1.ref_inv, ⟨us, SqL.of g1⟩, k F1 c1 H1 _ _ _ l1 r1 diter_cell q1⟩
  cases d <;> simp only [itsD, Option.some.injEq, reduceCtorEq] at e1
  · subst e1
    obtain rfl := h1.str_inv
    exact .inr (.inr ⟨_, rfl, k F1 c1 H1 _ _ _ l1 r1 (diter_str _) q1⟩)
  · subst e1
    obtain ⟨a, xs, rfl, g1, k1⟩ := h1.tup_inv
    exact .inr (.inl ⟨a, rfl, ⟨xs, SqT.of (r1.sub _ _ g1)⟩, k F1 c1 H1 _ _ _ l1 r1 (diter_tup (SqT.of g1) k1) q1⟩)
  · subst e1
    cases h1 with
    | lst g1 k1 => exact .inl ⟨_, rfl, ⟨_, SqL.of (r1.sub _ _ g1)⟩, k F1 c1 H1 _ _ _ l1 r1 (diter_list (SqL.of g1) k1) q1⟩
  · subst e1
    obtain ⟨a, xs, rfl, g1, k1⟩ := h1.kt_inv
    exact .inr (.inl ⟨a, rfl, ⟨xs, sqT_le r1.sub g1⟩, k F1 c1 H1 _ _ _ l1 r1 (diter_tup g1 k1) q1⟩)
  · subst e1
    obtain ⟨a, rfl, g1⟩ := h1.scr_inv
    exact .inl ⟨a, rfl, ⟨_, sqL_le r1.sub g1⟩, k F1 c1 H1 _ _ _ l1 r1 (diter_list g1 DVs.ints) q1⟩
def rgR1 (ds : List D) (c : CMap) (N : List D → (CMap → Prop) → CMap → Prop) : Prop := match ds with
  | [.int n] => -(2 ^ 62) ≤ n ∧ n < 2 ^ 62 ∧ N ((upto 0 n.toNat).map D.int) noG c
  | _ => False
def rgR2 (ds : List D) (c : CMap) (N : List D → (CMap → Prop) → CMap → Prop) : Prop := match ds with
  | [.int a, .int b] => -(2 ^ 62) ≤ a ∧ a < 2 ^ 62 ∧ -(2 ^ 62) ≤ b ∧ b < 2 ^ 62 ∧ N ((upto a (b - a).toNat).map D.int) noG c
  | _ => False
def wRg1 (r : WA) : WI := fun E env c Q => r E env c fun ds c1 => rgR1 ds c1 Q
def wRg2 (r : WA) : WI := fun E env c Q => r E env c fun ds c1 => rgR2 ds c1 Q
theorem ci_range1 {a : Expr} (hm : X.mg "range" = none) (ha : CA GI X [a] wr) (hg : Gl X "range" := by rfl) (hs : starEach [a] X.env = [(false, eval a X.env)] := by rfl) : CI GI X tg (.Call (.Name "range" p) [a] [] pos) (wRg1 wr) := fun W x => by
  refine pi_imp (pi_range1 hg hm (ha W x) hs) ?_
  rintro σ H R ⟨F, env, c, E, Qd, re, r, lx, q, k⟩
  refine ⟨F, env, c, E, _, re, r, lx, q, ?_⟩
  intro F1 c1 H1 vs ds l1 r1 h1 q1
  unfold rgR1 at q1
  split at q1
  · obtain ⟨v, rfl, h2⟩ := h1.inv1
    exact ⟨_, by rw [h2.int_inv], q1.1, q1.2.1, k F1 c1 H1 _ _ _ l1 r1 (diter_rng 0 _) q1.2.2⟩
  · exact q1.elim
theorem ci_range2 {a b : Expr} (hm : X.mg "range" = none) (ha : CA GI X [a, b] wr) (hg : Gl X "range" := by rfl) (hs : starEach [a, b] X.env = [(false, eval a X.env), (false, eval b X.env)] := by rfl) (hs2 : starEach [b] X.env = [(false, eval b X.env)] := by rfl) :
    CI GI X tg (.Call (.Name "range" p) [a, b] [] pos) (wRg2 wr) := fun W x => by
  refine pi_imp (pi_range2 hg hm (ha W x) hs hs2) ?_
  rintro σ H R ⟨F, env, c, E, Qd, re, r, lx, q, k⟩
  refine ⟨F, env, c, E, _, re, r, lx, q, ?_⟩
  intro F1 c1 H1 vs ds l1 r1 h1 q1
  unfold rgR2 at q1
  split at q1
  · obtain ⟨v, u, rfl, h2, h3⟩ := h1.inv2
    exact ⟨_, _, by rw [h2.int_inv, h3.int_inv], ⟨q1.1, q1.2.1, q1.2.2.1, q1.2.2.2.1⟩, k F1 c1 H1 _ _ _ l1 r1 (diter_rng _ _) q1.2.2.2.2⟩
  · exact q1.elim
end
end DL
/-! the data layer: loops, comprehensions, methods, defs -/
namespace DL
open PySem PySem.Spec L2
open PyProof.Rows hiding St

/-! ### zip, enumerate -/
def lstD : D → Option (List D)
  | .lst ds => some ds
  | .scr ns => some (ns.map D.int)
  | _ => none
/-- a list: frozen, or a cell that stays so -/
def LsG (c : CMap) (d : D) (xs : List D) (G : CMap → Prop) : Prop := (lstD d = some xs ∧ G = noG) ∨ ∃ p, d = .ref p ∧ c p = some (.lst xs) ∧ G = fun c => c p = some (.lst xs)
def tupD : D → Option (List D)
  | .tup ds => some ds
  | .kt ds => some ds
  | _ => none
def zipR (ds : List D) (c : CMap) (N : List D → (CMap → Prop) → CMap → Prop) : Prop := match ds with
  | [d, e] => (∃ xs ys G1 G2, LsG c d xs G1 ∧ LsG c e ys G2 ∧ N ((xs.zip ys).map fun p => D.tup [p.1, p.2]) (fun c => G1 c ∧ G2 c) c) ∨ ∃ xs ys, tupD d = some xs ∧ tupD e = some ys ∧ N ((xs.zip ys).map fun p => D.tup [p.1, p.2]) noG c
  | _ => False
def enumR (ds : List D) (c : CMap) (N : List D → (CMap → Prop) → CMap → Prop) : Prop := match ds with
  | [d] => ∃ xs G, LsG c d xs G ∧ N (xs.mapIdx fun i x => D.tup [.int (i : Nat), x]) G c
  | _ => False
def wZip (r : WA) : WI := fun E env c Q => r E env c fun ds c1 => zipR ds c1 Q
def wEnum (r : WA) : WI := fun E env c Q => r E env c fun ds c1 => enumR ds c1 Q
theorem lstD_snd {K : PySem.W.Frag} {F : Hp} {v : V} {d : D} {xs : List D} (h : DV K F v d) (e : lstD d = some xs) : ∃ a us, v = .ref a ∧ SqL K F a us ∧ DVs K F us xs := by
  cases d <;> simp only [lstD, Option.some.injEq, reduceCtorEq] at e
  · subst e
    cases h with
    | lst g1 k1 => exact ⟨_, _, rfl, SqL.of g1, k1⟩
  · subst e
    obtain ⟨a, rfl, g⟩ := h.scr_inv
    exact ⟨a, _, rfl, g, DVs.ints⟩
section
variable {K : PySem.W.Frag} {GI : Hp → Prop} {F : Hp} {a b : Addr} {xs ys : List V} {ds es : List D}
theorem new_pair {F1 H : Hp} {c : CMap} {T : Addr} {x y : V} {d e : D} (r : Rep K GI F1 c H) (hT : H T = none) (h1 : DV K F1 x d) (h2 : DV K F1 y e) :
    ∃ F2, Le F1 F2 ∧ Rep K GI F2 c (upd H T (.tup [x, y])) ∧ DV K F2 (.ref T) (.tup [d, e]) := by
  have l : Le F1 (upd F1 T (.tup [x, y])) := Le.new (r.fr hT)
  exact ⟨_, l, r.newF hT, .tup upd_same (.cons (h1.le l) (.cons (h2.le l) .nil))⟩
/-- an address whose list stands so wherever G does -/
def LsAt (K : PySem.W.Frag) (GI : Hp → Prop) (F : Hp) (a : Addr) (ds : List D) (G : CMap → Prop) : Prop := ∀ (F1 : Hp) (c : CMap) (H : Hp), Le F F1 → Rep K GI F1 c H → G c → ∃ us, SqL K H a us ∧ DVs K F1 us ds
theorem lsG_at {H : Hp} {c : CMap} {v : V} {d : D} {xs : List D} {G : CMap → Prop} (r : Rep K GI F c H) (h : DV K F v d) (g : LsG c d xs G) : ∃ a us, v = .ref a ∧ SqL K H a us ∧ LsAt K GI F a xs G ∧ G c := by
  rcases g with ⟨e, rfl⟩ | ⟨p, rfl, e, rfl⟩
  · obtain ⟨a, us, rfl, g1, k1⟩ := lstD_snd h e
    exact ⟨a, us, rfl, sqL_le r.sub g1, fun F1 c1 H1 l r1 _ => ⟨us, sqL_le r1.sub (sqL_le l g1), k1.le l⟩, trivial⟩
  · obtain ⟨us, h1, k⟩ := r.lst e
    refine ⟨p, us, h.ref_inv, SqL.of h1, fun F1 c1 H1 l r1 g => ?_, e⟩
    obtain ⟨us, h1, k⟩ := r1.lst g
    exact ⟨us, SqL.of h1, k⟩
theorem diter_zip {G1 G2 : CMap → Prop} (k : LsAt K GI F a ds G1) (k' : LsAt K GI F b es G2) : DIter K GI (Itz K a b) ((ds.zip es).map fun p => D.tup [p.1, p.2]) (fun c => G1 c ∧ G2 c) F := by
  intro F1 c H i l r ⟨q1, q2⟩
  obtain ⟨xs, g1, k⟩ := k F1 c H l r q1
  obtain ⟨ys, g2, k'⟩ := k' F1 c H l r q2
  refine ⟨fun d e => ?_, fun e => ⟨xs, ys, g1, g2, ?_⟩⟩
  · rw [List.getElem?_map] at e
    cases z : (ds.zip es)[i]? with
    | none => rw [z] at e; cases e
    | some p =>
      rw [z] at e
      simp only [Option.map_some, Option.some.injEq] at e
      subst e
      obtain ⟨e1, e2⟩ := List.getElem?_zip_eq_some.mp z
      obtain ⟨v, v1, v2⟩ := k.at i e1
      obtain ⟨u, u1, u2⟩ := k'.at i e2
      refine ⟨⟨xs, ys, v, u, g1, g2, v1, u1⟩, ?_⟩
      rintro x H' ⟨T, x1, y1, rfl, hT, rfl, f1, f2⟩
      have a1 := f1 xs g1
      have a2 := f2 ys g2
      rw [v1] at a1; cases a1
      rw [u1] at a2; cases a2
      exact new_pair r hT v2 u2
  · rw [k.length, k'.length]
    simp only [List.length_map, List.length_zip] at e
    omega
theorem diter_zipT (h : SqT K F a xs) (k : DVs K F xs ds) (h' : SqT K F b ys) (k' : DVs K F ys es) : DIter K GI (RZ.ItzT K a b) ((ds.zip es).map fun p => D.tup [p.1, p.2]) noG F := by
  intro F1 c H i l r _
  have g1 := sqT_le r.sub (sqT_le l h)
  have g2 := sqT_le r.sub (sqT_le l h')
  refine ⟨fun d e => ?_, fun e => ⟨xs, ys, g1, g2, ?_⟩⟩
  · rw [List.getElem?_map] at e
    cases z : (ds.zip es)[i]? with
    | none => rw [z] at e; cases e
    | some p =>
      rw [z] at e
      simp only [Option.map_some, Option.some.injEq] at e
      subst e
      obtain ⟨e1, e2⟩ := List.getElem?_zip_eq_some.mp z
      obtain ⟨v, v1, v2⟩ := k.at i e1
      obtain ⟨u, u1, u2⟩ := k'.at i e2
      refine ⟨⟨xs, ys, v, u, g1, g2, v1, u1⟩, ?_⟩
      rintro x H' ⟨T, x1, y1, rfl, hT, rfl, f1, f2⟩
      have a1 := f1 xs g1
      have a2 := f2 ys g2
      rw [v1] at a1; cases a1
      rw [u1] at a2; cases a2
      exact new_pair r hT (v2.le l) (u2.le l)
  · rw [k.length, k'.length]
    simp only [List.length_map, List.length_zip] at e
    omega
theorem diter_enum {G : CMap → Prop} (k : LsAt K GI F a ds G) : DIter K GI (Ite K a) (ds.mapIdx fun i x => D.tup [.int (i : Nat), x]) G F := by
  intro F1 c H i l r q
  obtain ⟨xs, g1, k⟩ := k F1 c H l r q
  refine ⟨fun d e => ?_, fun e => ⟨xs, g1, by rw [k.length]; simpa using e⟩⟩
  rw [List.getElem?_mapIdx] at e
  cases z : ds[i]? with
  | none => rw [z] at e; cases e
  | some p =>
    rw [z] at e
    simp only [Option.map_some, Option.some.injEq] at e
    subst e
    obtain ⟨v, v1, v2⟩ := k.at i z
    refine ⟨⟨xs, v, g1, v1⟩, ?_⟩
    rintro x H' ⟨T, x1, rfl, hT, rfl, f1⟩
    have a1 := f1 xs g1
    rw [v1] at a1; cases a1
    exact new_pair r hT (.int _) v2
theorem tupD_snd {v : V} {d : D} {xs : List D} (h : DV K F v d) (e : tupD d = some xs) : ∃ a us, v = .ref a ∧ SqT K F a us ∧ DVs K F us xs := by
  cases d <;> simp only [tupD, Option.some.injEq, reduceCtorEq] at e
  · subst e
    obtain ⟨a, us, rfl, g, k⟩ := h.tup_inv
    exact ⟨a, us, rfl, SqT.of g, k⟩
  · subst e
    exact h.kt_inv
end
section
variable {GI : Hp → Prop} {X : Cx} {e e2 : Expr} {wr : WA} {p pos tpos : Pos} {elts : List Expr} {kk : Nat}
theorem ci_zip (hm : X.mg "zip" = none) (ha : CA GI X [e, e2] wr) (hg : Gl X "zip" := by rfl) (hs : starEach [e, e2] X.env = (false, eval e X.env) :: starEach [e2] X.env := by rfl) (hpl : (backTo pos (starEach [e2] X.env)).any (·.1) = false := by rfl) :
    CI GI X (.Tuple elts kk tpos) (.Call (.Name "zip" p) [e, e2] [] pos) (wZip wr) := fun W x => by
  refine pi_imp (RZ.pi_zipA hg hm (ha W x) hs hpl) ?_
  rintro σ H R ⟨F, env, c, E, Qd, re, r, lx, q, k⟩
  refine ⟨F, env, c, E, _, re, r, lx, q, ?_⟩
  intro F1 c1 H1 vs ds l1 r1 h1 q1
  unfold zipR at q1
  split at q1
  · obtain ⟨v, u, rfl, h2, h3⟩ := h1.inv2
    rcases q1 with ⟨xs, ys, G1, G2, e1, e2, q⟩ | ⟨xs, ys, e1, e2, q⟩
    · obtain ⟨a, us, rfl, g1, k1, z1⟩ := lsG_at r1 h2 e1
      obtain ⟨b, ws, rfl, g2, k2, z2⟩ := lsG_at r1 h3 e2
      exact ⟨a, b, us, ws, rfl, .inl ⟨g1, g2, k F1 c1 H1 _ _ _ l1 r1 (diter_zip k1 k2) q⟩⟩
    · obtain ⟨a, us, rfl, g1, k1⟩ := tupD_snd h2 e1
      obtain ⟨b, ws, rfl, g2, k2⟩ := tupD_snd h3 e2
      exact ⟨a, b, us, ws, rfl, .inr ⟨sqT_le r1.sub g1, sqT_le r1.sub g2, k F1 c1 H1 _ _ _ l1 r1 (diter_zipT g1 k1 g2 k2) q⟩⟩
  · exact q1.elim
theorem ci_enum (hm : X.mg "enumerate" = none) (ha : CA GI X [e] wr) (hg : Gl X "enumerate" := by rfl) (hs : starEach [e] X.env = [(false, eval e X.env)] := by rfl) : CI GI X (.Tuple elts kk tpos) (.Call (.Name "enumerate" p) [e] [] pos) (wEnum wr) := fun W x => by
  refine pi_imp (pi_enum hg hm (ha W x) hs) ?_
  rintro σ H R ⟨F, env, c, E, Qd, re, r, lx, q, k⟩
  refine ⟨F, env, c, E, _, re, r, lx, q, ?_⟩
  intro F1 c1 H1 vs ds l1 r1 h1 q1
  unfold enumR at q1
  split at q1
  · obtain ⟨v, rfl, h2⟩ := h1.inv1
    obtain ⟨xs, G, e1, q⟩ := q1
    obtain ⟨a, us, rfl, g1, k1, z1⟩ := lsG_at r1 h2 e1
    exact ⟨a, us, rfl, g1, k F1 c1 H1 _ _ _ l1 r1 (diter_enum k1) q⟩
  · exact q1.elim
end

/-! ### for, while -/
def forD (step : D → DEnv → CMap → (DEnv → CMap → Prop) → Prop) : List D → DEnv → CMap → (DEnv → CMap → Prop) → Prop
  | [], env, c, Q => Q env c
  | d :: ds, env, c, Q => step d env c fun env' c' => forD step ds env' c' Q
def forS (wg : WG) (body : WS) (DD : DEnds) : D → DEnv → CMap → (DEnv → CMap → Prop) → Prop := fun d env c nxt => wg d env c fun env2 c2 => body { DD with nx := nxt, ct := nxt, bk := DD.nx } env2 c2
def ForP (wg : WG) (body : WS) (DD : DEnds) (ds : List D) (G : CMap → Prop) (env : DEnv) (c : CMap) : Prop := ∃ P : Nat → DEnv → CMap → Prop, P 0 env c ∧ (∀ i env c, P i env c → G c) ∧ (∀ (i : Nat) (d : D) (env : DEnv) (c : CMap), ds[i]? = some d → P i env c → ∃ N : DEnv → CMap → Prop, (∀ env c, N env c → ∃ c2, SubC c2 c ∧ P (i + 1) env c2) ∧ forS wg body DD d env c N) ∧ ∀ env c, P ds.length env c → DD.nx env c
def wFor (wi : WI) (wg : WG) (body : WS) : WS := fun DD env c => wi (exE DD env) env c fun ds G c1 => ForP wg body DD ds G env c1
def wWhile (t : WT) (body : WS) : WS := fun DD env c => ∃ W : Nat → DEnv → CMap → Prop, (∃ m, W m env c) ∧ ∀ m env c, W m env c →
  t (exE DD env) env c fun b c1 => if b = true then ∃ N : DEnv → CMap → Prop, (∀ env' c', N env' c' → ∃ m', m' < m ∧ ∃ c2, SubC c2 c' ∧ W m' env' c2) ∧ body { DD with nx := N, ct := N, bk := DD.nx } env c1 else DD.nx env c1
section
variable {GI : Hp → Prop} {X : Cx} {pos : Pos} {tg iter : Expr} {body : List Stmt} {wi : WI} {wg : WG} {wb : WS} {wt : WT}
theorem cs_for (vs : List Nat) (hc : X.calm = true) (hi : CI GI X tg iter wi) (hg : CG GI X vs tg wg) (hb : CSs GI X body wb) (hs : ∀ x, foldedSetIterable iter X.env x = pure x := by intro _; rfl) : CS GI X (.For tg iter body [] pos) (wFor wi wg wb) := fun W x => by
  refine ps_imp (ps_for x.own hc (hi W x) (hg x.nd) (hb W x) hs) ?_
  rintro Dn σ H ⟨F, env, c, DD, re, r, q, l⟩
  refine ⟨F, env, c, _, _, re, r, l.lx re, q, ?_⟩
  rintro F1 c1 H1 J ds G l1 r1 it ⟨P, p0, pg, ps, pd⟩
  refine ⟨fun i m σ2 H2 => m = ds.length - i ∧ i ≤ ds.length ∧ ∃ F2 env2 c2, Le F1 F2 ∧ RepE X.K F2 env2 σ2 ∧ Rep X.K GI F2 c2 H2 ∧ P i env2 c2, ⟨ds.length, by simp, Nat.zero_le _, F1, env, c1, Le.rfl', re.le l1, r1, p0⟩, ?_⟩
  rintro i m σ2 H2 ⟨rfl, hle, F2, env2, c2, l2, re2, r2, q2⟩
  obtain ⟨it1, it2⟩ := it F2 c2 H2 i l2 r2 (pg _ _ _ q2)
  by_cases hi : i < ds.length
  · refine .inr ?_
    have e : ds[i]? = some ds[i] := by rw [List.getElem?_eq_getElem hi]
    obtain ⟨N, hN, q2⟩ := ps i _ env2 c2 e q2
    obtain ⟨go, yl⟩ := it1 _ e
    refine ⟨go, fun σ3 H3 => ∃ F3 env3 c3, Le F1 F3 ∧ RepE X.K F3 env3 σ3 ∧ Rep X.K GI F3 c3 H3 ∧ N env3 c3, ?_, ?_⟩
    · rintro σ3 H3 ⟨F3, env3, c3, g1, g2, g3, g4⟩
      obtain ⟨c4, s4, g5⟩ := hN _ _ g4
      exact ⟨_, by omega, rfl, hi, F3, env3, c4, g1, g2, g3.sub' s4, g5⟩
    · intro v H3 y
      obtain ⟨F3, l3, r3, h3⟩ := yl v H3 y
      refine ⟨F3, env2, c2, ds[i], _, re2.le l3, r3, h3, q2, ?_⟩
      intro F4 env4 c4 σ4 H4 l4 re4 r4 _ q4
      have ll : Le F1 F4 := (l2.trans' l3).trans' l4
      refine ⟨F4, env4, c4, _, re4, r4, q4, ⟨fun F5 env5 c5 σ5 H5 l5 re5 r5 q5 => ⟨F5, env5, c5, ll.trans' l5, re5, r5, q5⟩, fun F5 c5 H5 v5 d5 l5 => l.rt F5 c5 H5 v5 d5 ((l1.trans' ll).trans' l5),
        fun F5 env5 c5 σ5 H5 l5 re5 r5 q5 => l.nx F5 env5 c5 σ5 H5 ((l1.trans' ll).trans' l5) re5 r5 q5, fun F5 env5 c5 σ5 H5 l5 re5 r5 q5 => ⟨F5, env5, c5, ll.trans' l5, re5, r5, q5⟩,
        fun F5 env5 c5 σ5 H5 cls od l5 => l.ex F5 env5 c5 σ5 H5 cls od ((l1.trans' ll).trans' l5)⟩⟩
  · refine .inl ⟨it2 (by omega), ?_⟩
    have hz : i = ds.length := by omega
    subst hz
    exact l.nx F2 env2 c2 σ2 H2 (l1.trans' l2) re2 r2 (pd _ _ q2)
theorem cs_while (h : CT GI X iter wt) (hb : CSs GI X body wb) : CS GI X (.While iter body [] pos) (wWhile wt wb) := fun W x => by
  refine ps_imp (ps_while x.own (h W x) (hb W x)) ?_
  rintro Dn σ H ⟨F, env, c, DD, re, r, ⟨Wd, ⟨m0, w0⟩, turn⟩, l⟩
  refine ⟨fun m σ2 H2 => ∃ F2 env2 c2, Le F F2 ∧ RepE X.K F2 env2 σ2 ∧ Rep X.K GI F2 c2 H2 ∧ Wd m env2 c2, ⟨m0, F, env, c, Le.rfl', re, r, w0⟩, ?_⟩
  rintro m σ2 H2 ⟨F2, env2, c2, l2, re2, r2, w2⟩
  refine ⟨F2, env2, c2, _, _, re2, r2, (l.le l2).lx re2, turn m env2 c2 w2, ?_⟩
  intro F3 c3 H3 b l3 r3 q3
  cases b with
  | true =>
    rw [if_pos rfl] at q3 ⊢
    obtain ⟨N, hN, q⟩ := q3
    refine ⟨fun σ4 H4 => ∃ F4 env4 c4, Le F F4 ∧ RepE X.K F4 env4 σ4 ∧ Rep X.K GI F4 c4 H4 ∧ N env4 c4, ?_, F3, env2, c3, _, re2.le l3, r3, q, ?_⟩
    · rintro σ4 H4 ⟨F4, env4, c4, g1, g2, g3, g4⟩
      obtain ⟨m', hm, c5, s5, w'⟩ := hN env4 c4 g4
      exact ⟨m', hm, F4, env4, c5, g1, g2, g3.sub' s5, w'⟩
    · have ll : Le F F3 := l2.trans' l3
      exact ⟨fun F5 env5 c5 σ5 H5 l5 re5 r5 q5 => ⟨F5, env5, c5, ll.trans' l5, re5, r5, q5⟩, fun F5 c5 H5 v5 d5 l5 => l.rt F5 c5 H5 v5 d5 (ll.trans' l5),
        fun F5 env5 c5 σ5 H5 l5 re5 r5 q5 => l.nx F5 env5 c5 σ5 H5 (ll.trans' l5) re5 r5 q5, fun F5 env5 c5 σ5 H5 l5 re5 r5 q5 => ⟨F5, env5, c5, ll.trans' l5, re5, r5, q5⟩,
        fun F5 env5 c5 σ5 H5 cls od l5 => l.ex F5 env5 c5 σ5 H5 cls od (ll.trans' l5)⟩
  | false =>
    rw [if_neg (by decide)] at q3 ⊢
    exact l.nx F3 env2 c3 σ2 H3 (l2.trans' l3) (re2.le l3) r3 q3
end

/-! ### comprehensions -/
abbrev noX : XD := fun _ _ _ => False
def compS (wg : WG) (wt : WT) (we : WE) (env : DEnv) : D → CMap → (Option D → CMap → Prop) → Prop := fun d c k => wg d env c fun env2 c2 => wt noX env2 c2 fun b c3 => if b = true then we noX env2 c3 fun y c4 => k (some y) c4 else k none c3
def CompP (m : Bool) (step : D → CMap → (Option D → CMap → Prop) → Prop) (A : Addr) (ds : List D) (G : CMap → Prop) (c : CMap) (Q : DK) : Prop := ∃ P : Nat → CMap → Prop, P 0 (updc c A (.lst [])) ∧ (∀ i c, P i c → G c) ∧
  (∀ (i : Nat) (d : D) (c : CMap), ds[i]? = some d → P i c → step d c fun o c' => match o with
    | some y => ∃ acc, c' A = some (.lst acc) ∧ acc.length < sizeLine ∧ P (i + 1) (updc c' A (.lst (acc ++ [y])))
    | none => P (i + 1) c') ∧
  ∀ c2, P ds.length c2 → ∃ out, c2 A = some (.lst out) ∧ if m = true then Q (.ref A) c2 else Q (.lst out) (delc c2 A)
def wComp (m : Bool) (wi : WI) (wg : WG) (wt : WT) (we : WE) (vs : List Nat) : WE := fun E env c Q => wi E env c fun ds G c1 => ∀ A, c1 A = none → CompP m (compS wg wt we (wipeE env vs)) A ds G c1 Q
def wYes : WT := fun _ _ c Q => Q true c
def CTs (GI : Hp → Prop) (X : Cx) (ifs : List Expr) (wt : WT) : Prop := ∀ W, XOk X W → PTs X ifs (lowT X.K GI W wt)
theorem pts_imp {X : Cx} {e : List Expr} {t t' : TT} (h : PTs X e t) (k : ∀ σ H Q, t' σ H Q → t σ H Q) : PTs X e t' := ⟨fun pins s σ H Q I q => h.run pins s σ H Q I (k _ _ _ q)⟩
section
variable {GI : Hp → Prop} {X : Cx} {pos : Pos} {tg iter elt : Expr} {ifs : List Expr} {wi : WI} {wg : WG} {wt : WT} {we : WE} {scope : Scope} {own : List (Str × Nat)}
theorem cts_nil : CTs GI X [] wYes := fun W x => by
  refine pts_imp pts_nil ?_
  rintro σ H Q ⟨F, env, c, E, Qd, re, r, lx, q, k⟩
  exact k F c H true Le.rfl' r q
theorem cts_one {e : Expr} (h : CT GI X e wt) : CTs GI X [e] wt := fun W x => pts_one (h W x)
theorem blk_ok {s : Shared} {H : Hp} {scope : Scope} {cenv : Env} {fp : List Addr} (nd : X.N.Nodup) : XOk (X.blk s H scope cenv fp) (fun _ _ _ _ => False) := ⟨nd, L2.takes0, PassesOwn.never⟩
theorem low_comp {W : WX} (m : Bool) {Q : VK} {σ : St} {H : Hp} (q : lowE X.K GI W (wComp m wi wg wt we (own.map (·.2))) σ H Q) :
    tLc (lowI X.K GI W wi) (lowG X.K GI (own.map (·.2)) wg) (lowT X.K GI (fun _ _ _ _ => False) wt) (lowE X.K GI (fun _ _ _ _ => False) we) (own.map (·.2)) σ H Q := by
  obtain ⟨F, env, c, E, Qd, re, r, lx, q, k⟩ := q
  refine ⟨F, env, c, E, _, re, r, lx, q, ?_⟩
  intro F1 c1 H1 J ds G l1 r1 it q1 A hA
  obtain ⟨P, p0, pg, ps, pd⟩ := q1 A (r1.frc hA)
  have fA : F1 A = none := r1.fr hA
  refine ⟨fun i n H2 => n = ds.length - i ∧ i ≤ ds.length ∧ ∃ F2 c2, Le F1 F2 ∧ Rep X.K GI F2 c2 H2 ∧ P i c2,
    ⟨ds.length, by simp, Nat.zero_le _, F1, _, Le.rfl', r1.newC (k := .lst []) hA ⟨[], rfl, .nil⟩, p0⟩, ?_⟩
  rintro i n H2 ⟨rfl, hle, F2, c2, l2, r2, q2⟩
  obtain ⟨it1, it2⟩ := it F2 c2 H2 i l2 r2 (pg _ _ q2)
  by_cases hi : i < ds.length
  · refine .inr ?_
    have e : ds[i]? = some ds[i] := by rw [List.getElem?_eq_getElem hi]
    have q2 := ps i _ c2 e q2
    unfold compS at q2
    obtain ⟨go, yl⟩ := it1 _ e
    refine ⟨go, fun H3 => ∃ F3 c3, Le F1 F3 ∧ Rep X.K GI F3 c3 H3 ∧ P (i + 1) c3, ?_, ?_⟩
    · rintro H3 ⟨F3, c3, g⟩
      exact ⟨_, by omega, rfl, hi, F3, c3, g⟩
    · intro v H3 y
      obtain ⟨F3, l3, r3, h3⟩ := yl v H3 y
      refine ⟨F3, wipeE env (own.map (·.2)), c2, ds[i], _, ((re.le l1).le (l2.trans' l3)).wipe _, r3, h3, q2, ?_⟩
      intro F4 env4 c4 σ4 H4 l4 re4 r4 w4 q4
      have w5 : wipe σ4 (own.map (·.2)) = wipe σ (own.map (·.2)) := by
        rw [w4]
        have : ∀ (ws : List Nat) (τ : St), wipe (wipe τ ws) ws = wipe τ ws := by
          intro ws
          induction ws with
          | nil => intro τ; rfl
          | cons u ws ih =>
            intro τ
            show (wipe ((wipe τ ws).set u none) ws).set u none = (wipe τ ws).set u none
            by_cases hu : u ∈ ws
            · rw [wipe_set hu, ih]
            · have key : ∀ (ws : List Nat) (τ : St), u ∉ ws → wipe (τ.set u none) ws = (wipe τ ws).set u none := by
                intro ws
                induction ws with
                | nil => intro τ _; rfl
                | cons z ws ih2 =>
                  intro τ hz
                  show (wipe (τ.set u none) ws).set z none = ((wipe τ ws).set z none).set u none
                  rw [ih2 τ (fun q => hz (List.mem_cons_of_mem _ q)), List.set_comm _ _ (fun q => hz (by rw [q]; exact List.mem_cons_self))]
              rw [key ws _ hu, ih, List.set_set]
        exact this _ _
      refine ⟨w5, F4, env4, c4, noX, _, re4, r4, fun _ _ _ _ _ _ _ z => z.elim, q4, ?_⟩
      have ll : Le F1 F4 := (l2.trans' l3).trans' l4
      intro F5 c5 H5 b l5 r5 q5
      cases b with
      | true =>
        rw [if_pos rfl] at q5 ⊢
        refine ⟨F5, env4, c5, noX, _, re4.le l5, r5, fun _ _ _ _ _ _ _ z => z.elim, q5, ?_⟩
        intro F6 c6 H6 v6 d6 l6 r6 h6 q6
        obtain ⟨acc, e6, g6, q6⟩ := q6
        obtain ⟨us, e7, h7⟩ := r6.lst e6
        refine ⟨us, e7, by rw [h7.length]; exact g6, F6, _, (ll.trans' l5).trans' l6, r6.wr (k := .lst (acc ++ [d6])) e6 (by rw [e7]; trivial) ⟨_, rfl, h7.app (.one h6)⟩, q6⟩
      | false =>
        rw [if_neg (by decide)] at q5 ⊢
        exact ⟨F5, c5, ll.trans' l5, r5, q5⟩
  · refine .inl ⟨it2 (by omega), ?_⟩
    have hz : i = ds.length := by omega
    subst hz
    obtain ⟨out, e2, q2⟩ := pd _ q2
    cases m with
    | true =>
      rw [if_pos rfl] at q2
      exact k F2 c2 H2 _ _ (l1.trans' l2) r2 (.ref A) q2
    | false =>
      rw [if_neg (by decide)] at q2
      obtain ⟨F3, l3, r3, h3⟩ := r2.frz e2
      exact k F3 _ H2 _ _ ((l1.trans' l2).trans' l3) r3 h3 q2
theorem ce_comp (m : Bool) (own : List (Str × Nat)) (nd : X.N.Nodup) (hc : X.calm = true) (hi : CI GI X tg iter wi) (ok : BlkOk X.N X.env.scope scope own)
    (hg : ∀ (s : Shared) (H : Hp) (C : Addr) (cl : List (Str × Addr)) (fp : List Addr), CG GI (X.blk s H scope (compEnvC scope cl C X.env) fp) (own.map (·.2)) tg wg)
    (ht : ∀ (s : Shared) (H : Hp) (C : Addr) (cl : List (Str × Addr)) (fp : List Addr), CTs GI (X.blk s H scope (compEnvC scope cl C X.env) fp) ifs wt)
    (he : ∀ (s : Shared) (H : Hp) (C : Addr) (cl : List (Str × Addr)) (fp : List Addr), CE GI (X.blk s H scope (compEnvC scope cl C X.env) fp) elt we) (hs : ∀ x, foldedSetIterable iter X.env x = pure x := by intro _; rfl) :
    CE GI X (.ListComp elt [⟨tg, iter, ifs, 0⟩] scope pos) (wComp m wi wg wt we (own.map (·.2))) := fun W x =>
  pe_imp (pe_lc (g := lowG X.K GI (own.map (·.2)) wg) (tt := lowT X.K GI (fun _ _ _ _ => False) wt) (te := lowE X.K GI (fun _ _ _ _ => False) we) hc x.nd (hi W x) ok (fun s H C cl fp => hg s H C cl fp nd) (fun s H C cl fp => ht s H C cl fp _ (blk_ok nd)) (fun s H C cl fp => he s H C cl fp _ (blk_ok nd)) hs) fun _ _ _ q => low_comp m q
theorem cs_setcomp (m : Bool) (i : Nat) {y : Str} {py spos : Pos} (own : List (Str × Nat)) (nd : X.N.Nodup) (hc : X.calm = true) (hi : CI GI X tg iter wi) (ok : BlkOk X.N X.env.scope scope own)
    (hg : ∀ (s : Shared) (H : Hp) (C : Addr) (cl : List (Str × Addr)) (fp : List Addr), CG GI (X.blk s H scope (compEnvC scope cl C X.env) fp) (own.map (·.2)) tg wg)
    (ht : ∀ (s : Shared) (H : Hp) (C : Addr) (cl : List (Str × Addr)) (fp : List Addr), CTs GI (X.blk s H scope (compEnvC scope cl C X.env) fp) ifs wt)
    (he : ∀ (s : Shared) (H : Hp) (C : Addr) (cl : List (Str × Addr)) (fp : List Addr), CE GI (X.blk s H scope (compEnvC scope cl C X.env) fp) elt we)
    (hy : X.N[i]? = some y := by rfl) (hyl : X.env.scope.names.lookup y = some .local := by rfl) (hsw : swapsWith (.ListComp elt [⟨tg, iter, ifs, 0⟩] scope pos) (some (.Name y py)) spos.line X.env = pure true := by exact sw_true rfl rfl rfl (by decide +kernel))
    (hs : ∀ x, foldedSetIterable iter X.env x = pure x := by intro _; rfl) : CS GI X (.Assign [.Name y py] (.ListComp elt [⟨tg, iter, ifs, 0⟩] scope pos) spos) (wAsg i (wComp m wi wg wt we (own.map (·.2)))) := fun W x => by
  refine ps_imp (ps_setLc (g := lowG X.K GI (own.map (·.2)) wg) (tt := lowT X.K GI (fun _ _ _ _ => False) wt) (te := lowE X.K GI (fun _ _ _ _ => False) we) hc x.nd hy hyl hsw (hi W x) ok (fun s H C cl fp => hg s H C cl fp nd) (fun s H C cl fp => ht s H C cl fp _ (blk_ok nd)) (fun s H C cl fp => he s H C cl fp _ (blk_ok nd)) hs) ?_
  rintro Dn σ H ⟨F, env, c, DD, re, r, q, l⟩
  refine low_comp m ⟨F, env, c, _, _, re, r, l.lx re, q, ?_⟩
  intro F1 c1 H1 v d l1 r1 h1 q1
  exact l.nx F1 _ c1 _ H1 l1 ((re.le l1).set i h1) r1 q1
end

/-! ### methods -/
def tyDl (T : String) (c : CMap) (d : D) : Prop := match res c d with
  | .str _ => T = "str"
  | .lst _ => T = "list"
  | .scr _ => T = "list"
  | _ => False
abbrev RDm := CMap → D → List D → DK → Prop
def SndM (K : PySem.W.Frag) (GI : Hp → Prop) (r : V → List V → Hp → VK → Prop) (R : RDm) : Prop := ∀ (F H : Hp) (c : CMap) (v : V) (d : D) (vs : List V) (ds : List D) (Qd : DK) (Q : VK), Rep K GI F c H → DV K F v d → DVs K F vs ds → R c d ds Qd → LQ K GI F Qd Q → r v vs H Q
def wMt (T : String) (R : RDm) (o : WE) (r : WA) : WE := fun E env c Q => o E env c fun d c1 => tyDl T c1 d ∧ r E env c1 fun ds c2 => R c2 d ds Q
theorem tyDl_snd {K : PySem.W.Frag} {GI : Hp → Prop} {F H : Hp} {c : CMap} {v : V} {d : D} {T : String} (r : Rep K GI F c H) (h : DV K F v d) (q : tyDl T c d) : tyV K T v H := by
  unfold tyDl at q
  split at q
  · rename_i e1
    obtain rfl := res_oth e1 (by intro _ z; cases z)
    rw [h.str_inv]; exact q
  · rename_i e1
    obtain ⟨p, xs, rfl, g1, k1⟩ := res_lst r h e1
    exact .inl ⟨q, xs, SqL.of g1⟩
  · rename_i e1
    obtain rfl := res_oth e1 (by intro _ z; cases z)
    obtain ⟨a, rfl, g⟩ := h.scr_inv
    exact .inl ⟨q, _, sqL_le r.sub g⟩
  · exact q.elim
section
variable {GI : Hp → Prop} {X : Cx} {o e : Expr} {es : List Expr} {wo : WE} {wr : WA} {name : Str} {apos cpos : Pos} {T id : String} {r : V → List V → Hp → VK → Prop} {R : RDm}
theorem ce_bm (pa : PlainAttrs T) (slot : Slot T name id) (hty : typeOf (.builtin id) = pure (.type "method_descriptor")) (hm : MtR X id r) (s : SndM X.K GI r R) (ho : CE GI X o wo) (ha : CA GI X (e :: es) wr)
    (hbase : attributeBase o name X.env (eval o X.env) = eval o X.env := by rfl)
    (hfew : ((backTo cpos (starEach (e :: es) X.env)).all (fun x => !x.1) && (backToKw cpos (keywordEach [] X.env)).all (fun x => x.1.isSome) && decide ((e :: es).length + ([] : List Keyword).length + (if ([] : List Keyword).isEmpty then 0 else 1) < 30)) = true := by rfl)
    (hline : (apos.endLine == cpos.line) = true := by rfl) (hs : starEach (e :: es) X.env = (false, eval e X.env) :: starEach es X.env := by rfl) (hplain : (backTo cpos (starEach es X.env)).any (·.1) = false := by rfl) : CE GI X (.Call (.Attribute o name apos) (e :: es) [] cpos) (wMt T R wo wr) := fun W x => by
  refine pe_imp (pe_bm pa slot hty hm (ho W x) (ha W x) hbase hfew hline hs hplain) ?_
  rintro σ H Q ⟨F, env, c, E, Qd, re, rp, lx, q, k⟩
  refine ⟨F, env, c, E, _, re, rp, lx, q, ?_⟩
  rintro F1 c1 H1 v d l1 r1 h1 ⟨q0, q1⟩
  refine ⟨tyDl_snd r1 h1 q0, F1, env, c1, E, _, re.le l1, r1, lx.le l1, q1, ?_⟩
  intro F2 c2 H2 vs ds l2 r2 h2 q2
  exact s F2 H2 c2 v d vs ds Qd Q r2 (h1.le l2) h2 q2 ((k.le l1).le l2)
end
def appR : RDm := fun c d ds Q => match d, ds with
  | .ref p, [x] => ∃ es, c p = some (.lst es) ∧ es.length < sizeLine ∧ Q .non (updc c p (.lst (es ++ [x])))
  | _, _ => False
def joinR : RDm := fun c d ds Q => match d, ds with
  | .str a, [e] => match res c e with
    | .lst es => ∃ ys : List Str, es = ys.map D.str ∧ (ys.map (·.length)).sum + ys.length * a.length ≤ 16777216 ∧ Q (.str (Txt.join a ys)) c
    | _ => False
  | _, _ => False
theorem strs_V {K : PySem.W.Frag} {F : Hp} : ∀ {vs : List V} {ys : List Str}, DVs K F vs (ys.map D.str) → vs = ys.map V.str
  | [], [], _ => rfl
  | _ :: _, [], h => by cases h
  | [], _ :: _, h => by cases h
  | v :: vs, y :: ys, h => by
    cases h with
    | cons h k => rw [h.str_inv, strs_V k]; rfl
section
variable {GI : Hp → Prop} {X : Cx} {o e : Expr} {wo : WE} {wr : WA} {apos cpos : Pos}
theorem ce_append (ho : CE GI X o wo) (ha : CA GI X [e] wr)
    (hbase : attributeBase o "append" X.env (eval o X.env) = eval o X.env := by rfl)
    (hfew : ((backTo cpos (starEach [e] X.env)).all (fun x => !x.1) && (backToKw cpos (keywordEach [] X.env)).all (fun x => x.1.isSome) && decide (([e] : List Expr).length + ([] : List Keyword).length + (if ([] : List Keyword).isEmpty then 0 else 1) < 30)) = true := by rfl)
    (hline : (apos.endLine == cpos.line) = true := by rfl) (hs : starEach [e] X.env = (false, eval e X.env) :: starEach [] X.env := by rfl) (hplain : (backTo cpos (starEach [] X.env)).any (·.1) = false := by rfl) : CE GI X (.Call (.Attribute o "append" apos) [e] [] cpos) (wMt "list" appR wo wr) :=
  ce_bm PySem.F.plainAttrs_list PySem.F.slot_list_append PySem.F.type_list_append mt_append (fun F H c v d vs ds Qd Q r h1 h2 q k => by
    unfold appR at q
    split at q
    · obtain ⟨u, rfl, h3⟩ := h2.inv1
      obtain ⟨es, e1, q1, q2⟩ := q
      obtain ⟨us, g1, k1⟩ := r.lst e1
      exact ⟨_, us, u, h1.ref_inv, rfl, g1, by rw [k1.length]; exact q1, k F _ _ _ _ Le.rfl' (r.wr (k := .lst (es ++ [_])) e1 (by rw [g1]; trivial) ⟨_, rfl, k1.app (.one h3)⟩) .non q2⟩
    · exact q.elim) ho ha hbase hfew hline hs hplain
theorem ce_join (ho : CE GI X o wo) (ha : CA GI X [e] wr)
    (hbase : attributeBase o "join" X.env (eval o X.env) = eval o X.env := by rfl)
    (hfew : ((backTo cpos (starEach [e] X.env)).all (fun x => !x.1) && (backToKw cpos (keywordEach [] X.env)).all (fun x => x.1.isSome) && decide (([e] : List Expr).length + ([] : List Keyword).length + (if ([] : List Keyword).isEmpty then 0 else 1) < 30)) = true := by rfl)
    (hline : (apos.endLine == cpos.line) = true := by rfl) (hs : starEach [e] X.env = (false, eval e X.env) :: starEach [] X.env := by rfl) (hplain : (backTo cpos (starEach [] X.env)).any (·.1) = false := by rfl) : CE GI X (.Call (.Attribute o "join" apos) [e] [] cpos) (wMt "str" joinR wo wr) :=
  ce_bm PySem.F.plainAttrs_str PySem.F.slot_str_join PySem.F.type_str_join mt_join (fun F H c v d vs ds Qd Q r h1 h2 q k => by
    unfold joinR at q
    split at q
    · obtain ⟨u, rfl, h3⟩ := h2.inv1
      split at q
      · rename_i e1
        obtain ⟨ys, rfl, q1, q2⟩ := q
        obtain ⟨p, xs, rfl, g1, k1⟩ := res_lst r h3 e1
        obtain rfl := strs_V k1
        exact ⟨_, p, ys, h1.str_inv, rfl, .inl (SqL.of g1), q1, k F c H _ _ Le.rfl' r (.str _) q2⟩
      · exact q.elim
    · exact q.elim) ho ha hbase hfew hline hs hplain
end

/-! ### dicts: new, get -/
def wDict (t : Bool) : WE := fun _ _ c Q => ∀ p, c p = none → Q (.ref p) (updc c p (if t then .dT [] else .dK []))
def wGet2 (o k x : WE) : WE := fun E env c Q => o E env c fun d c1 => ∃ p, d = .ref p ∧ ((∃ kvs, c1 p = some (.dK kvs)) ∨ ∃ kvs, c1 p = some (.dT kvs)) ∧ k E env c1 fun y c2 => x E env c2 fun z c3 => dictAt c3 p y fun r => Q (r.getD z) c3
section
variable {GI : Hp → Prop} {X : Cx} {o e f : Expr} {wo wk wx : WE} {apos cpos pos : Pos}
theorem ce_dict (t : Bool) : CE GI X (.Dict [] [] pos) (wDict t) := fun W x => by
  cases t with
  | true =>
    refine pe_imp pe_dnewT ?_
    rintro σ H Q ⟨F, env, c, E, Qd, re, rp, lx, q, k⟩ p hp
    exact k F _ _ _ _ Le.rfl' (rp.newC (k := .dT []) hp ⟨[], rfl, .nil⟩) (.ref p) (q p (rp.frc hp))
  | false =>
    refine pe_imp pe_dnewK ?_
    rintro σ H Q ⟨F, env, c, E, Qd, re, rp, lx, q, k⟩ p hp
    exact k F _ _ _ _ Le.rfl' (rp.newC (k := .dK []) hp ⟨[], rfl, .nil⟩) (.ref p) (q p (rp.frc hp))
theorem isD_of {K : PySem.W.Frag} {F H : Hp} {c : CMap} {p : Addr} (r : Rep K GI F c H) (h : (∃ kvs, c p = some (.dK kvs)) ∨ ∃ kvs, c p = some (.dT kvs)) : IsD H p := by
  rcases h with ⟨kvs, e⟩ | ⟨kvs, e⟩
  · obtain ⟨_, o, h0, us, rfl, _⟩ := r.cel _ _ e
    exact .inl ⟨us, .inl h0⟩
  · obtain ⟨_, o, h0, us, rfl, _⟩ := r.cel _ _ e
    exact .inr ⟨us, .inl h0⟩
theorem ce_get2 (hr : Room 0 X.A) (ho : CE GI X o wo) (he : CE GI X e wk) (hf : CE GI X f wx) (m : M2 X o "get" apos e f cpos := by exact ⟨rfl, rfl, rfl, rfl⟩) : CE GI X (.Call (.Attribute o "get" apos) [e, f] [] cpos) (wGet2 wo wk wx) := fun W x => by
  refine pe_imp (pe_dget2 (hu_of hr) (ho W x) (he W x) (hf W x) m) ?_
  rintro σ H Q ⟨F, env, c, E, Qd, re, rp, lx, q, k⟩
  refine ⟨F, env, c, E, _, re, rp, lx, q, ?_⟩
  rintro F1 c1 H1 v d l1 r1 h1 ⟨p, rfl, hd, q1⟩
  refine ⟨p, h1.ref_inv, isD_of r1 hd, F1, env, c1, E, _, re.le l1, r1, lx.le l1, q1, ?_⟩
  intro F2 c2 H2 v2 d2 l2 r2 h2 q2
  refine ⟨F2, env, c2, E, _, (re.le l1).le l2, r2, (lx.le l1).le l2, q2, ?_⟩
  intro F3 c3 H3 v3 d3 l3 r3 h3 q3
  obtain ⟨oo, od, g, q, z⟩ := dict_snd r3 (h2.le l3) q3
  refine ⟨oo, g, ?_⟩
  rcases z with ⟨rfl, rfl⟩ | ⟨a, b, rfl, rfl, hh⟩
  · exact k F3 c3 H3 _ _ ((l1.trans' l2).trans' l3) r3 h3 q
  · exact k F3 c3 H3 _ _ ((l1.trans' l2).trans' l3) r3 hh q
end

/-! ### defs -/
/-- a def keeps its promise: its body as written, what the body does, what is wanted of it -/
theorem fnd_of {GI : Hp → Prop} {P : Program} {w : World} {K : PySem.W.Frag} {mg : Str → Option Value} {base : Heap} {x qual : Str} {st : Stmt} {f : Addr} {fd : FuncData} {N ps : List Str} {k n : Nat} {sp : DSpec} {ws : WS}
    (F : Fun K x qual st f fd) (hb : Binds K fd ps []) (S : FnScope N ps (defScope st)) (hn : ps.length = n) (hN : N.length = N.length)
    (len : ∀ ds c E Q, sp ds c E Q → ds.length = n)
    (body : ∀ (cdv : Value) (A : Around) (outer : List Env) (s : Shared) (H : Hp) (E : XK), Room k (A.deeper (envOfC qual (defScope st) s.heap.objs.size f cdv)) →
      CSs GI (cxOf (L2.CX P w) P w K mg base N qual (defScope st) f cdv A outer s H E) (defBody st) ws)
    (ok : ∀ ds c (E : XD) (Q : DK), sp ds c E Q → ws { nx := fun _ c' => ∃ c2, SubC c2 c' ∧ Q .non c2, rt := fun d c' => ∃ c2, SubC c2 c' ∧ Q d c2, ex := fun cls od _ c' => ∃ c2, SubC c2 c' ∧ E cls od c2 } (startE N.length ds) c) :
    FnD GI P w K mg base (k + 1) f n sp := by
  refine ⟨fd, ps, hn, F.kp, hb, F.okX S (fun vs H Q E h => ?_) fun cdv A outer s H vs Q E hr h => ?_⟩
  · obtain ⟨G, ds, c, E', Qd, h1, h2, h3, _⟩ := h
    rw [h1.length, len _ _ _ _ h3, hn]
  · obtain ⟨G, ds, c, E', Qd, h1, h2, h3, h4, h5⟩ := h
    refine ⟨_, body cdv A outer s H E hr (fun cls d _ H => E cls d H) ⟨S.nd, takes_of rfl rfl rfl rfl, PassesOwn.leaving⟩, G, _, c, _, RepE.start h1, h2, ok ds c E' Qd h3, ⟨?_, ?_, ?_, ?_, ?_⟩⟩
    · rintro G' env' c' σ' H' l re r ⟨c2, s2, q⟩
      exact h4 G' c2 H' _ _ l (r.sub' s2) .non q
    · rintro G' c' H' v d l r hd ⟨c2, s2, q⟩
      exact h4 G' c2 H' _ _ l (r.sub' s2) hd q
    · rintro G' env' c' σ' H' l re r q
      exact q
    · rintro G' env' c' σ' H' l re r q
      exact q
    · rintro G' env' c' σ' H' cls od l re r ⟨c2, s2, q⟩
      exact h5 G' c2 H' cls od l (r.sub' s2) q
end DL
namespace DL
open PySem PySem.Spec L2
abbrev HasG (GI : Hp → Prop) (P : Program) (w : World) (K : PySem.W.Frag) (mg : Str → Option Value) (base : Heap) (k : Nat) (x : Str) (n : Nat) (sp : DSpec) : Prop := ∃ f, mg x = some (.ref f) ∧ FnD GI P w K mg base k f n sp
theorem FnD.mono {GI : Hp → Prop} {P : Program} {w : World} {K : PySem.W.Frag} {mg : Str → Option Value} {base : Heap} {j k : Nat} {f : Addr} {n : Nat} {sp : DSpec} (h : FnD GI P w K mg base j f n sp) (l : j ≤ k) : FnD GI P w K mg base k f n sp := by
  obtain ⟨fd, ps, h1, h2, h3, h4⟩ := h.ex
  exact ⟨fd, ps, h1, h2, h3, h4.mono l⟩
theorem FnD.imp {GI : Hp → Prop} {P : Program} {w : World} {K : PySem.W.Frag} {mg : Str → Option Value} {base : Heap} {k : Nat} {f : Addr} {n : Nat} {sp sp' : DSpec} (h : FnD GI P w K mg base k f n sp) (l : ∀ ds c E Q, sp' ds c E Q → sp ds c E Q) : FnD GI P w K mg base k f n sp' := by
  obtain ⟨fd, ps, h1, h2, h3, h4⟩ := h.ex
  refine ⟨fd, ps, h1, h2, h3, h4.imp ?_⟩
  rintro vs H Q E ⟨F, ds, c, E', Qd, g1, g2, g3, g4, g5⟩
  exact ⟨F, ds, c, E', Qd, g1, g2, l _ _ _ _ g3, g4, g5⟩
end DL
/-! the data layer: how a body is gone through -/
namespace DL
open PySem PySem.Spec L2
open PyProof.Rows hiding St
section
variable {E : XD} {env env' : DEnv} {c c1 : CMap} {Q : DK} {DD : DEnds} {i : Nat} {d e x : D} {ds es : List D} {p : Addr}
theorem wSeq_i {a b : WS} (h : a { DD with nx := fun env' c' => b DD env' c' } env c) : wSeq a b DD env c := h
theorem wSkip_i (h : DD.nx env c) : wSkip DD env c := h
theorem wBrk_i (h : DD.bk env c) : wBrk DD env c := h
theorem wCnt_i (h : DD.ct env c) : wCnt DD env c := h
theorem wRet_i {a : WE} (h : a (exE DD env) env c DD.rt) : wRet a DD env c := h
theorem wRetN_i (h : DD.rt .non c) : wRetN DD env c := h
theorem wDrop_i {a : WE} (h : a (exE DD env) env c fun _ c1 => DD.nx env c1) : wDrop a DD env c := h
theorem wIf_i {t : WT} {a b : WS} (h : t (exE DD env) env c fun k c1 => if k = true then a DD env c1 else b DD env c1) : wIf t a b DD env c := h
theorem wAsg_i {a : WE} (h : a (exE DD env) env c fun d c1 => DD.nx (env.set i (some d)) c1) : wAsg i a DD env c := h
theorem wAsgG_i {a : WE} {g : WG} (h : a (exE DD env) env c fun d c1 => g d env c1 DD.nx) : wAsgG g a DD env c := h
theorem wSet_i {o k a : WE} (h : a (exE DD env) env c fun d c1 => o (exE DD env) env c1 fun x c2 => k (exE DD env) env c2 fun y c3 => setR c3 x y d fun c4 => DD.nx env c4) : wSet o k a DD env c := h
theorem gNm_i {N : DEnv → CMap → Prop} (h : N (env.set i (some d)) c) : gNm i d env c N := h
theorem gTp_i {n : Nat} {gs : WGs} {N : DEnv → CMap → Prop} (hl : ds.length = n) (h : gs ds env c N) : gTp n gs (.tup ds) env c N := ⟨ds, .inl rfl, hl, h⟩
theorem gTp_k {n : Nat} {gs : WGs} {N : DEnv → CMap → Prop} (hl : ds.length = n) (h : gs ds env c N) : gTp n gs (.kt ds) env c N := ⟨ds, .inr rfl, hl, h⟩
theorem gCn_i {g : WG} {gs : WGs} {N : DEnv → CMap → Prop} (h : g d env c fun env' c' => gs es env' c' N) : gCn g gs (d :: es) env c N := ⟨d, es, rfl, h⟩
theorem gNl_i {N : DEnv → CMap → Prop} (h : N env c) : gNl [] env c N := ⟨rfl, h⟩
theorem wVar_i (h : getE env i = some d) (q : Q d c) : wVar i E env c Q := ⟨d, h, q⟩
theorem wC_i (q : Q d c) : wC d E env c Q := q
theorem wOp_i {R : RD2} {a b : WE} (h : a E env c fun d c1 => b E env c1 fun e c2 => R c2 d e Q) : wOp R a b E env c Q := h
theorem wNeg_i {a : WE} (h : a E env c fun d c1 => negR d c1 Q) : wNeg a E env c Q := h
theorem neg_i {k : Int} (q : Q (.int (-k)) c) : negR (.int k) c Q := q
theorem wFn_i {R : RDn} {r : WA} (h : r E env c fun ds c1 => R c1 ds Q) : wFn R r E env c Q := h
theorem wCall_i {sp : DSpec} {r : WA} (h : r E env c fun ds c1 => sp ds c1 E Q) : wCall sp r E env c Q := h
theorem wNil_i {N : List D → CMap → Prop} (h : N [] c) : wNil E env c N := h
theorem wCons_i {a : WE} {r : WA} {N : List D → CMap → Prop} (h : a E env c fun d c1 => r E env c1 fun ds c2 => N (d :: ds) c2) : wCons a r E env c N := h
theorem wTup_i {r : WA} (h : r E env c fun ds c1 => ds.length ≤ sizeLine ∧ Q (.tup ds) c1) : wTup r E env c Q := h
theorem wLst_i {m : Bool} {r : WA} (h : r E env c fun ds c1 => ds.length ≤ sizeLine ∧ newL m c1 ds Q) : wLst m r E env c Q := h
theorem len_ok {n : Nat} (h : Nat.ble n 16777216 = true) : n ≤ sizeLine := by rw [sizeLine_eq]; exact Nat.le_of_ble_eq_true h
theorem len_le {n : Nat} (h : n ≤ 16777216) : n ≤ sizeLine := by rw [sizeLine_eq]; exact h
theorem len_lt {n : Nat} (h : n < 16777216) : n < sizeLine := by rw [sizeLine_eq]; exact h
theorem lenQ {n : Nat} {A : Prop} (h : Nat.ble n 16777216 = true) (q : A) : n ≤ sizeLine ∧ A := ⟨len_ok h, q⟩
theorem newL_f (h : Q (.lst ds) c) : newL false c ds Q := by unfold newL; rw [if_neg (by decide)]; exact h
theorem newL_t (h : ∀ p, c p = none → Q (.ref p) (updc c p (.lst ds))) : newL true c ds Q := by unfold newL; rw [if_pos rfl]; exact h
theorem wTst_i {a : WE} {N : Bool → CMap → Prop} (h : a E env c fun d c' => asB d c' N) : wTst a E env c N := h
theorem asB_i {b : Bool} {N : Bool → CMap → Prop} (h : N b c) : asB (.bl b) c N := h
theorem asI_i {k : Int} {N : Int → CMap → Prop} (h : N k c) : asI (.int k) c N := h
theorem wNot_i {t : WT} {N : Bool → CMap → Prop} (h : t E env c fun b c1 => N (!b) c1) : wNot t E env c N := h
theorem wAnd_i {s t : WT} {N : Bool → CMap → Prop} (h : s E env c fun b c1 => if b = true then t E env c1 N else N false c1) : wAnd s t E env c N := h
theorem wOr_i {s t : WT} {N : Bool → CMap → Prop} (h : s E env c fun b c1 => if b = true then N true c1 else t E env c1 N) : wOr s t E env c N := h
theorem wAndV_i {a b : WE} (h : a E env c fun d c1 => asB d c1 fun k c2 => if k = true then b E env c2 Q else Q (.bl false) c2) : wAndV a b E env c Q := h
theorem wOrV_i {a b : WE} (h : a E env c fun d c1 => asB d c1 fun k c2 => if k = true then Q (.bl true) c2 else b E env c2 Q) : wOrV a b E env c Q := h
theorem wNotV_i {a : WE} (h : a E env c fun d c1 => asB d c1 fun k c2 => Q (.bl (!k)) c2) : wNotV a E env c Q := h
theorem wIfE_i {t : WT} {a b : WE} (h : t E env c fun k c1 => if k = true then a E env c1 Q else b E env c1 Q) : wIfE t a b E env c Q := h
theorem wYes_i {N : Bool → CMap → Prop} (h : N true c) : wYes E env c N := h
theorem wSl_i {m : Bool} {a : WE} {lo hi : WO} (h : a E env c fun d c1 => lo E env c1 fun l c2 => hi E env c2 fun u c3 => sliceR m c3 d l u Q) : wSl m a lo hi E env c Q := h
theorem wNo_i {N : Option Int → CMap → Prop} (h : N none c) : wNo E env c N := h
theorem wSome_i {a : WE} {N : Option Int → CMap → Prop} (h : a E env c fun d c1 => asI d c1 fun i c2 => N (some i) c2) : wSome a E env c N := h
theorem wFrz_i {a : WE} (h : a E env c fun d c1 => frzR d c1 Q) : wFrz a E env c Q := h
theorem frzQ (h : c p = some (.lst ds)) (q : Q (.lst ds) (delc c p)) : frzR (.ref p) c Q := ⟨p, ds, rfl, h, q⟩
theorem wWk_i {a : WE} (h : a E env c (wkQ Q)) : wWk a E env c Q := h
theorem wk_i {c2 : CMap} (h : SubC c2 c) (q : Q d c2) : wkQ Q d c := ⟨c2, h, q⟩
theorem wMt_i {T : String} {R : RDm} {o : WE} {r : WA} (h : o E env c fun d c1 => tyDl T c1 d ∧ r E env c1 fun ds c2 => R c2 d ds Q) : wMt T R o r E env c Q := h
theorem wGet2_i {o k z : WE} (h : o E env c fun d c1 => ∃ p, d = .ref p ∧ ((∃ kvs, c1 p = some (.dK kvs)) ∨ ∃ kvs, c1 p = some (.dT kvs)) ∧ k E env c1 fun y c2 => z E env c2 fun w c3 => dictAt c3 p y fun r => Q (r.getD w) c3) : wGet2 o k z E env c Q := h
theorem wDict_i {t : Bool} (h : ∀ p, c p = none → Q (.ref p) (updc c p (if t then .dT [] else .dK []))) : wDict t E env c Q := h
theorem wIt_i {a : WE} {N : List D → (CMap → Prop) → CMap → Prop} (h : a E env c fun d c1 => itR d c1 N) : wIt a E env c N := h
theorem itQ {N : List D → (CMap → Prop) → CMap → Prop} (h : itsD d = some ds) (q : N ds noG c) : itR d c N := .inl ⟨ds, h, q⟩
theorem itC {N : List D → (CMap → Prop) → CMap → Prop} (h : c p = some (.lst ds)) (q : N ds (fun c => c p = some (.lst ds)) c) : itR (.ref p) c N := .inr ⟨p, ds, rfl, h, q⟩
theorem wRg1_i {r : WA} {N : List D → (CMap → Prop) → CMap → Prop} (h : r E env c fun ds c1 => rgR1 ds c1 N) : wRg1 r E env c N := h
theorem wRg2_i {r : WA} {N : List D → (CMap → Prop) → CMap → Prop} (h : r E env c fun ds c1 => rgR2 ds c1 N) : wRg2 r E env c N := h
theorem wZip_i {r : WA} {N : List D → (CMap → Prop) → CMap → Prop} (h : r E env c fun ds c1 => zipR ds c1 N) : wZip r E env c N := h
theorem wEnum_i {r : WA} {N : List D → (CMap → Prop) → CMap → Prop} (h : r E env c fun ds c1 => enumR ds c1 N) : wEnum r E env c N := h
theorem rg1_i {n : Int} {N : List D → (CMap → Prop) → CMap → Prop} (h1 : -4611686018427387904 ≤ n) (h2 : n < 4611686018427387904) (q : N ((upto 0 n.toNat).map D.int) noG c) : rgR1 [.int n] c N := ⟨h1, h2, q⟩
theorem rg2_i {a b : Int} {N : List D → (CMap → Prop) → CMap → Prop} (h1 : -4611686018427387904 ≤ a) (h2 : a < 4611686018427387904) (h3 : -4611686018427387904 ≤ b) (h4 : b < 4611686018427387904) (q : N ((upto a (b - a).toNat).map D.int) noG c) : rgR2 [.int a, .int b] c N := ⟨h1, h2, h3, h4, q⟩
abbrev ndG : CMap → Prop := fun c => noG c ∧ noG c
theorem zip_i {xs ys : List D} {N : List D → (CMap → Prop) → CMap → Prop} (q : N ((xs.zip ys).map fun p => D.tup [p.1, p.2]) ndG c) : zipR [.lst xs, .lst ys] c N := .inl ⟨xs, ys, _, _, .inl ⟨rfl, rfl⟩, .inl ⟨rfl, rfl⟩, q⟩
theorem zip_t {xs ys : List D} {N : List D → (CMap → Prop) → CMap → Prop} (q : N ((xs.zip ys).map fun p => D.tup [p.1, p.2]) noG c) : zipR [.tup xs, .tup ys] c N := .inr ⟨xs, ys, rfl, rfl, q⟩
theorem zip_cl {xs ys : List D} {N : List D → (CMap → Prop) → CMap → Prop} (h : c p = some (.lst xs)) (q : N ((xs.zip ys).map fun p => D.tup [p.1, p.2]) (fun c => c p = some (.lst xs) ∧ noG c) c) : zipR [.ref p, .lst ys] c N := .inl ⟨xs, ys, _, _, .inr ⟨p, rfl, h, rfl⟩, .inl ⟨rfl, rfl⟩, q⟩
theorem enum_i {xs : List D} {N : List D → (CMap → Prop) → CMap → Prop} (q : N (xs.mapIdx fun i x => D.tup [.int (i : Nat), x]) noG c) : enumR [.lst xs] c N := ⟨xs, _, .inl ⟨rfl, rfl⟩, q⟩
theorem wFor_i {wi : WI} {wg : WG} {b : WS} (h : wi (exE DD env) env c fun ds G c1 => ForP wg b DD ds G env c1) : wFor wi wg b DD env c := h
theorem wComp_i {m : Bool} {wi : WI} {wg : WG} {wt : WT} {we : WE} {vs : List Nat} (h : wi E env c fun ds G c1 => ∀ A, c1 A = none → CompP m (compS wg wt we (wipeE env vs)) A ds G c1 Q) : wComp m wi wg wt we vs E env c Q := h
theorem compS_i {wg : WG} {wt : WT} {we : WE} {k : Option D → CMap → Prop} (h : wg d env c fun env2 c2 => wt noX env2 c2 fun b c3 => if b = true then we noX env2 c3 fun y c4 => k (some y) c4 else k none c3) : compS wg wt we env d c k := h
theorem forS_i {wg : WG} {b : WS} {N : DEnv → CMap → Prop} (h : wg d env c fun env2 c2 => b { DD with nx := N, ct := N, bk := DD.nx } env2 c2) : forS wg b DD d env c N := h
theorem res_c (h : c p = some (.lst ds)) : res c (.ref p) = .lst ds := by show resAt (c p) p = _; rw [h]; rfl
theorem res_K {kvs : List (Key × D)} (h : c p = some (.dK kvs)) : res c (.ref p) = .ref p := by show resAt (c p) p = _; rw [h]; rfl
theorem res_T {kvs : List (List Key × D)} (h : c p = some (.dT kvs)) : res c (.ref p) = .ref p := by show resAt (c p) p = _; rw [h]; rfl
theorem res_w {o : HO} (h : c p = some (.raw o)) : res c (.ref p) = .ref p := by show resAt (c p) p = _; rw [h]; rfl
theorem dA_T {kvs : List (List Key × D)} {ks : List Key} {k : Option D → Prop} (h : c p = some (.dT kvs)) (h2 : keysD es = some ks) (q : k (valD kvs ks)) : dictAt c p (.tup es) k := by unfold dictAt; rw [h]; dsimp only; rw [h2]; exact q
theorem dA_K {kvs : List (Key × D)} {x : Key} {k : Option D → Prop} (h : c p = some (.dK kvs)) (h2 : keyD d = some x) (q : k (valD kvs x)) : dictAt c p d k := by unfold dictAt; rw [h]; dsimp only; rw [h2]; exact q
theorem at0 {α : Type} (x : α) (xs : List α) : atI (x :: xs) 0 = some x := atI_nat (j := 0) rfl
theorem at1 {α : Type} (x y : α) (xs : List α) : atI (x :: y :: xs) 1 = some y := atI_nat (j := 1) rfl
theorem atn {α : Type} {xs : List α} {i : Int} {j : Nat} {x : α} (e : i = (j : Int)) (h : xs[j]? = some x) : atI xs i = some x := by rw [e]; exact atI_nat h
theorem ixn {n : Nat} {i : Int} {j : Nat} (e : i = (j : Int)) (h : j < n) : ixN n i = some j := by
  subst e; unfold ixN; rw [if_pos (by omega), if_pos (by omega)]; simp
/-! by values -/
theorem add_ii {m : Bool} {i j : Int} (q : Q (.int (i + j)) c) : addR m c (.int i) (.int j) Q := q
theorem add_ss {m : Bool} {i j : Str} (h : i.length + j.length ≤ sizeLine) (q : Q (.str (i ++ j)) c) : addR m c (.str i) (.str j) Q := ⟨h, q⟩
theorem add_ll {m : Bool} {a b : List D} (h : a.length + b.length ≤ sizeLine) (q : newL m c (a ++ b) Q) : addR m c (.lst a) (.lst b) Q := ⟨h, q⟩
theorem add_tt {m : Bool} {a b : List D} (h1 : a ≠ []) (h2 : b ≠ []) (h : a.length + b.length ≤ sizeLine) (q : Q (.tup (a ++ b)) c) : addR m c (.tup a) (.tup b) Q := ⟨h1, h2, h, q⟩
theorem sub_ii {i j : Int} (q : Q (.int (i - j)) c) : subR c (.int i) (.int j) Q := q
theorem mul_ii {m : Bool} {i j : Int} (h : CMul i j ∨ CMulW i j) (q : Q (.int (i * j)) c) : mulR m c (.int i) (.int j) Q := ⟨h, q⟩
theorem mul_li {m : Bool} {a : List D} {k : Int} (h1 : -(2 ^ 63) ≤ k) (h2 : k < 2 ^ 63) (h : a.length * k.toNat ≤ sizeLine) (q : newL m c (List.replicate k.toNat a).flatten Q) : mulR m c (.lst a) (.int k) Q := ⟨h1, h2, h, q⟩
theorem fdiv_ii {i j : Int} (h : CDiv i j ∨ CDivW i j) (q : Q (.int (i / j)) c) : fdivR c (.int i) (.int j) Q := ⟨h, q⟩
theorem mod_ii {i j : Int} (h : 0 < j) (q : Q (.int (i % j)) c) : modR c (.int i) (.int j) Q := ⟨h, q⟩
theorem pow_ii {i j z : Int} (h : CPow i j) (e : i ^ j.toNat = z) (q : Q (.int z) c) : powR c (.int i) (.int j) Q := ⟨h, by rw [e]; exact q⟩
theorem lt_ii {f : Int → Int → Bool} {g : Str → Str → Bool} {i j : Int} (q : Q (.bl (f i j)) c) : ltR f g c (.int i) (.int j) Q := q
theorem ltI_ii {f : Int → Int → Bool} {i j : Int} (q : Q (.bl (f i j)) c) : ltI f c (.int i) (.int j) Q := q
theorem eq_ii {n : Bool} {i j : Int} (q : Q (.bl (n ^^ decide (i = j))) c) : eqR n c (.int i) (.int j) Q :=
  ⟨⟨rfl, by simp [res, dep]⟩, ⟨rfl, by simp [res, dep]⟩, by
    show Q (.bl (n ^^ decide (D.int i = D.int j))) c
    have : decide (D.int i = D.int j) = decide (i = j) := by simp
    rw [this]; exact q⟩
theorem eq_dd {n : Bool} {d' e' : D} (h1 : res c d = d') (h2 : res c e = e') (o1 : eqOk d') (o2 : eqOk e') (q : Q (.bl (n ^^ decide (d' = e'))) c) : eqR n c d e Q := by
  unfold eqR
  rw [h1, h2]
  split
  · exact absurd o1.1 (by simp [okD])
  · exact ⟨o1, o2, q⟩
theorem in_l {n : Bool} (h1 : res c e = .lst ds) (h2 : flatD d = true) (h3 : ds.all flatD = true) (q : Q (.bl (n ^^ decide (d ∈ ds))) c) : inR n c d e Q := by unfold inR; rw [h1]; exact ⟨h2, h3, q⟩
theorem in_t {n : Bool} (h2 : flatD d = true) (h3 : ds.all flatD = true) (q : Q (.bl (n ^^ decide (d ∈ ds))) c) : inR n c d (.tup ds) Q := ⟨h2, h3, q⟩
theorem in_k {n : Bool} (h2 : flatD d = true) (h3 : ds.all flatD = true) (q : Q (.bl (n ^^ decide (d ∈ ds))) c) : inR n c d (.kt ds) Q := ⟨h2, h3, q⟩
theorem in_s {n : Bool} {k : Nat} {z : Str} (q : Q (.bl (n ^^ decide (k ∈ z.cps.toList))) c) : inR n c (.str ⟨#[k]⟩) (.str z) Q := ⟨k, rfl, q⟩
theorem in_dT {n : Bool} {kvs : List (List Key × D)} {ks : List Key} (h : c p = some (.dT kvs)) (h2 : keysD es = some ks) (q : Q (.bl (n ^^ (valD kvs ks).isSome)) c) : inR n c (.tup es) (.ref p) Q := by
  unfold inR; rw [res_T h]; exact dA_T h h2 q
theorem in_dK {n : Bool} {kvs : List (Key × D)} {k : Key} (h : c p = some (.dK kvs)) (h2 : keyD d = some k) (q : Q (.bl (n ^^ (valD kvs k).isSome)) c) : inR n c d (.ref p) Q := by
  unfold inR; rw [res_K h]; exact dA_K h h2 q
theorem ix_l {i : Int} (h : atI ds i = some x) (q : Q x c) : idxR c (.lst ds) (.int i) Q := ⟨x, h, q⟩
theorem ix_t {i : Int} (h : atI ds i = some x) (q : Q x c) : idxR c (.tup ds) (.int i) Q := ⟨x, h, q⟩
theorem ix_k {i : Int} (h : atI ds i = some x) (q : Q x c) : idxR c (.kt ds) (.int i) Q := ⟨x, h, q⟩
theorem ix_s {i k : Int} {ns : List Int} (h : atI ns i = some k) (q : Q (.int k) c) : idxR c (.scr ns) (.int i) Q := ⟨k, h, q⟩
theorem ix_c {i : Int} (hc : c p = some (.lst ds)) (h : atI ds i = some x) (q : Q x c) : idxR c (.ref p) (.int i) Q := by unfold idxR; rw [res_c hc]; exact ⟨x, h, q⟩
theorem ix_str {i : Int} {z : Str} {k : Nat} (hl : z.length ≤ sizeLine) (h : atI z.cps.toList i = some k) (q : Q (.str ⟨#[k]⟩) c) : idxR c (.str z) (.int i) Q := ⟨hl, k, h, q⟩
theorem ix_dT {kvs : List (List Key × D)} {ks : List Key} (h : c p = some (.dT kvs)) (h2 : keysD es = some ks) (h3 : valD kvs ks = some x) (q : Q x c) : idxR c (.ref p) (.tup es) Q := by
  unfold idxR; rw [res_T h]; exact dA_T h h2 ⟨x, h3, q⟩
theorem ix_dK {kvs : List (Key × D)} {k : Key} (h : c p = some (.dK kvs)) (h2 : keyD d = some k) (h3 : valD kvs k = some x) (q : Q x c) : idxR c (.ref p) d Q := by
  unfold idxR; rw [res_K h]
  cases d <;> simp only [keyD, Option.some.injEq, reduceCtorEq] at h2 <;> exact dA_K h (by simp only [keyD, h2]) ⟨x, h3, q⟩
theorem sl_l {m : Bool} {lo hi : Option Int} (q : newL m c (cutG ds lo hi) Q) : sliceR m c (.lst ds) lo hi Q := q
theorem sl_c {m : Bool} {lo hi : Option Int} (h : c p = some (.lst ds)) (q : newL m c (cutG ds lo hi) Q) : sliceR m c (.ref p) lo hi Q := by unfold sliceR; rw [res_c h]; exact q
theorem sl_r {m : Bool} {lo hi : Option Int} {ns : List Int} (q : newL m c ((cutG ns lo hi).map D.int) Q) : sliceR m c (.scr ns) lo hi Q := q
theorem sl_s {m : Bool} {lo hi : Option Int} {z : Str} (h : z.length ≤ sizeLine) (q : Q (.str (cutS z lo hi)) c) : sliceR m c (.str z) lo hi Q := ⟨h, q⟩
theorem len_l (q : Q (.int ds.length) c) : lenR c [.lst ds] Q := q
theorem len_t (q : Q (.int ds.length) c) : lenR c [.tup ds] Q := q
theorem len_k (q : Q (.int ds.length) c) : lenR c [.kt ds] Q := q
theorem len_r {ns : List Int} (q : Q (.int ns.length) c) : lenR c [.scr ns] Q := q
theorem len_s {z : Str} (h : z.length ≤ sizeLine) (q : Q (.int z.length) c) : lenR c [.str z] Q := ⟨h, q⟩
theorem len_c (h : c p = some (.lst ds)) (q : Q (.int ds.length) c) : lenR c [.ref p] Q := by unfold lenR; dsimp only; rw [res_c h]; exact q
theorem int_i {k : Int} (q : Q (.int k) c) : intR c [.int k] Q := q
theorem int_b {b : Bool} (q : Q (.int (if b then 1 else 0)) c) : intR c [.bl b] Q := q
theorem abs_i {k : Int} (q : Q (.int (if k < 0 then -k else k)) c) : absR c [.int k] Q := q
theorem max2_i {i j : Int} (q : Q (.int (if j > i then j else i)) c) : max2R c [.int i, .int j] Q := q
theorem min2_i {i j : Int} (q : Q (.int (if j < i then j else i)) c) : min2R c [.int i, .int j] Q := q
theorem str_i {k : Int} (h : k.natAbs.log2 < 1920) (q : Q (.str (toString k)) c) : strR c [.int k] Q := ⟨h, q⟩
theorem isi_i {n t : String} {b : Bool} (h1 : tyN c d = some t) (h2 : isiB t n = some b) (q : Q (.bl b) c) : isiR c [d, .ty n] Q := ⟨t, b, h1, h2, q⟩
theorem isi_t {t : String} {b : Bool} {ns : List String} (h1 : tyN c d = some t) (h2 : tysD ds = some ns) (h3 : isiAny t ns = some b) (q : Q (.bl b) c) : isiR c [d, .tup ds] Q := ⟨t, b, ns, h1, h2, h3, q⟩
theorem sort_i {m : Bool} {ns : List Int} (h : res c d = .lst ds) (h1 : intsD ds = some ns) (q : ∀ ns' : List Int, ns'.Perm ns → ns'.Pairwise (· ≤ ·) → newL m c (ns'.map D.int) Q) : sortR m c [d] Q := by unfold sortR; dsimp only; rw [h]; exact .inl ⟨ns, h1, q⟩
theorem sort_s {m : Bool} {ns : List Str} (h : res c d = .lst ds) (h1 : strsD ds = some ns) (h2 : ns.length < 64) (q : ∀ ys : List Str, ys.Perm ns → PyProof.Rows.sortedS ys = true → newL m c (ys.map D.str) Q) : sortR m c [d] Q := by unfold sortR; dsimp only; rw [h]; exact .inr ⟨ns, h1, h2, q⟩
theorem lst_l {m : Bool} (q : newL m c ds Q) : listR m c [.lst ds] Q := q
theorem lst_t {m : Bool} (q : newL m c ds Q) : listR m c [.tup ds] Q := q
theorem lst_c {m : Bool} (h : c p = some (.lst ds)) (q : newL m c ds Q) : listR m c [.ref p] Q := by unfold listR; dsimp only; rw [res_c h]; exact q
theorem lst_s {m : Bool} {ns : List Int} (q : newL m c (ns.map D.int) Q) : listR m c [.scr ns] Q := q
theorem lst_g {m : Bool} {a b : Int} (h : c p = some (.raw (.rng a b))) (h1 : -(2 ^ 62) ≤ a) (h2 : a < 2 ^ 62) (h3 : -(2 ^ 62) ≤ b) (h4 : b < 2 ^ 62) (h5 : (b - a).toNat ≤ 2 ^ 24) (q : newL m c ((upto a (b - a).toNat).map D.int) Q) : listR m c [.ref p] Q := by
  unfold listR; dsimp only; rw [res_w h]; dsimp only; rw [h]; exact ⟨h1, h2, h3, h4, h5, q⟩
theorem rng_1 {n : Int} (q : ∀ p, c p = none → Q (.ref p) (updc c p (.raw (.rng 0 n)))) : rangeR c [.int n] Q := q
theorem tup_l (q : Q (.tup ds) c) : tupleR c [.lst ds] Q := q
theorem tup_t (q : Q (.tup ds) c) : tupleR c [.tup ds] Q := q
theorem all_l {bs : List Bool} (h : blsD ds = some bs) (q : Q (.bl (bs.all id)) c) : allR c [.lst ds] Q := ⟨bs, h, q⟩
theorem set_l {k : Int} {j : Nat} {N : CMap → Prop} (h : c p = some (.lst ds)) (h2 : ixN ds.length k = some j) (q : N (updc c p (.lst (ds.set j d)))) : setR c (.ref p) (.int k) d N := by
  refine ⟨p, rfl, ?_⟩; rw [h]; exact ⟨k, j, rfl, h2, q⟩
theorem set_dK {kvs : List (Key × D)} {k : Key} {N : CMap → Prop} (h : c p = some (.dK kvs)) (h2 : keyD x = some k) (h3 : kvs.length < sizeLine) (q : N (updc c p (.dK (putKD kvs k d)))) : setR c (.ref p) x d N := by
  refine ⟨p, rfl, ?_⟩; rw [h]; exact ⟨k, h2, h3, q⟩
theorem set_dT {kvs : List (List Key × D)} {ks : List Key} {N : CMap → Prop} (h : c p = some (.dT kvs)) (h2 : keysD es = some ks) (h3 : kvs.length < sizeLine) (q : N (updc c p (.dT (putKD kvs ks d)))) : setR c (.ref p) (.tup es) d N := by
  refine ⟨p, rfl, ?_⟩; rw [h]; exact ⟨es, ks, rfl, h2, h3, q⟩
theorem ty_c (h : c p = some (.lst es)) : tyDl "list" c (.ref p) := by unfold tyDl; rw [res_c h]
theorem ty_s {z : Str} : tyDl "str" c (.str z) := rfl
theorem app_c (h : c p = some (.lst es)) (h2 : es.length < sizeLine) (q : Q .non (updc c p (.lst (es ++ [x])))) : appR c (.ref p) [x] Q := ⟨es, h, h2, q⟩
theorem join_i {a : Str} {ys : List Str} (h : ds = ys.map D.str) (h2 : (ys.map (·.length)).sum + ys.length * a.length ≤ 16777216) (q : Q (.str (Txt.join a ys)) c) : joinR c (.str a) [.lst ds] Q := ⟨ys, h, h2, q⟩
/-! tests -/
theorem ite_d {p : Prop} [Decidable p] {A B : Prop} (h1 : p → A) (h2 : ¬ p → B) : if decide p = true then A else B := by
  by_cases h : p
  · rw [if_pos (decide_eq_true h)]; exact h1 h
  · rw [if_neg (by simpa using h)]; exact h2 h
theorem ite_fd {p : Prop} [Decidable p] {A B : Prop} (h1 : p → A) (h2 : ¬ p → B) : if (false ^^ decide p) = true then A else B := by
  rw [Bool.false_xor]; exact ite_d h1 h2
theorem ite_td {p : Prop} [Decidable p] {A B : Prop} (h1 : ¬ p → A) (h2 : p → B) : if (true ^^ decide p) = true then A else B := by
  rw [Bool.true_xor]
  by_cases h : p
  · rw [if_neg (by simp [h])]; exact h2 h
  · rw [if_pos (by simp [h])]; exact h1 h
theorem ite_bt {A B : Prop} (h : A) : if true = true then A else B := by rw [if_pos rfl]; exact h
theorem ite_bf {A B : Prop} (h : B) : if false = true then A else B := by rw [if_neg (by decide)]; exact h
theorem ite_n {b : Bool} {A B : Prop} (h : if b = true then B else A) : if (!b) = true then A else B := by cases b <;> simpa using h
theorem ite_b {b : Bool} {A B : Prop} (h1 : b = true → A) (h2 : b = false → B) : if b = true then A else B := by
  cases b with
  | true => rw [if_pos rfl]; exact h1 rfl
  | false => rw [if_neg (by decide)]; exact h2 rfl
end
/-! loops -/
section
variable {wg : WG} {b : WS} {DD : DEnds} {ds : List D} {env : DEnv} {c : CMap} {Q : DK} {A : Addr}
theorem for_invG {G : CMap → Prop} (P : Nat → DEnv → CMap → Prop) (h0 : P 0 env c) (hs : ∀ (i : Nat) (d : D) (env : DEnv) (c : CMap), ds[i]? = some d → P i env c → forS wg b DD d env c (P (i + 1))) (hg : ∀ i env c, P i env c → G c) (hd : ∀ env c, P ds.length env c → DD.nx env c) : ForP wg b DD ds G env c := ⟨P, h0, hg, fun i d env c e q => ⟨_, fun env c q => ⟨c, SubC.rfl', q⟩, hs i d env c e q⟩, hd⟩
class FreeG (G : CMap → Prop) : Prop where
  all : ∀ c, G c
instance : FreeG noG := ⟨fun _ => trivial⟩
instance : FreeG (fun _ => True) := ⟨fun _ => trivial⟩
instance : FreeG ndG := ⟨fun _ => ⟨trivial, trivial⟩⟩
theorem for_inv {G : CMap → Prop} [FreeG G] (P : Nat → DEnv → CMap → Prop) (h0 : P 0 env c) (hs : ∀ (i : Nat) (d : D) (env : DEnv) (c : CMap), ds[i]? = some d → P i env c → forS wg b DD d env c (P (i + 1))) (hd : ∀ env c, P ds.length env c → DD.nx env c) : ForP wg b DD ds G env c := for_invG P h0 hs (fun _ _ c _ => FreeG.all c) hd
abbrev wkE (N : DEnv → CMap → Prop) : DEnv → CMap → Prop := fun env c => ∃ c2, SubC c2 c ∧ N env c2
/-- .. cells that the next turn doesn't ask for may be left out -/
theorem for_invW {G : CMap → Prop} [FreeG G] (P : Nat → DEnv → CMap → Prop) (h0 : P 0 env c) (hs : ∀ (i : Nat) (d : D) (env : DEnv) (c : CMap), ds[i]? = some d → P i env c → forS wg b DD d env c (wkE (P (i + 1)))) (hd : ∀ env c, P ds.length env c → DD.nx env c) : ForP wg b DD ds G env c := ⟨P, h0, fun _ _ c _ => FreeG.all c, fun i d env c e q => ⟨_, fun _ _ z => z, hs i d env c e q⟩, hd⟩
theorem for_unr {G : CMap → Prop} [FreeG G] (h : forD (forS wg b DD) ds env c DD.nx) : ForP wg b DD ds G env c := by
  refine ⟨fun i env c => forD (forS wg b DD) (ds.drop i) env c DD.nx, by simpa using h, fun _ _ c _ => FreeG.all c, fun i d env c e q => ⟨_, fun env c q => ⟨c, SubC.rfl', q⟩, ?_⟩, fun env c q => ?_⟩
  · obtain ⟨hi, rfl⟩ := List.getElem?_eq_some_iff.mp e
    dsimp only at q
    rw [List.drop_eq_getElem_cons hi] at q
    exact q
  · dsimp only at q
    rw [List.drop_length] at q
    exact q
theorem updc_comm {c : CMap} {a b : Addr} {k l : Cell} (h : a ≠ b) : updc (updc c a k) b l = updc (updc c b l) a k := by
  funext x
  unfold updc
  by_cases h1 : x = b
  · subst h1; rw [if_pos rfl, if_neg (Ne.symm h), if_pos rfl]
  · rw [if_neg h1, if_neg h1]
theorem delc_updc {c : CMap} {a : Addr} {k : Cell} (h : c a = none) : delc (updc c a k) a = c := by
  funext x
  unfold delc updc
  by_cases h1 : x = a
  · subst h1; rw [if_pos rfl, h]
  · rw [if_neg h1, if_neg h1]
theorem delc_comm {c : CMap} {a b : Addr} {k : Cell} (h : a ≠ b) : delc (updc c a k) b = updc (delc c b) a k := by
  funext x
  show (if x = b then none else if x = a then some k else c x) = if x = a then some k else if x = b then none else c x
  by_cases h1 : x = b
  · subst h1; rw [if_pos rfl, if_neg (Ne.symm h), if_pos rfl]
  · rw [if_neg h1, if_neg h1]
theorem updc_none {c : CMap} {a b : Addr} {k : Cell} (h : updc c a k b = none) : b ≠ a ∧ c b = none := by
  by_cases e : b = a
  · subst e; rw [updc_same] at h; cases h
  · rw [updc_ne e] at h; exact ⟨e, h⟩
theorem updc_ne' {c : CMap} {a b : Addr} {k : Cell} {o : Option Cell} (h : b ≠ a) (e : c b = o) : updc c a k b = o := by rw [updc_ne h]; exact e
theorem delc_ne' {c : CMap} {a b : Addr} {o : Option Cell} (h : b ≠ a) (e : c b = o) : delc c a b = o := by rw [delc_ne h]; exact e
theorem sub_p {c c' : CMap} {p : Addr} {k1 k2 : Cell} (h : SubC (updc c p k1) c') : SubC (updc c p k2) (updc c' p k2) := by
  intro b x e
  by_cases z : b = p
  · subst z; rw [updc_same] at e ⊢; exact e
  · rw [updc_ne z] at e ⊢; exact h b x (by rw [updc_ne z]; exact e)
theorem sub_at {c c' : CMap} {p : Addr} {k : Cell} (h : SubC (updc c p k) c') : c' p = some k := h _ _ updc_same
theorem sub_c {c c' : CMap} {p : Addr} {k k0 : Cell} (h : SubC (updc c p k) c') (hp : c p = some k0) : SubC (updc c p k) c' := h
/-- a comprehension by what holds of the list so far and of the other cells -/
theorem comp_invG {G : CMap → Prop} {m : Bool} {step : D → CMap → (Option D → CMap → Prop) → Prop} (hA : c A = none) (P : Nat → List D → CMap → Prop) (hl : ds.length < 16777216) (h0 : P 0 [] c)
    (hs : ∀ (i : Nat) (d : D) (acc : List D) (c : CMap) (k : Option D → CMap → Prop), ds[i]? = some d → P i acc c → c A = none →
      (∀ y c2, c2 A = none → P (i + 1) (acc ++ [y]) c2 → k (some y) (updc c2 A (.lst acc))) → (∀ c2, c2 A = none → P (i + 1) acc c2 → k none (updc c2 A (.lst acc))) → step d (updc c A (.lst acc)) k)
    (hg : ∀ i acc c2, P i acc c2 → c2 A = none → G (updc c2 A (.lst acc))) (hd : ∀ out c2, P ds.length out c2 → c2 A = none → if m = true then Q (.ref A) (updc c2 A (.lst out)) else Q (.lst out) c2) : CompP m step A ds G c Q := by
  refine ⟨fun i c' => ∃ acc c2, c' = updc c2 A (.lst acc) ∧ c2 A = none ∧ acc.length ≤ i ∧ i ≤ ds.length ∧ P i acc c2, ⟨[], c, rfl, hA, Nat.le_refl _, Nat.zero_le _, h0⟩, fun i c' ⟨acc, c2, e1, e2, _, _, e3⟩ => by subst e1; exact hg i acc c2 e3 e2, ?_, ?_⟩
  · rintro i d c' e ⟨acc, c2, rfl, h2, h3, h4, h5⟩
    have hi := (List.getElem?_eq_some_iff.mp e).1
    refine hs i d acc c2 _ e h5 h2 ?_ ?_
    · intro y c4 g1 g2
      exact ⟨acc, updc_same, len_lt (by omega), acc ++ [y], c4, updc_updc, g1, by simp; omega, by omega, g2⟩
    · intro c4 g1 g2
      exact ⟨acc, c4, rfl, g1, by omega, by omega, g2⟩
  · rintro c' ⟨acc, c2, rfl, h2, h3, h4, h5⟩
    refine ⟨acc, updc_same, ?_⟩
    have q := hd acc c2 h5 h2
    cases m with
    | true => rw [if_pos rfl] at q ⊢; exact q
    | false => rw [if_neg (by decide)] at q ⊢; rw [delc_updc h2]; exact q
theorem comp_inv {G : CMap → Prop} [FreeG G] {m : Bool} {step : D → CMap → (Option D → CMap → Prop) → Prop} (hA : c A = none) (P : Nat → List D → CMap → Prop) (hl : ds.length < 16777216) (h0 : P 0 [] c)
    (hs : ∀ (i : Nat) (d : D) (acc : List D) (c : CMap) (k : Option D → CMap → Prop), ds[i]? = some d → P i acc c → c A = none →
      (∀ y c2, c2 A = none → P (i + 1) (acc ++ [y]) c2 → k (some y) (updc c2 A (.lst acc))) → (∀ c2, c2 A = none → P (i + 1) acc c2 → k none (updc c2 A (.lst acc))) → step d (updc c A (.lst acc)) k)
    (hd : ∀ out c2, P ds.length out c2 → c2 A = none → if m = true then Q (.ref A) (updc c2 A (.lst out)) else Q (.lst out) c2) : CompP m step A ds G c Q := comp_invG hA P hl h0 hs (fun _ _ _ _ _ => FreeG.all _) hd
/-- .. whose elements change nothing: what it tells of each -/
theorem comp_map {G : CMap → Prop} [FreeG G] {step : D → CMap → (Option D → CMap → Prop) → Prop} (f : D → Option D) (hA : c A = none) (hl : ds.length < 16777216)
    (hs : ∀ (d : D) (c' : CMap) (k : Option D → CMap → Prop), d ∈ ds → (∀ b x, c b = some x → c' b = some x) → k (f d) c' → step d c' k) (q : Q (.lst (ds.filterMap f)) c) : CompP false step A ds G c Q := by
  refine comp_inv hA (fun i acc c' => c' = c ∧ acc = (ds.take i).filterMap f) hl ⟨rfl, by simp⟩ ?_ ?_
  · rintro i d acc c' k e ⟨rfl, rfl⟩ hA' k1 k2
    refine hs d _ k (List.mem_of_getElem? e) (fun b x h => by rw [updc_ne (ne_some_none h hA')]; exact h) ?_
    have et : (ds.take (i + 1)).filterMap f = (ds.take i).filterMap f ++ (f d).toList := by
      rw [List.take_add_one, e, List.filterMap_append]
      cases h : f d <;> simp [h]
    cases h : f d with
    | some y => exact k1 y _ hA' ⟨rfl, by rw [et, h]; rfl⟩
    | none => exact k2 _ hA' ⟨rfl, by rw [et, h]; simp⟩
  · rintro out c2 ⟨rfl, rfl⟩ _
    rw [if_neg (by decide), List.take_length]
    exact q
/-- what is wanted at a def's end -/
abbrev endD (E : XD) (Q : DK) : DEnds := { nx := fun _ c' => ∃ c2, SubC c2 c' ∧ Q .non c2, rt := fun d c' => ∃ c2, SubC c2 c' ∧ Q d c2, ex := fun cls od _ c' => ∃ c2, SubC c2 c' ∧ E cls od c2 }
end
end DL
/-! the data layer: the defs as the top leaves them; the law's call -/
namespace DL
open PySem PySem.Spec L2
open PyProof.Rows hiding St
theorem fnok_of {GI : Hp → Prop} {P : Program} {w : World} {K : PySem.W.Frag} {mg : Str → Option Value} {base : Heap} {x qual : Str} {st : Stmt} {f : Addr} {fd : FuncData} {N ps : List Str} {k : Nat} {sp : DSpec} {ws : WS}
    (F : Fun K x qual st f fd) (S : FnScope N ps (defScope st)) (len : ∀ ds c E Q, sp ds c E Q → ds.length = ps.length)
    (body : ∀ (cdv : Value) (A : Around) (outer : List Env) (s : Shared) (H : Hp) (E : XK), Room k (A.deeper (envOfC qual (defScope st) s.heap.objs.size f cdv)) →
      CSs GI (cxOf (L2.CX P w) P w K mg base N qual (defScope st) f cdv A outer s H E) (defBody st) ws)
    (ok : ∀ ds c (E : XD) (Q : DK), sp ds c E Q → ws (endD E Q) (startE N.length ds) c) : FnOk P w K mg base (L2.CX P w) (k + 1) f fd ps (lowSp K GI sp) := by
  refine F.okX S (fun vs H Q E h => ?_) fun cdv A outer s H vs Q E hr h => ?_
  · obtain ⟨G, ds, c, E', Qd, h1, h2, h3, _⟩ := h
    rw [h1.length, len _ _ _ _ h3]
  · obtain ⟨G, ds, c, E', Qd, h1, h2, h3, h4, h5⟩ := h
    refine ⟨_, body cdv A outer s H E hr (fun cls d _ H => E cls d H) ⟨S.nd, takes_of rfl rfl rfl rfl, PassesOwn.leaving⟩, G, _, c, _, RepE.start h1, h2, ok ds c E' Qd h3, ⟨?_, ?_, ?_, ?_, ?_⟩⟩
    · rintro G' env' c' σ' H' l re r ⟨c2, s2, q⟩
      exact h4 G' c2 H' _ _ l (r.sub' s2) .non q
    · rintro G' c' H' v d l r hd ⟨c2, s2, q⟩
      exact h4 G' c2 H' _ _ l (r.sub' s2) hd q
    · rintro G' env' c' σ' H' l re r q
      exact q
    · rintro G' env' c' σ' H' l re r q
      exact q
    · rintro G' env' c' σ' H' cls od l re r ⟨c2, s2, q⟩
      exact h5 G' c2 H' cls od l (r.sub' s2) q
/-- a def as the top leaves it -/
structure DefAt (K : PySem.W.Frag) (x qual : Str) (st : Stmt) (f : Addr) (fd : FuncData) : Prop where
  ns : PySem.W.nsIn K mainGlobals x = some (some (.ref f))
  fn : Fun K x qual st f fd
theorem defAt_mk {K : PySem.W.Frag} {x qual : Str} {st : Stmt} {f : Addr} {oc : Value} {od an : Option Addr} {osl : Array (Option Value)} {kV doc pm cdv ct : Value} (a : PySem.W.nsIn K mainGlobals x = some (some (.ref f)))
    (l : K.lookup f = some ⟨oc, od, .func (PySem.W.fnOf x qual (defArgs st) (defBody st) (defScope st) .none kV doc pm an cdv ct), osl⟩) (c : PySem.W.codeIn K cdv qual = true) (k : PySem.W.keepIn K (.ref f) = true) : ∃ f fd, DefAt K x qual st f fd :=
  ⟨f, _, a, fun_mk l c k⟩
section
variable {GI : Hp → Prop} {P : Program} {w : World} {K : PySem.W.Frag} {mg : Str → Option Value} {base h : Heap} {x qual : Str} {st : Stmt} {f : Addr} {fd : FuncData} {N ps : List Str} {k n : Nat} {sp : DSpec} {ws : WS}
theorem hasG_of (X : K.In h) (G : h.Ns mainGlobals mg) (D : DefAt K x qual st f fd) (hb : Binds K fd ps []) (S : FnScope N ps (defScope st)) (hn : ps.length = n) (len : ∀ ds c E Q, sp ds c E Q → ds.length = ps.length)
    (body : ∀ (cdv : Value) (A : Around) (outer : List Env) (s : Shared) (H : Hp) (E : XK), Room k (A.deeper (envOfC qual (defScope st) s.heap.objs.size f cdv)) →
      CSs GI (cxOf (L2.CX P w) P w K mg base N qual (defScope st) f cdv A outer s H E) (defBody st) ws)
    (ok : ∀ ds c (E : XD) (Q : DK), sp ds c E Q → ws (endD E Q) (startE N.length ds) c) : HasG GI P w K mg base (k + 1) x n sp :=
  ⟨f, PySem.W.mg_of X G D.ns, ⟨fd, ps, hn, D.fn.kp, hb, fnok_of D.fn S len body ok⟩⟩
theorem hasG_void (X : K.In h) (G : h.Ns mainGlobals mg) (D : DefAt K x qual st f fd) (hb : Binds K fd ps []) (hn : ps.length = n) (v : ∀ ds c E Q, ¬ sp ds c E Q) : HasG GI P w K mg base k x n sp := by
  refine ⟨f, PySem.W.mg_of X G D.ns, ⟨fd, ps, hn, D.fn.kp, hb, ⟨fun vs H Q E q => ?_, fun A outer s H args us vs Q E _ _ _ _ q => ?_⟩⟩⟩
  · obtain ⟨_, _, _, _, _, _, _, z, _⟩ := q; exact (v _ _ _ _ z).elim
  · obtain ⟨_, _, _, _, _, _, _, z, _⟩ := q; exact (v _ _ _ _ z).elim
theorem HasG.mono {j : Nat} (h : HasG GI P w K mg base j x n sp) (l : j ≤ k) : HasG GI P w K mg base k x n sp := by
  obtain ⟨f, a, b⟩ := h
  exact ⟨f, a, b.mono l⟩
end
/-- the law's own promise -/
def sp_law : DSpec := fun ds c E Q => ∃ ns : List Int, ds = [.scr ns] ∧ ns.length ≤ 63 ∧ ∀ c', Q (.bl true) c'
theorem law_sp {K : PySem.W.Frag} {H : Hp} {a : Addr} {ns : List Int} (hl : ns.length ≤ 63) (h : SqL K H a (ns.map V.int)) : lowSp K (fun _ => True) sp_law [.ref a] H (fun v _ => v = .bl true) fun _ _ _ => False := by
  refine ⟨H, [.scr ns], fun _ => none, fun _ _ _ => False, fun d _ => d = .bl true, .one (.scr h), ⟨Le.rfl', (fun a k e => by cases e), trivial, glob_true⟩, ⟨ns, rfl, hl, fun _ => rfl⟩, ?_, ?_⟩
  · rintro F c H' v d _ _ hd rfl
    exact hd.bl_inv
  · rintro F c H' cls od _ _ q
    exact q
theorem cx_none {P : Program} {w : World} {H : Hp} {s : Shared} {e : Value} {s' : Shared} (h : L2.CX P w [] H s (fun _ _ _ => False) e s') : False := by
  obtain ⟨_, _, _, _, _, _, _, _, _, _, _, _, z⟩ := h
  exact z
end DL
namespace DL
open PySem PySem.Spec L2
open PyProof.Rows hiding St
def b_seen_by : WS :=
  (wSeq (wWhile (wTst (wFn isiR (wCons (wVar 0) (wCons (wC (.ty "tuple")) wNil)))) (wSeq (wAsgG (gTp 4 (gCn (gNm 2) (gCn (gNm 3) (gCn (gNm 4) (gCn (gNm 5) gNl))))) (wVar 0))
  (wAsg 0 (wIfE (wTst (wOp (inR false) (wVar 3) (wVar 1))) (wVar 4) (wVar 5)))))
  (wRet (wVar 0)))

def b_seen_state (s_seen_by : DSpec) : WS :=
  (wSeq (wAsg 3 (wComp false (wIt (wVar 0)) (gTp 2 (gCn (gNm 4) (gCn (gNm 5) gNl))) wYes (wTup (wCons (wVar 4) (wCons (wCall s_seen_by (wCons (wVar 5) (wCons (wVar 2) wNil))) wNil))) [4, 5]))
  (wSeq (wAsg 6 (wLst true wNil))
  (wSeq (wFor (wIt (wVar 1)) (gTp 2 (gCn (gNm 4) (gCn (gNm 7) gNl))) (wSeq (wAsg 8 (wComp false (wIt (wVar 7)) (gTp 3 (gCn (gNm 9) (gCn (gNm 10) (gCn (gNm 11) gNl)))) (wTst (wOp (eqR true) (wCall s_seen_by (wCons (wVar 9) (wCons (wVar 2) wNil))) (wC (.int 0)))) (wTup (wCons (wVar 10) (wCons (wVar 11) wNil))) [9, 10, 11]))
  (wDrop (wMt "list" appR (wVar 6) (wCons (wTup (wCons (wVar 4) (wCons (wComp true (wIt (wVar 8)) (gTp 2 (gCn (gNm 10) (gCn (gNm 11) gNl))) wYes (wTup (wCons (wCall s_seen_by (wCons (wVar 10) (wCons (wVar 2) wNil))) (wCons (wCall s_seen_by (wCons (wVar 11) (wCons (wVar 2) wNil))) wNil))) [10, 11]) wNil))) wNil)))))
  (wRet (wTup (wCons (wComp true (wIt (wVar 3)) (gNm 12) (wTst (wOp (eqR true) (wOp idxR (wVar 12) (wC (.int 1))) (wC (.int 0)))) (wVar 12) [12]) (wCons (wComp true (wIt (wVar 6)) (gNm 13) (wTst (wOp (eqR true) (wOp idxR (wVar 13) (wC (.int 1))) (wLst false wNil))) (wVar 13) [13]) wNil)))))))

def b_seen_run (s_seen_state s_seen_by : DSpec) : WS :=
  (wSeq (wAsgG (gTp 2 (gCn (gNm 2) (gCn (gNm 3) gNl))) (wCall s_seen_state (wCons (wOp idxR (wVar 0) (wC (.int 0))) (wCons (wOp idxR (wVar 0) (wC (.int 1))) (wCons (wVar 1) wNil)))))
  (wSeq (wAsg 4 (wComp true (wIt (wOp idxR (wVar 0) (wC (.int 2)))) (gTp 2 (gCn (gNm 5) (gCn (gNm 6) gNl))) (wTst (wOp (eqR true) (wCall s_seen_by (wCons (wVar 5) (wCons (wVar 1) wNil))) (wC (.int 0)))) (wCall s_seen_by (wCons (wVar 6) (wCons (wVar 1) wNil))) [5, 6]))
  (wRet (wTup (wCons (wVar 2) (wCons (wVar 3) (wCons (wVar 4) (wCons (wCall s_seen_by (wCons (wOp idxR (wVar 0) (wC (.int 3))) (wCons (wVar 1) wNil))) wNil))))))))

def b_law_spring : WS :=
  (wSeq (wAsg 1 (wC (.int 0)))
  (wSeq (wAsg 2 (wC (.int 88651)))
  (wSeq (wFor (wIt (wSl false (wVar 0) wNo (wSome (wC (.int 63))))) (gNm 3) (wSeq (wIf (wTst (wOp (geA) (wFn absR (wCons (wVar 3) wNil)) (wOp (powR) (wC (.int 10)) (wC (.int 18))))) (wAsg 1 (wOp (addR false) (wOp (mulR false) (wVar 1) (wOp (powR) (wC (.int 10)) (wC (.int 60)))) (wOp (modR) (wFn absR (wCons (wVar 3) wNil)) (wOp (powR) (wC (.int 10)) (wC (.int 60)))))) wSkip)
  (wAsg 2 (wOp (modR) (wOp (addR false) (wOp (addR false) (wOp (mulR false) (wVar 2) (wC (.int 69069))) (wOp (modR) (wVar 3) (wC (.int 2305843009213693921)))) (wC (.int 7))) (wC (.int 2305843009213693951))))))
  (wRet (wLst true (wCons (wVar 1) (wCons (wVar 2) (wCons (wC (.int 0)) wNil))))))))

def b_law_draw : WS :=
  (wSeq (wIf (wTst (wOp (gtA) (wOp idxR (wVar 0) (wC (.int 0))) (wC (.int 0)))) (wSeq (wAsg 2 (wOp (modR) (wOp idxR (wVar 0) (wC (.int 0))) (wVar 1)))
  (wSeq (wSet (wVar 0) (wC (.int 0)) (wOp (fdivR) (wOp idxR (wVar 0) (wC (.int 0))) (wVar 1)))
  (wRet (wVar 2)))) wSkip)
  (wSeq (wSet (wVar 0) (wC (.int 2)) (wOp (addR false) (wOp idxR (wVar 0) (wC (.int 2))) (wC (.int 1))))
  (wSeq (wAsg 3 (wOp (modR) (wOp (mulR false) (wOp idxR (wVar 0) (wC (.int 1))) (wOp idxR (wVar 0) (wC (.int 1)))) (wC (.int 2305843009213693951))))
  (wSeq (wSet (wVar 0) (wC (.int 1)) (wOp (modR) (wOp (addR false) (wOp (addR false) (wVar 3) (wOp (mulR false) (wOp (mulR false) (wC (.int 7919)) (wOp idxR (wVar 0) (wC (.int 2)))) (wOp idxR (wVar 0) (wC (.int 1))))) (wC (.int 104729))) (wC (.int 2305843009213693951))))
  (wRet (wOp (modR) (wOp (fdivR) (wOp idxR (wVar 0) (wC (.int 1))) (wC (.int 65537))) (wVar 1)))))))

def b_law_built (s_law_built : DSpec) : WS :=
  (wSeq (wIf (wTst (wOp (eqR false) (wVar 0) (wLst false wNil))) (wRet (wOp idxR (wVar 1) (wC (.int 0)))) wSkip)
  (wSeq (wAsg 2 (wOp (fdivR) (wFn lenR (wCons (wVar 1) wNil)) (wC (.int 2))))
  (wSeq (wAsg 3 (wCall s_law_built (wCons (wSl false (wVar 0) (wSome (wC (.int 1))) wNo) (wCons (wSl false (wVar 1) wNo (wSome (wVar 2))) wNil))))
  (wSeq (wAsg 4 (wCall s_law_built (wCons (wSl false (wVar 0) (wSome (wC (.int 1))) wNo) (wCons (wSl false (wVar 1) (wSome (wVar 2)) wNo) wNil))))
  (wSeq (wIf (wTst (wOp (eqR false) (wVar 3) (wVar 4))) (wRet (wVar 3)) wSkip)
  (wRet (wTup (wCons (wC (.str "face")) (wCons (wOp idxR (wVar 0) (wC (.int 0))) (wCons (wVar 3) (wCons (wVar 4) wNil)))))))))))

def b_law_views (s_law_views : DSpec) : WS :=
  (wSeq (wIf (wTst (wOp (eqR false) (wVar 0) (wLst false wNil))) (wRet (wLst false (wCons (wLst false wNil) wNil))) wSkip)
  (wSeq (wAsg 1 (wCall s_law_views (wCons (wSl false (wVar 0) (wSome (wC (.int 1))) wNo) wNil)))
  (wRet (wOp (addR false) (wComp false (wIt (wVar 1)) (gNm 2) wYes (wOp (addR false) (wSl false (wVar 0) wNo (wSome (wC (.int 1)))) (wVar 2)) [2]) (wVar 1)))))

def b_law_one_name (s_law_draw : DSpec) : WS :=
  (wSeq (wAsg 4 (wC (.str "abcdefghijklmnopqrstuvwxyz")))
  (wSeq (wAsg 5 (wOp idxR (wVar 2) (wC (.int 1))))
  (wSeq (wIf (wTst (wOp (eqR false) (wVar 1) (wC (.int 0)))) (wRet (wOp (addR false) (wOp (addR false) (wSl false (wOp idxR (wVar 2) (wC (.int 0))) wNo (wSome (wVar 5))) (wOp idxR (wVar 4) (wOp (modR) (wOp (addR false) (wVar 3) (wOp idxR (wVar 2) (wC (.int 2)))) (wC (.int 26))))) (wSl false (wOp idxR (wVar 2) (wC (.int 0))) (wSome (wVar 5)) (wSome (wC (.int 7)))))) wSkip)
  (wSeq (wIf (wAnd (wTst (wOp (eqR false) (wVar 1) (wC (.int 1)))) (wTst (wOp (ltA) (wVar 3) (wC (.int 7))))) (wRet (wSl false (wOp idxR (wVar 2) (wC (.int 0))) wNo (wSome (wOp (addR false) (wVar 3) (wC (.int 1)))))) wSkip)
  (wSeq (wAsg 6 (wOp idxR (wLst false (wCons (wC (.int 1)) (wCons (wC (.int 1)) (wCons (wC (.int 2)) (wCons (wC (.int 8)) (wCons (wC (.int 4)) (wCons (wC (.int 3)) wNil))))))) (wCall s_law_draw (wCons (wVar 0) (wCons (wC (.int 6)) wNil)))))
  (wRet (wMt "str" joinR (wC (.str "")) (wCons (wComp false (wRg1 (wCons (wVar 6) wNil)) (gNm 7) wYes (wOp idxR (wVar 4) (wCall s_law_draw (wCons (wVar 0) (wCons (wC (.int 26)) wNil)))) [7]) wNil))))))))

def b_law_words (s_law_draw s_law_one_name : DSpec) : WS :=
  (wSeq (wAsg 2 (wC (.str "abcdefghijklmnopqrstuvwxyz")))
  (wSeq (wAsg 3 (wLst false (wCons (wC (.str "let")) (wCons (wC (.str "say")) (wCons (wC (.str "if")) (wCons (wC (.str "else")) (wCons (wC (.str "end")) (wCons (wC (.str "while")) (wCons (wC (.str "add")) (wCons (wC (.str "drop")) (wCons (wC (.str "count")) (wCons (wC (.str "each")) (wCons (wC (.str "to")) (wCons (wC (.str "do")) (wCons (wC (.str "stop")) (wCons (wC (.str "who")) wNil))))))))))))))))
  (wSeq (wAsg 4 (wCall s_law_draw (wCons (wVar 0) (wCons (wC (.int 3)) wNil))))
  (wSeq (wAsg 5 (wMt "str" joinR (wC (.str "")) (wCons (wComp false (wRg1 (wCons (wOp (addR false) (wC (.int 1)) (wCall s_law_draw (wCons (wVar 0) (wCons (wC (.int 7)) wNil)))) wNil)) (gNm 6) wYes (wOp idxR (wVar 2) (wCall s_law_draw (wCons (wVar 0) (wCons (wC (.int 26)) wNil)))) [6]) wNil)))
  (wSeq (wAsg 7 (wTup (wCons (wVar 5) (wCons (wCall s_law_draw (wCons (wVar 0) (wCons (wOp (addR false) (wFn lenR (wCons (wVar 5) wNil)) (wC (.int 1))) wNil))) (wCons (wCall s_law_draw (wCons (wVar 0) (wCons (wC (.int 26)) wNil))) wNil)))))
  (wSeq (wAsg 8 (wLst true wNil))
  (wSeq (wFor (wRg1 (wCons (wVar 1) wNil)) (gNm 9) (wSeq (wAsg 10 (wCall s_law_one_name (wCons (wVar 0) (wCons (wVar 4) (wCons (wVar 7) (wCons (wVar 9) wNil))))))
  (wSeq (wFor (wRg1 (wCons (wC (.int 26)) wNil)) (gNm 11) (wIf (wOr (wTst (wOp (inR false) (wVar 10) (wVar 8))) (wTst (wOp (inR false) (wVar 10) (wVar 3)))) (wAsg 10 (wOp (addR false) (wOp (addR false) (wC (.str "v")) (wOp idxR (wVar 2) (wVar 9))) (wOp idxR (wVar 2) (wVar 11)))) wSkip))
  (wDrop (wMt "list" appR (wVar 8) (wCons (wVar 10) wNil))))))
  (wRet (wFrz (wVar 8))))))))))

def b_law_size (s_law_draw : DSpec) : WS :=
  (wRet (wOp idxR (wLst false (wCons (wOp (addR false) (wC (.int 1)) (wCall s_law_draw (wCons (wVar 0) (wCons (wVar 1) wNil)))) (wCons (wOp (addR false) (wC (.int 6)) (wCall s_law_draw (wCons (wVar 0) (wCons (wC (.int 11)) wNil)))) wNil))) (wOp (fdivR) (wCall s_law_draw (wCons (wVar 0) (wCons (wC (.int 4)) wNil))) (wC (.int 3)))))

def b_law_worth (s_law_draw s_law_views s_law_built : DSpec) : WS :=
  (wSeq (wAsg 2 (wOp idxR (wLst false (wCons (wC (.int 1)) (wCons (wC (.int 2)) (wCons (wC (.int 3)) (wCons (wC (.int 5)) (wCons (wC (.int 1000)) (wCons (wC (.int 3)) wNil))))))) (wCall s_law_draw (wCons (wVar 0) (wCons (wC (.int 6)) wNil)))))
  (wSeq (wAsg 3 (wCall s_law_draw (wCons (wVar 0) (wCons (wOp idxR (wLst false (wCons (wC (.int 1)) (wCons (wC (.int 2)) (wCons (wC (.int 1000)) wNil)))) (wCall s_law_draw (wCons (wVar 0) (wCons (wC (.int 3)) wNil)))) wNil))))
  (wRet (wCall s_law_built (wCons (wVar 1) (wCons (wComp false (wIt (wCall s_law_views (wCons (wVar 1) wNil))) (gNm 4) wYes (wOp (modR) (wOp (addR false) (wVar 3) (wCall s_law_draw (wCons (wVar 0) (wCons (wVar 2) wNil)))) (wC (.int 1000))) [4]) wNil))))))

def b_law_there (s_law_views s_law_draw s_law_built : DSpec) : WS :=
  (wSeq (wAsg 2 (wComp false (wIt (wCall s_law_views (wCons (wVar 1) wNil))) (gNm 3) wYes (wFn intR (wCons (wOp (gtA) (wCall s_law_draw (wCons (wVar 0) (wCons (wC (.int 3)) wNil))) (wC (.int 0))) wNil)) [3]))
  (wSeq (wIf (wTst (wOp (inR true) (wC (.int 1)) (wVar 2))) (wAsg 2 (wComp false (wIt (wVar 2)) (gNm 4) wYes (wC (.int 1)) [4])) wSkip)
  (wRet (wCall s_law_built (wCons (wVar 1) (wCons (wVar 2) wNil))))))

def b_law_state (s_law_worth s_law_draw s_law_there : DSpec) : WS :=
  (wSeq (wAsg 3 (wLst true wNil))
  (wSeq (wAsg 4 (wLst true wNil))
  (wSeq (wFor (wIt (wFn (sortR false) (wCons (wVar 1) wNil))) (gNm 5) (wSeq (wAsg 6 (wCall s_law_worth (wCons (wVar 0) (wCons (wVar 2) wNil))))
  (wSeq (wIf (wAnd (wTst (wOp (eqR false) (wCall s_law_draw (wCons (wVar 0) (wCons (wC (.int 2)) wNil))) (wC (.int 1)))) (wTst (wOp (eqR true) (wVar 6) (wC (.int 0))))) (wDrop (wMt "list" appR (wVar 3) (wCons (wTup (wCons (wVar 5) (wCons (wVar 6) wNil))) wNil))) wSkip)
  (wSeq (wAsg 7 (wOp (mulR false) (wOp idxR (wLst false (wCons (wC (.int 0)) (wCons (wC (.int 1)) (wCons (wC (.int 2)) (wCons (wC (.int 3)) (wCons (wC (.int 0)) (wCons (wC (.int 2)) (wCons (wC (.int 1)) (wCons (wC (.int 40)) wNil))))))))) (wCall s_law_draw (wCons (wVar 0) (wCons (wC (.int 8)) wNil)))) (wCall s_law_draw (wCons (wVar 0) (wCons (wC (.int 2)) wNil)))))
  (wSeq (wAsg 8 (wLst true wNil))
  (wSeq (wFor (wRg1 (wCons (wVar 7) wNil)) (gNm 9) (wDrop (wMt "list" appR (wVar 8) (wCons (wTup (wCons (wCall s_law_there (wCons (wVar 0) (wCons (wVar 2) wNil))) (wCons (wCall s_law_worth (wCons (wVar 0) (wCons (wVar 2) wNil))) (wCons (wCall s_law_worth (wCons (wVar 0) (wCons (wVar 2) wNil))) wNil)))) wNil))))
  (wIf (wTst (wOp (eqR true) (wVar 8) (wLst false wNil))) (wDrop (wMt "list" appR (wVar 4) (wCons (wTup (wCons (wVar 5) (wCons (wFrz (wVar 8)) wNil))) wNil))) wSkip)))))))
  (wRet (wTup (wCons (wFrz (wVar 3)) (wCons (wFrz (wVar 4)) wNil)))))))

def b_law_marks (s_law_draw : DSpec) : WS :=
  (wSeq (wAsg 2 (wLst true wNil))
  (wSeq (wAsg 3 (wCall s_law_draw (wCons (wVar 0) (wCons (wOp (addR false) (wVar 1) (wC (.int 1))) wNil))))
  (wSeq (wFor (wRg1 (wCons (wC (.int 6)) wNil)) (gNm 4) (wIf (wTst (wOp (ltA) (wCall s_law_draw (wCons (wVar 0) (wCons (wOp (subR) (wC (.int 6)) (wVar 4)) wNil))) (wOp (subR) (wVar 3) (wFn lenR (wCons (wVar 2) wNil))))) (wDrop (wMt "list" appR (wVar 2) (wCons (wVar 4) wNil))) wSkip))
  (wRet (wFrz (wVar 2))))))

def b_law_seen (s_law_seen : DSpec) : WS :=
  (wSeq (wIf (wNot (wTst (wFn isiR (wCons (wVar 0) (wCons (wC (.ty "tuple")) wNil))))) (wRet (wVar 0)) wSkip)
  (wRet (wCall s_law_seen (wCons (wIfE (wTst (wOp (inR false) (wOp idxR (wVar 0) (wC (.int 1))) (wVar 1))) (wOp idxR (wVar 0) (wC (.int 2))) (wOp idxR (wVar 0) (wC (.int 3)))) (wCons (wVar 1) wNil)))))

def b_law_seen_state (s_law_seen : DSpec) : WS :=
  (wSeq (wAsg 3 (wComp false (wIt (wVar 0)) (gTp 2 (gCn (gNm 4) (gCn (gNm 5) gNl))) wYes (wTup (wCons (wVar 4) (wCons (wCall s_law_seen (wCons (wVar 5) (wCons (wVar 2) wNil))) wNil))) [4, 5]))
  (wSeq (wAsg 6 (wLst true wNil))
  (wSeq (wFor (wIt (wVar 1)) (gTp 2 (gCn (gNm 4) (gCn (gNm 7) gNl))) (wSeq (wAsg 8 (wComp false (wIt (wVar 7)) (gNm 9) (wTst (wOp (eqR false) (wCall s_law_seen (wCons (wOp idxR (wVar 9) (wC (.int 0))) (wCons (wVar 2) wNil))) (wC (.int 1)))) (wVar 9) [9]))
  (wIf (wTst (wOp (eqR true) (wVar 8) (wLst false wNil))) (wDrop (wMt "list" appR (wVar 6) (wCons (wTup (wCons (wVar 4) (wCons (wComp false (wIt (wVar 8)) (gNm 9) wYes (wTup (wCons (wCall s_law_seen (wCons (wOp idxR (wVar 9) (wC (.int 1))) (wCons (wVar 2) wNil))) (wCons (wCall s_law_seen (wCons (wOp idxR (wVar 9) (wC (.int 2))) (wCons (wVar 2) wNil))) wNil))) [9]) wNil))) wNil))) wSkip)))
  (wRet (wTup (wCons (wComp false (wIt (wVar 3)) (gNm 10) (wTst (wOp (eqR true) (wOp idxR (wVar 10) (wC (.int 1))) (wC (.int 0)))) (wVar 10) [10]) (wCons (wFrz (wVar 6)) wNil)))))))

def b_law_same (s_law_same : DSpec) : WS :=
  (wSeq (wIf (wTst (wFn isiR (wCons (wVar 1) (wCons (wTup (wCons (wC (.ty "list")) (wCons (wC (.ty "tuple")) wNil))) wNil)))) (wSeq (wIf (wOr (wTst (wOp (eqR true) (wFn isiR (wCons (wVar 0) (wCons (wC (.ty "list")) wNil))) (wFn isiR (wCons (wVar 1) (wCons (wC (.ty "list")) wNil))))) (wTst (wOp (eqR true) (wFn isiR (wCons (wVar 0) (wCons (wC (.ty "tuple")) wNil))) (wFn isiR (wCons (wVar 1) (wCons (wC (.ty "tuple")) wNil)))))) (wRet (wC (.bl false))) wSkip)
  (wRet (wAndV (wOp (eqR false) (wFn lenR (wCons (wVar 0) wNil)) (wFn lenR (wCons (wVar 1) wNil))) (wFn allR (wCons (wComp false (wZip (wCons (wVar 0) (wCons (wVar 1) wNil))) (gTp 2 (gCn (gNm 2) (gCn (gNm 3) gNl))) wYes (wCall s_law_same (wCons (wVar 2) (wCons (wVar 3) wNil))) [2, 3]) wNil))))) wSkip)
  (wRet (wAndV (wOp (eqR false) (wFn isiR (wCons (wVar 0) (wCons (wC (.ty "bool")) wNil))) (wFn isiR (wCons (wVar 1) (wCons (wC (.ty "bool")) wNil)))) (wOp (eqR false) (wVar 0) (wVar 1)))))

def b_law_right (s_law_seen_state s_law_seen s_seen_run s_law_same : DSpec) : WS :=
  (wSeq (wAsg 2 (wCall s_law_seen_state (wCons (wOp idxR (wVar 0) (wC (.int 0))) (wCons (wOp idxR (wVar 0) (wC (.int 1))) (wCons (wVar 1) wNil)))))
  (wSeq (wAsg 3 (wComp false (wIt (wOp idxR (wVar 0) (wC (.int 2)))) (gTp 2 (gCn (gNm 4) (gCn (gNm 5) gNl))) (wTst (wOp (eqR false) (wCall s_law_seen (wCons (wVar 4) (wCons (wVar 1) wNil))) (wC (.int 1)))) (wCall s_law_seen (wCons (wVar 5) (wCons (wVar 1) wNil))) [4, 5]))
  (wSeq (wAsg 6 (wTup (wCons (wFn (listR false) (wCons (wOp idxR (wVar 0) (wC (.int 0))) wNil)) (wCons (wComp false (wIt (wOp idxR (wVar 0) (wC (.int 1)))) (gTp 2 (gCn (gNm 7) (gCn (gNm 8) gNl))) wYes (wTup (wCons (wVar 7) (wCons (wFn (listR false) (wCons (wVar 8) wNil)) wNil))) [7, 8]) (wCons (wFn (listR false) (wCons (wOp idxR (wVar 0) (wC (.int 2))) wNil)) (wCons (wOp idxR (wVar 0) (wC (.int 3))) wNil))))))
  (wSeq (wAsg 9 (wFn (listR false) (wCons (wVar 1) wNil)))
  (wSeq (wAsg 10 (wCall s_seen_run (wCons (wVar 6) (wCons (wVar 9) wNil))))
  (wSeq (wIf (wNot (wTst (wCall s_law_same (wCons (wVar 10) (wCons (wOp (addR false) (wVar 2) (wTup (wCons (wVar 3) (wCons (wCall s_law_seen (wCons (wOp idxR (wVar 0) (wC (.int 3))) (wCons (wVar 1) wNil))) wNil)))) wNil))))) (wRet (wC (.bl false))) wSkip)
  (wSeq (wFor (wIt (wSl false (wVar 10) wNo (wSome (wC (.int 3))))) (gNm 8) (wDrop (wMt "list" appR (wVar 8) (wCons (wTup (wCons (wC (.str "strange")) (wCons (wLst false wNil) wNil))) wNil))))
  (wRet (wAndV (wOp (eqR false) (wVar 6) (wVar 0)) (wOp (eqR false) (wVar 9) (wVar 1)))))))))))

def b_law (s_law_spring s_law_size s_law_words s_law_marks s_law_state s_law_draw s_law_there s_law_worth s_law_views s_law_built s_law_right : DSpec) : WS :=
  (wSeq (wAsg 1 (wCall s_law_spring (wCons (wVar 0) wNil)))
  (wSeq (wAsg 2 (wCall s_law_words (wCons (wVar 1) (wCons (wOp (subR) (wCall s_law_size (wCons (wVar 1) (wCons (wC (.int 7)) wNil))) (wC (.int 1))) wNil))))
  (wSeq (wAsg 3 (wCall s_law_marks (wCons (wVar 1) (wCons (wC (.int 6)) wNil))))
  (wSeq (wAsgG (gTp 2 (gCn (gNm 4) (gCn (gNm 5) gNl))) (wCall s_law_state (wCons (wVar 1) (wCons (wVar 2) (wCons (wVar 3) wNil)))))
  (wSeq (wAsg 6 (wLst true wNil))
  (wSeq (wFor (wRg1 (wCons (wCall s_law_draw (wCons (wVar 1) (wCons (wC (.int 13)) wNil))) wNil)) (gNm 7) (wDrop (wMt "list" appR (wVar 6) (wCons (wTup (wCons (wCall s_law_there (wCons (wVar 1) (wCons (wVar 3) wNil))) (wCons (wCall s_law_worth (wCons (wVar 1) (wCons (wVar 3) wNil))) wNil))) wNil))))
  (wSeq (wAsg 8 (wCall s_law_built (wCons (wVar 3) (wCons (wComp false (wIt (wCall s_law_views (wCons (wVar 3) wNil))) (gNm 9) wYes (wCall s_law_draw (wCons (wVar 1) (wCons (wC (.int 3)) wNil))) [9]) wNil))))
  (wSeq (wAsg 10 (wComp false (wRg1 (wCons (wC (.int 3)) wNil)) (gNm 12) wYes (wComp false (wRg1 (wCons (wC (.int 6)) wNil)) (gNm 11) (wTst (wOp (eqR false) (wCall s_law_draw (wCons (wVar 1) (wCons (wC (.int 2)) wNil))) (wC (.int 1)))) (wVar 11) [11]) [12]))
  (wSeq (wAsg 13 (wTup (wCons (wVar 4) (wCons (wVar 5) (wCons (wFrz (wVar 6)) (wCons (wVar 8) wNil))))))
  (wRet (wFn allR (wCons (wComp false (wIt (wOp (addR false) (wCall s_law_views (wCons (wVar 3) wNil)) (wVar 10))) (gNm 9) wYes (wCall s_law_right (wCons (wVar 13) (wCons (wVar 9) wNil))) [9]) wNil))))))))))))
local macro_rules | `(tactic| walk_at "ne") => `(tactic| first | assumption | (apply Ne.symm; assumption) | exact ne_some_none (by assumption) (by assumption) | exact ne_none_some (by assumption) (by assumption))
local macro_rules | `(tactic| walk_at "cl") => `(tactic| first | exact updc_same | assumption | exact updc_ne' (by walk_at "ne") (by walk_at "cl") | exact delc_ne' (by walk_at "ne") (by walk_at "cl"))
local macro_rules | `(tactic| walk_at "cn") => `(tactic| first | assumption | exact updc_ne' (by walk_at "ne") (by walk_at "cn") | exact delc_ne' (by walk_at "ne") (by walk_at "cn"))
local macro_rules | `(tactic| walk_at "sb") => `(tactic| first | assumption | exact SubC.rfl' | exact sub_p (by walk_at "sb") | exact SubC.newr (by walk_at "sb") (by walk_at "cn") | exact SubC.del (by walk_at "sb") (by walk_at "cn"))
local macro_rules | `(tactic| walk_at "st") => `(tactic| (first
  | with_reducible refine wSeq_i ?_
  | with_reducible refine wAsg_i ?_
  | with_reducible refine wOp_i ?_
  | with_reducible refine wC_i ?_
  | with_reducible refine wCons_i ?_
  | with_reducible refine wNil_i ?_
  | with_reducible refine wFn_i ?_
  | with_reducible refine wCall_i ?_
  | with_reducible refine wIf_i ?_
  | with_reducible refine wRet_i ?_
  | with_reducible refine wSkip_i ?_
  | with_reducible refine wTst_i ?_
  | with_reducible refine asB_i ?_
  | with_reducible refine asI_i ?_
  | with_reducible refine wSet_i ?_
  | with_reducible refine wDrop_i ?_
  | with_reducible refine wTup_i ?_
  | with_reducible refine wLst_i ?_
  | with_reducible refine newL_f ?_
  | with_reducible refine wAsgG_i ?_
  | with_reducible refine gNm_i ?_
  | with_reducible refine gCn_i ?_
  | with_reducible refine gNl_i ?_
  | with_reducible refine wSl_i ?_
  | with_reducible refine wNo_i ?_
  | with_reducible refine wSome_i ?_
  | with_reducible refine wNot_i ?_
  | with_reducible refine wAnd_i ?_
  | with_reducible refine wOr_i ?_
  | with_reducible refine wAndV_i ?_
  | with_reducible refine wOrV_i ?_
  | with_reducible refine wNotV_i ?_
  | with_reducible refine wIfE_i ?_
  | with_reducible refine wYes_i ?_
  | with_reducible refine wMt_i ?_
  | with_reducible refine wIt_i ?_
  | with_reducible refine wFor_i ?_
  | with_reducible refine wComp_i ?_
  | with_reducible refine compS_i ?_
  | with_reducible refine forS_i ?_
  | with_reducible refine wRetN_i ?_
  | with_reducible refine wFrz_i ?_
  | with_reducible refine wDict_i ?_
  | with_reducible refine wGet2_i ?_
  | with_reducible refine wWk_i ?_
  | with_reducible refine wNeg_i ?_
  | with_reducible refine neg_i ?_
  | with_reducible refine wRg1_i ?_
  | with_reducible refine wRg2_i ?_
  | with_reducible refine wZip_i ?_
  | with_reducible refine wEnum_i ?_
  | with_reducible refine zip_i ?_
  | with_reducible refine zip_t ?_
  | with_reducible refine enum_i ?_
  | with_reducible refine add_ii ?_
  | with_reducible refine sub_ii ?_
  | with_reducible refine lt_ii ?_
  | with_reducible refine ltI_ii ?_
  | with_reducible refine eq_ii ?_
  | with_reducible refine abs_i ?_
  | with_reducible refine int_i ?_
  | with_reducible refine int_b ?_
  | with_reducible refine max2_i ?_
  | with_reducible refine min2_i ?_
  | with_reducible refine sl_l ?_
  | with_reducible refine sl_r ?_
  | with_reducible refine len_l ?_
  | with_reducible refine len_t ?_
  | with_reducible refine len_k ?_
  | with_reducible refine len_r ?_
  | with_reducible refine ite_bt ?_
  | with_reducible refine ite_bf ?_
  | with_reducible refine ite_n ?_
  | with_reducible refine lst_l ?_
  | with_reducible refine lst_s ?_
  | with_reducible refine tup_l ?_
  | with_reducible refine tup_t ?_
  | ((with_reducible show wVar _ _ _ _ _); refine wVar_i (by rfl) ?_)
  | ((with_reducible show _ ≤ sizeLine ∧ _); refine lenQ (by rfl) ?_)
  | ((with_reducible show gTp _ _ (.tup _) _ _ _); refine gTp_i (by rfl) ?_)
  | ((with_reducible show gTp _ _ (.kt _) _ _ _); refine gTp_k (by rfl) ?_)
  | ((with_reducible show itR (.ref _) _ _); refine itC (by walk_at "cl") ?_)
  | ((with_reducible show itR _ _ _); refine itQ (by rfl) ?_)
  | ((with_reducible show isiR _ [_, .tup _] _); refine isi_t (b := true) (by rfl) (by rfl) (by rfl) ?_)
  | ((with_reducible show isiR _ [_, .tup _] _); refine isi_t (b := false) (by rfl) (by rfl) (by rfl) ?_)
  | ((with_reducible show zipR [.ref _, .lst _] _ _); refine zip_cl (by walk_at "cl") ?_)
  | ((with_reducible show modR _ (.int _) (.int _) _); refine mod_ii (by omega) ?_)
  | ((with_reducible show idxR _ (.ref _) (.int _) _); refine ix_c (by walk_at "cl") (by first | rfl | exact at0 _ _ | exact at1 _ _ _ | assumption) ?_)
  | ((with_reducible show idxR _ (.lst _) (.int _) _); refine ix_l (by first | rfl | exact at0 _ _ | exact at1 _ _ _ | assumption) ?_)
  | ((with_reducible show idxR _ (.tup _) (.int _) _); refine ix_t (by first | rfl | exact at0 _ _ | exact at1 _ _ _ | assumption) ?_)
  | ((with_reducible show setR _ (.ref _) (.int _) _ _); refine set_l (by walk_at "cl") (by rfl) ?_)
  | ((with_reducible show fdivR _ (.int _) (.int _) _); refine fdiv_ii (by first | assumption | exact .inl ⟨by omega, by omega⟩) ?_)
  | ((with_reducible show mulR _ _ (.int _) (.int _) _); refine mul_ii (by first | assumption | exact .inl (.inl ⟨by omega, by omega⟩) | exact .inl (.inr ⟨by omega, by omega⟩)) ?_)
  | ((with_reducible show powR _ (.int _) (.int _) _); refine pow_ii (by exact ⟨by decide, by decide, by decide⟩) (by (conv => lhs; simp only [Int.reduceToNat, Int.reducePow])) ?_)
  | ((with_reducible show isiR _ [_, .ty _] _); refine isi_i (b := true) (by rfl) (by rfl) ?_)
  | ((with_reducible show isiR _ [_, .ty _] _); refine isi_i (b := false) (by rfl) (by rfl) ?_)
  | ((with_reducible show lenR _ [.ref _] _); refine len_c (by walk_at "cl") ?_)
  | ((with_reducible show sliceR _ _ (.ref _) _ _ _); refine sl_c (by walk_at "cl") ?_)
  | ((with_reducible show listR _ _ [.ref _] _); refine lst_c (by walk_at "cl") ?_)
  | ((with_reducible show frzR (.ref _) _ _); refine frzQ (by walk_at "cl") ?_)
  | ((with_reducible show rgR1 [.int _] _ _); refine rg1_i (by omega) (by omega) ?_)
  | ((with_reducible show rgR2 [.int _, .int _] _ _); refine rg2_i (by omega) (by omega) (by omega) (by omega) ?_)))
local macro_rules | `(tactic| walk_at "go") => `(tactic| repeat walk_at "st")
local macro_rules | `(tactic| walk_at "lr") => `(tactic| (walk_at "go"; refine rng_1 fun p0 hp0 => ?_; walk_at "go"; refine lst_g (by walk_at "cl") (by decide) (by decide) (by omega) (by omega) (by omega) ?_; walk_at "go"; refine wk_i (SubC.new hp0) ?_; clear hp0 p0; walk_at "go"))
/-! worths -/
inductive Wo where
  | num (n : Int)
  | face (m : Int) (s u : Wo)
  deriving DecidableEq
def Wo.d : Wo → D
  | .num n => .int n
  | .face m s u => .tup [.str "face", .int m, s.d, u.d]
theorem Wo.d_inj : ∀ {a b : Wo}, a.d = b.d → a = b
  | .num n, .num k, h => by simp only [Wo.d, D.int.injEq] at h; rw [h]
  | .num n, .face .., h => by simp only [Wo.d] at h; cases h
  | .face .., .num k, h => by simp only [Wo.d] at h; cases h
  | .face m s u, .face m' s' u', h => by
    simp only [Wo.d, D.tup.injEq, List.cons.injEq, D.int.injEq, and_true, true_and] at h
    rw [h.1, Wo.d_inj h.2.1, Wo.d_inj h.2.2]
theorem Wo.d_iff {a b : Wo} : a.d = b.d ↔ a = b := ⟨Wo.d_inj, fun h => by rw [h]⟩
def Wo.deep : Wo → Nat
  | .num _ => 0
  | .face _ s u => max s.deep u.deep + 1
theorem face_ok : PyData.strOk (Str.ofString "face") = true := by decide +kernel
theorem Wo.okD : ∀ a : Wo, DL.okD a.d = true
  | .num _ => rfl
  | .face m s u => by
    simp only [Wo.d, DL.okD, okDs, Wo.okD s, Wo.okD u, Bool.and_true, Bool.true_and]
    exact face_ok
theorem Wo.dep : ∀ a : Wo, DL.dep a.d = a.deep
  | .num _ => rfl
  | .face m s u => by
    simp only [Wo.d, DL.dep, deps, Wo.dep s, Wo.dep u, Wo.deep]
    omega
theorem Wo.eqOk {a : Wo} (h : a.deep ≤ 64) : DL.eqOk a.d := ⟨a.okD, by rw [a.dep]; exact h⟩
theorem Wo.res {c : CMap} : ∀ {a : Wo}, DL.res c a.d = a.d
  | .num _ => rfl
  | .face .. => rfl
/-- the marks rise from k on, below 6; both faces unlike; numbers from 0 to 999 -/
def Wo.ok : Nat → Wo → Prop
  | _, .num n => 0 ≤ n ∧ n < 1000
  | k, .face m s u => (k : Int) ≤ m ∧ m < 6 ∧ s ≠ u ∧ s.ok (m.toNat + 1) ∧ u.ok (m.toNat + 1)
theorem Wo.ok_mono : ∀ {a : Wo} {j k : Nat}, j ≤ k → a.ok k → a.ok j
  | .num _, _, _, _, h => h
  | .face m s u, j, k, l, h => ⟨Int.le_trans (Int.ofNat_le.mpr l) h.1, h.2⟩
theorem Wo.ok_deep : ∀ {a : Wo} {k : Nat}, a.ok k → k ≤ 6 → a.deep + k ≤ 6
  | .num _, _, _, l => by simpa [Wo.deep] using l
  | .face m s u, k, h, l => by
    obtain ⟨h1, h2, _, h3, h4⟩ := h
    have a1 := Wo.ok_deep h3 (by omega)
    have a2 := Wo.ok_deep h4 (by omega)
    simp only [Wo.deep]
    omega
def Wo.seen : Wo → List Int → Int
  | .num n, _ => n
  | .face m s u, v => if m ∈ v then s.seen v else u.seen v
/-- ints as data -/
theorem int_mem {n : Int} {ns : List Int} : D.int n ∈ ns.map D.int ↔ n ∈ ns := by
  simp [List.mem_map]
theorem ints_flat (ns : List Int) : (ns.map D.int).all flatD = true := by
  simp [List.all_eq_true, flatD]
theorem ints_ok : ∀ ns : List Int, okDs (ns.map D.int) = true
  | [] => rfl
  | n :: r => by simp only [List.map_cons, okDs, DL.okD, ints_ok r, Bool.and_true]
theorem ints_dep : ∀ ns : List Int, deps (ns.map D.int) = 0
  | [] => rfl
  | n :: r => by simp [deps, DL.dep, ints_dep r]
theorem ints_eqOk (ns : List Int) : DL.eqOk (.lst (ns.map D.int)) := ⟨ints_ok ns, by simp [DL.dep, ints_dep]⟩
theorem ints_inj {a b : List Int} : D.lst (a.map D.int) = .lst (b.map D.int) ↔ a = b := by
  refine ⟨fun h => ?_, fun h => by rw [h]⟩
  have h1 : intsD (a.map D.int) = intsD (b.map D.int) := by injection h with h; rw [h]
  rw [intsD_map, intsD_map] at h1
  exact Option.some.inj h1
/-! draws -/
def SprOk (k : Cell) : Prop := ∃ a b n : Int, k = .lst [.int a, .int b, .int n] ∧ 0 ≤ b ∧ b < 2305843009213693951
def sp_law_draw : DSpec := fun ds c E Q => ∃ (p : Addr) (m : Int) (k : Cell), ds = [.ref p, .int m] ∧ c p = some k ∧ SprOk k ∧ 0 < m ∧ m < 1000000 ∧ ∀ (v : Int) k', 0 ≤ v → v < m → SprOk k' → Q (.int v) (updc c p k')
theorem ok_law_draw {ds c E Q} (h : sp_law_draw ds c E Q) : b_law_draw (endD E Q) (startE 4 ds) c := by
  obtain ⟨p, m, k, rfl, hp, ⟨a, b, n, rfl, b0, b1⟩, m0, m1, q⟩ := h
  have e1 := Int.emod_nonneg a (show m ≠ 0 by omega)
  have e2 := Int.emod_lt_of_pos a m0
  unfold b_law_draw
  walk_at "go"
  refine ite_d (fun h => ?_) (fun h => ?_)
  · walk_at "go"
    exact ⟨_, SubC.rfl', q _ _ e1 e2 ⟨_, _, _, rfl, b0, b1⟩⟩
  · walk_at "go"
    refine ⟨_, SubC.rfl', ?_⟩
    rw [updc_updc]
    exact q _ _ (Int.emod_nonneg _ (by omega)) (Int.emod_lt_of_pos _ m0) ⟨_, _, _, rfl, by omega, by omega⟩
def sp_law_spring : DSpec := fun ds c E Q => ∃ ns : List Int, ds = [.scr ns] ∧ ns.length ≤ 63 ∧ ∀ p k, c p = none → SprOk k → Q (.ref p) (updc c p k)
theorem t60 : (1000000000000000000000000000000000000000000000000000000000000 : Int) = 10 ^ 60 := by decide
theorem figs_ok {f : Int} {i : Nat} (h0 : 0 ≤ f) (h1 : f < 10 ^ (60 * i)) (hi : i ≤ 64) : CMul f 1000000000000000000000000000000000000000000000000000000000000 ∨ CMulW f 1000000000000000000000000000000000000000000000000000000000000 := by
  rw [t60]
  right
  have e : (10 : Int) ^ (60 * i) = (((10 : Nat) ^ (60 * i) : Nat) : Int) := by rw [Int.natCast_pow]; rfl
  have l1 : (10 : Nat) ^ (60 * i) ≤ 10 ^ (60 * 64) := Nat.pow_le_pow_right (by decide) (by omega)
  have l2 : (10 : Nat) ^ (60 * 64) ≤ 2 ^ 16000 := by decide +kernel
  exact wide_mul (a := 16000) (b := 300) (by rw [e] at h1; omega) (by decide +kernel) (by decide) (by decide) (by decide)
theorem figs_next {f r : Int} {i : Nat} (h0 : 0 ≤ f) (h1 : f < 10 ^ (60 * i)) (r0 : 0 ≤ r) (r1 : r < 1000000000000000000000000000000000000000000000000000000000000) : 0 ≤ f * 1000000000000000000000000000000000000000000000000000000000000 + r ∧ f * 1000000000000000000000000000000000000000000000000000000000000 + r < 10 ^ (60 * (i + 1)) := by
  rw [t60] at r1 ⊢
  have e : (10 : Int) ^ (60 * (i + 1)) = 10 ^ (60 * i) * 10 ^ 60 := by rw [show 60 * (i + 1) = 60 * i + 60 by omega, Int.pow_add]
  have h2 : (f + 1) * 10 ^ 60 ≤ 10 ^ (60 * i) * 10 ^ 60 := Int.mul_le_mul_of_nonneg_right (by omega) (by decide)
  have h3 : (0 : Int) ≤ f * 10 ^ 60 := Int.mul_nonneg h0 (by decide)
  rw [e]
  generalize (10 : Int) ^ (60 * i) * 10 ^ 60 = z at *
  rw [Int.add_mul] at h2
  exact ⟨by omega, by omega⟩
theorem ok_law_spring {ds c E Q} (h : sp_law_spring ds c E Q) : b_law_spring (endD E Q) (startE 4 ds) c := by
  obtain ⟨ns, rfl, hl, q⟩ := h
  unfold b_law_spring
  walk_at "go"
  refine for_inv (fun i env c' => c' = c ∧ ∃ (f s : Int) (v : Option D), env = [some (.scr ns), some (.int f), some (.int s), v] ∧ 0 ≤ f ∧ f < 10 ^ (60 * i) ∧ 0 ≤ s ∧ s < 2305843009213693951) ⟨rfl, 0, 88651, none, rfl, by decide, by decide, by decide, by decide⟩ ?_ ?_
  · rintro i d env c' e ⟨rfl, f, s, v, rfl, f0, f1, s0, s1⟩
    have hi : i < 64 := by
      have := (List.getElem?_eq_some_iff.mp e).1
      simp only [List.length_map, cutG, List.length_take, List.length_drop] at this
      omega
    obtain ⟨x, rfl⟩ : ∃ x, d = .int x := by
      rw [List.getElem?_map] at e
      cases z : (cutG ns none (some 63))[i]? with
      | none => rw [z] at e; cases e
      | some x => rw [z] at e; exact ⟨x, (Option.some.inj e).symm⟩
    have m0 := figs_ok f0 f1 (by omega)
    walk_at "go"
    refine ite_d (fun h => ?_) (fun h => ?_)
    · walk_at "go"
      have e1 := Int.emod_nonneg (if x < 0 then -x else x) (show (1000000000000000000000000000000000000000000000000000000000000 : Int) ≠ 0 by decide)
      have e2 := Int.emod_lt_of_pos (if x < 0 then -x else x) (show (0 : Int) < 1000000000000000000000000000000000000000000000000000000000000 by decide)
      obtain ⟨g1, g2⟩ := figs_next f0 f1 e1 e2
      exact ⟨rfl, _, _, _, rfl, g1, g2, by omega, by omega⟩
    · walk_at "go"
      have : (10 : Int) ^ (60 * i) ≤ 10 ^ (60 * (i + 1)) := by
        have := Nat.pow_le_pow_right (show 0 < 10 by decide) (show 60 * i ≤ 60 * (i + 1) by omega)
        have e := Int.ofNat_le.mpr this
        rwa [Int.natCast_pow, Int.natCast_pow] at e
      exact ⟨rfl, _, _, _, rfl, f0, by omega, by omega, by omega⟩
  · rintro env c' ⟨rfl, f, s, v, rfl, f0, f1, s0, s1⟩
    walk_at "go"
    refine newL_t fun p hp => ?_
    exact ⟨_, SubC.rfl', q p _ hp ⟨_, _, _, rfl, s0, s1⟩⟩
/-! cuts -/
theorem cut_to {α : Type} (xs : List α) (k : Nat) : cutG xs none (some (k : Int)) = xs.take k := by
  unfold cutG
  rw [show HT.sIx xs.length 0 none = 0 from rfl, HT.sIx_nat, List.drop_zero, Nat.sub_zero]
  rw [List.take_eq_take_iff]; omega
theorem cut_from {α : Type} (xs : List α) (k : Nat) : cutG xs (some (k : Int)) none = xs.drop k := by
  unfold cutG
  rw [show HT.sIx xs.length xs.length none = xs.length from rfl, HT.sIx_nat]
  by_cases h : k ≤ xs.length
  · rw [Nat.min_eq_left h]
    exact List.take_of_length_le (by rw [List.length_drop]; omega)
  · rw [Nat.min_eq_right (by omega), List.drop_of_length_le (Nat.le_refl _), List.drop_of_length_le (by omega)]; simp
theorem mem_map_at {α β : Type} {f : α → β} {xs : List α} {i : Nat} {y : β} (e : (xs.map f)[i]? = some y) : ∃ x, xs[i]? = some x ∧ y = f x := by
  rw [List.getElem?_map] at e
  cases z : xs[i]? with
  | none => rw [z] at e; cases e
  | some x => rw [z] at e; exact ⟨x, rfl, (Option.some.inj e).symm⟩
theorem at_nat {α : Type} {xs : List α} {j : Nat} {v : α} (h : xs[j]? = some v) : atI xs (j : Int) = some v := atI_nat h
theorem fnil {α : Type} (xs : List α) : xs = [] ∨ ∃ a r, xs = a :: r := by
  cases xs with
  | nil => exact .inl rfl
  | cons a r => exact .inr ⟨a, r, rfl⟩
theorem upto_len (a : Int) (n : Nat) : (upto a n).length = n := by simp [upto]
theorem upto_at {a : Int} {n i : Nat} {x : Int} (h : (upto a n)[i]? = some x) : i < n ∧ x = a + i := by
  unfold upto at h
  obtain ⟨y, h1, h2⟩ := mem_map_at h
  obtain ⟨h3, h4⟩ := List.getElem?_eq_some_iff.mp h1
  rw [List.getElem_range] at h4
  subst h4
  exact ⟨by simpa using h3, h2⟩
/-! all views, and a worth built of a number for each -/
def viewsOf : List Int → List (List Int)
  | [] => [[]]
  | m :: ms => (viewsOf ms).map (m :: ·) ++ viewsOf ms
def viewD (v : List Int) : D := .lst (v.map D.int)
theorem views_len : ∀ ms : List Int, (viewsOf ms).length = 2 ^ ms.length
  | [] => rfl
  | m :: ms => by simp only [viewsOf, List.length_append, List.length_map, views_len ms, List.length_cons, Nat.pow_succ]; omega
def sp_law_views (n : Nat) : DSpec := fun ds c E Q => ∃ ms : List Int, ds = [.lst (ms.map D.int)] ∧ ms.length < n ∧ ms.length ≤ 6 ∧ Q (.lst ((viewsOf ms).map viewD)) c
theorem ok_law_views {n : Nat} {ds c E Q} (h : sp_law_views (n + 1) ds c E Q) : b_law_views (sp_law_views n) (endD E Q) (startE 3 ds) c := by
  obtain ⟨ms, rfl, hl, hl6, q⟩ := h
  unfold b_law_views
  walk_at "go"
  refine eq_dd rfl rfl (ints_eqOk ms) (ints_eqOk []) ?_
  walk_at "go"
  refine ite_fd (fun h => ?_) (fun h => ?_)
  · obtain rfl : ms = [] := ints_inj.mp h
    walk_at "go"
    exact ⟨_, SubC.rfl', q⟩
  · walk_at "go"
    obtain ⟨m, r, rfl⟩ : ∃ m r, ms = m :: r := by
      rcases fnil ms with rfl | z
      · exact absurd rfl h
      · exact z
    have e1 : cutG ((m :: r).map D.int) (some 1) none = r.map D.int := cut_from _ 1
    rw [e1]
    simp only [List.length_cons] at hl hl6
    refine ⟨r, rfl, by omega, by omega, ?_⟩
    walk_at "go"
    intro A hA
    have hv := views_len r
    have hp : 2 ^ r.length ≤ 2 ^ 5 := Nat.pow_le_pow_right (by decide) (by omega)
    refine comp_map (fun d => match d with | .lst v => some (.lst (.int m :: v)) | _ => none) hA (by rw [List.length_map, hv]; omega) ?_ ?_
    · intro d c' k hd hc hk
      obtain ⟨v, hv1, rfl⟩ := List.mem_map.mp hd
      walk_at "go"
      have e2 : cutG ((m :: r).map D.int) none (some 1) = [D.int m] := cut_to _ 1
      rw [e2]
      unfold viewD at hk ⊢
      have hvl : v.length ≤ 6 := by
        have : ∀ (ms : List Int) (v : List Int), v ∈ viewsOf ms → v.length ≤ ms.length := by
          intro ms
          induction ms with
          | nil => intro v h; simp [viewsOf] at h; simp [h]
          | cons m ms ih =>
            intro v h
            simp only [viewsOf, List.mem_append, List.mem_map] at h
            rcases h with ⟨w, hw, rfl⟩ | h
            · have := ih w hw; simp; omega
            · have := ih v h; simp; omega
        have := this r v hv1
        omega
      refine add_ll (len_le (by simp; omega)) (newL_f ?_)
      walk_at "go"
      exact hk
    · walk_at "go"
      refine add_ll (len_le (Nat.le_trans (Nat.add_le_add_right (List.length_filterMap_le _ _) _) (by simp only [List.length_map, hv]; omega))) (newL_f ?_)
      refine ⟨_, SubC.rfl', ?_⟩
      have e3 : ((viewsOf r).map viewD).filterMap (fun d => match d with | .lst v => some (.lst (.int m :: v)) | _ => none) = ((viewsOf r).map (m :: ·)).map viewD := by
        rw [List.filterMap_map, List.map_map]
        have : (fun d => match d with | D.lst v => some (D.lst (D.int m :: v)) | _ => none) ∘ viewD = fun v => some (viewD (m :: v)) := by funext v; rfl
        rw [this, List.filterMap_eq_map']
        rfl
      rw [e3, ← List.map_append]
      exact q
/-- the worth of a number for each view, those that have the first mark first -/
def builtW : List Int → List Int → Wo
  | [], ns => .num (ns.headD 0)
  | m :: ms, ns => if builtW ms (ns.take (ns.length / 2)) = builtW ms (ns.drop (ns.length / 2)) then builtW ms (ns.take (ns.length / 2)) else .face m (builtW ms (ns.take (ns.length / 2))) (builtW ms (ns.drop (ns.length / 2)))
theorem builtW_deep : ∀ (ms ns : List Int), (builtW ms ns).deep ≤ ms.length
  | [], ns => Nat.le_refl _
  | m :: ms, ns => by
    have h1 := builtW_deep ms (ns.take (ns.length / 2))
    have h2 := builtW_deep ms (ns.drop (ns.length / 2))
    unfold builtW
    split
    · simp only [List.length_cons]; omega
    · simp only [Wo.deep, List.length_cons]; omega
def sp_law_built (n : Nat) : DSpec := fun ds c E Q => ∃ ms ns : List Int, ds = [.lst (ms.map D.int), .lst (ns.map D.int)] ∧ ms.length < n ∧ ms.length ≤ 6 ∧ ns.length = 2 ^ ms.length ∧ Q (builtW ms ns).d c
theorem ok_law_built {n : Nat} {ds c E Q} (h : sp_law_built (n + 1) ds c E Q) : b_law_built (sp_law_built n) (endD E Q) (startE 5 ds) c := by
  obtain ⟨ms, ns, rfl, hl, hl6, hn, q⟩ := h
  unfold b_law_built
  walk_at "go"
  refine eq_dd rfl rfl (ints_eqOk ms) (ints_eqOk []) ?_
  walk_at "go"
  refine ite_fd (fun h => ?_) (fun h => ?_)
  · obtain rfl : ms = [] := ints_inj.mp h
    obtain ⟨x, rfl⟩ : ∃ x, ns = [x] := by
      match ns, hn with
      | [x], _ => exact ⟨x, rfl⟩
    walk_at "go"
    exact ⟨_, SubC.rfl', q⟩
  · walk_at "go"
    obtain ⟨m, r, rfl⟩ : ∃ m r, ms = m :: r := by
      rcases fnil ms with rfl | z
      · exact absurd rfl h
      · exact z
    have e1 : cutG ((m :: r).map D.int) (some 1) none = r.map D.int := cut_from _ 1
    have e0 : ((((ns.map D.int).length : Nat) : Int) / 2) = ((ns.length / 2 : Nat) : Int) := by rw [List.length_map]; omega
    rw [List.length_cons, Nat.pow_succ] at hn
    simp only [List.length_cons] at hl hl6
    rw [e1, e0, cut_to, ← List.map_take]
    refine ⟨r, _, rfl, by omega, by omega, by rw [List.length_take]; omega, ?_⟩
    walk_at "go"
    have e1 : cutG ((m :: r).map D.int) (some 1) none = r.map D.int := cut_from _ 1
    have e0 : ((((ns.map D.int).length : Nat) : Int) / 2) = ((ns.length / 2 : Nat) : Int) := by rw [List.length_map]; omega
    rw [e1, cut_from, ← List.map_drop]
    refine ⟨r, _, rfl, by omega, by omega, by rw [List.length_drop]; omega, ?_⟩
    walk_at "go"
    have d1 := builtW_deep r (ns.take (ns.length / 2))
    have d2 := builtW_deep r (ns.drop (ns.length / 2))
    refine eq_dd Wo.res Wo.res (Wo.eqOk (by omega)) (Wo.eqOk (by omega)) ?_
    walk_at "go"
    unfold builtW at q
    refine ite_fd (fun h => ?_) (fun h => ?_)
    · rw [if_pos (Wo.d_inj h)] at q
      walk_at "go"
      exact ⟨_, SubC.rfl', q⟩
    · rw [if_neg (fun z => h (by rw [z]))] at q
      walk_at "go"
      exact ⟨_, SubC.rfl', q⟩
/-- what a view sees of it: its own number -/
theorem built_seen : ∀ (ms ns : List Int) (i : Nat) (v : List Int) (x : Int), ms.Pairwise (· < ·) → ns.length = 2 ^ ms.length → (viewsOf ms)[i]? = some v → ns[i]? = some x → (builtW ms ns).seen v = x
  | [], ns, i, v, x, _, hn, hv, hx => by
    match ns, hn with
    | [y], _ =>
      match i, hv with
      | 0, _ => simp at hx; simp [builtW, Wo.seen, hx]
  | m :: ms, ns, i, v, x, hp, hn, hv, hx => by
    rw [List.length_cons, Nat.pow_succ] at hn
    have hvl := views_len ms
    have hin : ∀ (ms : List Int) (v : List Int), v ∈ viewsOf ms → ∀ a ∈ v, a ∈ ms := by
      intro ms
      induction ms with
      | nil => intro v h a ha; simp [viewsOf] at h; subst h; cases ha
      | cons m ms ih =>
        intro v h a ha
        simp only [viewsOf, List.mem_append, List.mem_map] at h
        rcases h with ⟨w, hw, rfl⟩ | h
        · rcases List.mem_cons.mp ha with rfl | ha
          · exact List.mem_cons_self
          · exact List.mem_cons_of_mem _ (ih w hw a ha)
        · exact List.mem_cons_of_mem _ (ih v h a ha)
    have hc : ∀ (ms : List Int) (ns w : List Int) (m : Int), (∀ a ∈ ms, m < a) → (builtW ms ns).seen (m :: w) = (builtW ms ns).seen w := by
      intro ms
      induction ms with
      | nil => intro ns w m _; rfl
      | cons k ms ih =>
        intro ns w m h
        have hk := h k List.mem_cons_self
        have h' : ∀ a ∈ ms, m < a := fun a ha => h a (List.mem_cons_of_mem _ ha)
        unfold builtW
        split
        · exact ih _ w m h'
        · have e : (k ∈ m :: w) = (k ∈ w) := by
            have : k ≠ m := by omega
            simp [this]
          simp only [Wo.seen, e, ih _ w m h']
    obtain ⟨hp1, hp2⟩ := List.pairwise_cons.mp hp
    have s1 := built_seen ms (ns.take (ns.length / 2))
    have s2 := built_seen ms (ns.drop (ns.length / 2))
    simp only [viewsOf] at hv
    by_cases hi : i < 2 ^ ms.length
    · rw [List.getElem?_append_left (by simpa [hvl] using hi)] at hv
      obtain ⟨w, hw, rfl⟩ := mem_map_at hv
      have t := s1 i w x hp2 (by rw [List.length_take]; omega) hw (by rw [List.getElem?_take, if_pos (by omega)]; exact hx)
      unfold builtW
      split
      · rw [hc ms _ w m hp1]; exact t
      · simp only [Wo.seen, List.mem_cons, true_or, if_true]
        rw [hc ms _ w m hp1]; exact t
    · rw [List.getElem?_append_right (by simp [hvl]; omega)] at hv
      simp only [List.length_map, hvl] at hv
      have hm : m ∉ v := fun z => by
        have := hp1 m (hin ms v (List.mem_of_getElem? hv) m z)
        omega
      have t := s2 (i - 2 ^ ms.length) v x hp2 (by rw [List.length_drop]; omega) hv (by rw [List.getElem?_drop, ← hx]; congr 1; omega)
      unfold builtW
      split
      · rename_i e; rw [e]; exact t
      · simp only [Wo.seen, hm, if_false]; exact t
theorem void_law_views : ∀ ds c E Q, ¬ sp_law_views 0 ds c E Q := by rintro ds c E Q ⟨ms, _, h, _⟩; exact Nat.not_lt_zero _ h
theorem void_law_built : ∀ ds c E Q, ¬ sp_law_built 0 ds c E Q := by rintro ds c E Q ⟨ms, ns, _, h, _⟩; exact Nat.not_lt_zero _ h
/-! comprehensions with draws, with truths -/
theorem updc_self {c : CMap} {p : Addr} {k : Cell} (h : c p = some k) : updc c p k = c := by
  funext x; unfold updc
  by_cases e : x = p
  · subst e; rw [if_pos rfl, h]
  · rw [if_neg e]
theorem comp_draws {G : CMap → Prop} [FreeG G] {step : D → CMap → (Option D → CMap → Prop) → Prop} {c : CMap} {A p : Addr} {ds : List D} {Q : DK} {k : Cell} (ok : Cell → Prop) (g : Int → D) (m : Int) (hA : c A = none) (hl : ds.length < 16777216) (hp : c p = some k) (hk : ok k)
    (hs : ∀ (d : D) (c' : CMap) (K : Option D → CMap → Prop) (k1 : Cell), d ∈ ds → c' p = some k1 → ok k1 → (∀ b x, c b = some x → b ≠ p → c' b = some x) → (∀ (v : Int) k', 0 ≤ v → v < m → ok k' → K (some (g v)) (updc c' p k')) → step d c' K)
    (q : ∀ (fs : List Int) k', fs.length = ds.length → (∀ x ∈ fs, 0 ≤ x ∧ x < m) → ok k' → Q (.lst (fs.map g)) (updc c p k')) : CompP false step A ds G c Q := by
  refine comp_inv hA (fun i acc c' => ∃ (fs : List Int) (k' : Cell), c' = updc c p k' ∧ ok k' ∧ acc = fs.map g ∧ fs.length = i ∧ ∀ x ∈ fs, 0 ≤ x ∧ x < m) hl ⟨[], k, (updc_self hp).symm, hk, rfl, rfl, fun _ h => by cases h⟩ ?_ ?_
  · rintro i d acc c' K e ⟨fs, k', rfl, hk', rfl, rfl, hb⟩ hA' k1 k2
    have hpA : p ≠ A := ne_some_none (c := updc c p k') updc_same hA'
    refine hs d _ K k' (List.mem_of_getElem? e) (by rw [updc_ne hpA, updc_same]) hk' (fun b x h hb => by rw [updc_ne (ne_some_none h hA), updc_ne hb]; exact h) fun v k3 v0 v1 hk3 => ?_
    rw [updc_comm (Ne.symm hpA), updc_updc]
    refine k1 (g v) _ (by rw [updc_ne (Ne.symm hpA)]; exact hA) ⟨fs ++ [v], k3, rfl, hk3, by simp, by simp, fun x hx => ?_⟩
    rcases List.mem_append.mp hx with h | h
    · exact hb x h
    · simp only [List.mem_singleton] at h; subst h; exact ⟨v0, v1⟩
  · rintro out c2 ⟨fs, k', rfl, hk', rfl, e, hb⟩ _
    rw [if_neg (by decide)]
    exact q fs k' e hb hk'
theorem comp_bools {G : CMap → Prop} [FreeG G] {step : D → CMap → (Option D → CMap → Prop) → Prop} {c : CMap} {A : Addr} {ds : List D} {Q : DK} (hA : c A = none) (hl : ds.length < 16777216)
    (hs : ∀ (d : D) (c' : CMap) (K : Option D → CMap → Prop), d ∈ ds → (∀ b x, c b = some x → c' b = some x) → (∀ b : Bool, K (some (.bl b)) c') → step d c' K) (q : ∀ bs : List Bool, Q (.lst (bs.map D.bl)) c) : CompP false step A ds G c Q := by
  refine comp_inv hA (fun i acc c' => c' = c ∧ ∃ bs : List Bool, acc = bs.map D.bl) hl ⟨rfl, [], rfl⟩ ?_ ?_
  · rintro i d acc c' K e ⟨rfl, bs, rfl⟩ hA' k1 k2
    exact hs d _ K (List.mem_of_getElem? e) (fun b x h => by rw [updc_ne (ne_some_none h hA')]; exact h) fun b => k1 _ _ hA' ⟨rfl, bs ++ [b], by simp⟩
  · rintro out c2 ⟨rfl, bs, rfl⟩ _
    rw [if_neg (by decide)]
    exact q bs
/-! what a view sees -/
def sp_seen_by : DSpec := fun ds c E Q => ∃ (w : Wo) (v : List Int), ds = [w.d, .lst (v.map D.int)] ∧ Q (.int (w.seen v)) c
theorem ok_seen_by {ds c E Q} (h : sp_seen_by ds c E Q) : b_seen_by (endD E Q) (startE 6 ds) c := by
  obtain ⟨w, v, rfl, q⟩ := h
  unfold b_seen_by
  walk_at "go"
  refine ⟨fun n env c' => c' = c ∧ ∃ (u : Wo) (v2 v3 v4 v5 : Option D), u.deep = n ∧ u.seen v = w.seen v ∧ env = [some u.d, some (.lst (v.map D.int)), v2, v3, v4, v5], ⟨w.deep, rfl, w, none, none, none, none, rfl, rfl, rfl⟩, ?_⟩
  rintro n env c' ⟨rfl, u, v2, v3, v4, v5, rfl, hu, rfl⟩
  cases u with
  | num k =>
    walk_at "go"
    exact ⟨_, SubC.rfl', by rw [← hu] at q; exact q⟩
  | face m s t =>
    walk_at "go"
    refine ⟨fun env' c2 => c2 = c' ∧ ∃ (u : Wo) (v2 v3 v4 v5 : Option D), u.deep < (Wo.face m s t).deep ∧ u.seen v = w.seen v ∧ env' = [some u.d, some (.lst (v.map D.int)), v2, v3, v4, v5], ?_, ?_⟩
    · rintro env' c2 ⟨rfl, u, a2, a3, a4, a5, h1, h2, h3⟩
      exact ⟨_, h1, _, SubC.rfl', rfl, u, a2, a3, a4, a5, rfl, h2, h3⟩
    · walk_at "go"
      rw [show (Wo.face m s t).d = .tup [.str "face", .int m, s.d, t.d] from rfl]
      walk_at "go"
      refine in_l rfl rfl (ints_flat v) ?_
      walk_at "go"
      rw [← hu]
      refine ite_fd (fun h => ?_) (fun h => ?_)
      · walk_at "go"
        exact ⟨rfl, s, _, _, _, _, by simp only [Wo.deep]; omega, by simp only [Wo.seen]; rw [if_pos (int_mem.mp h)], rfl⟩
      · walk_at "go"
        exact ⟨rfl, t, _, _, _, _, by simp only [Wo.deep]; omega, by simp only [Wo.seen]; rw [if_neg (fun z => h (int_mem.mpr z))], rfl⟩
/-! short texts -/
def SOk (n : Nat) (x : Str) : Prop := x.length ≤ n ∧ PyData.strOk x = true
theorem SOk.chr {k : Nat} (h : k < 0x110000) : SOk 1 ⟨#[k]⟩ := ⟨Nat.le_refl _, by simp [PyData.strOk, h]⟩
theorem SOk.mono {m n : Nat} {x : Str} (h : SOk m x) (l : m ≤ n) : SOk n x := ⟨Nat.le_trans h.1 l, h.2⟩
theorem SOk.app {m n : Nat} {x y : Str} (h : SOk m x) (h' : SOk n y) : SOk (m + n) (x ++ y) := by
  obtain ⟨a, b⟩ := h
  obtain ⟨a', b'⟩ := h'
  refine ⟨?_, ?_⟩
  · show (x.cps ++ y.cps).size ≤ _
    rw [Array.size_append]
    exact Nat.add_le_add a a'
  · show (x.cps ++ y.cps).all _ = true
    rw [Array.all_append]
    simp only [Bool.and_eq_true]
    exact ⟨b, b'⟩
theorem SOk.list {x : Str} {n : Nat} (h : SOk n x) : ∀ k ∈ x.cps.toList, k < 0x110000 := by
  intro k hk
  have := h.2
  unfold PyData.strOk at this
  rw [Array.all_eq_true_iff_forall_mem] at this
  simpa using this k (Array.mem_def.mpr hk)
theorem SOk.of_list {n : Nat} {l : List Nat} (h : l.length ≤ n) (h' : ∀ k ∈ l, k < 0x110000) : SOk n ⟨l.toArray⟩ := by
  refine ⟨by simpa [Str.length] using h, ?_⟩
  unfold PyData.strOk
  rw [Array.all_eq_true_iff_forall_mem]
  intro k hk
  simpa using h' k (by simpa using hk)
theorem SOk.cut {n : Nat} {x : Str} (h : SOk n x) (lo hi : Option Int) : SOk n (cutS x lo hi) := by
  unfold cutS
  refine .of_list ?_ fun k hk => h.list k (List.mem_of_mem_drop (List.mem_of_mem_take hk))
  rw [List.length_take, List.length_drop]
  have : x.cps.toList.length = x.length := by simp [Str.length]
  have := h.1
  omega
theorem SOk.join0 : ∀ {ys : List Str}, (∀ y ∈ ys, SOk 1 y) → SOk ys.length (Txt.join "" ys)
  | [], _ => by rw [TL.join_eq]; exact ⟨Nat.le_refl _, by decide +kernel⟩
  | [x], h => by rw [TL.join_eq]; exact h x (by simp)
  | x :: y :: r, h => by
    rw [TL.join_eq]
    show SOk _ (x ++ Str.ofString "" ++ Str.join "" (y :: r))
    have h1 := h x (by simp)
    have h2 := SOk.join0 (ys := y :: r) (fun z hz => h z (by simp only [List.mem_cons] at hz ⊢; exact .inr hz))
    rw [TL.join_eq] at h2
    have h3 : SOk 0 (Str.ofString "") := ⟨by decide +kernel, by decide +kernel⟩
    exact ((h1.app h3).app h2).mono (by simp only [List.length_cons]; omega)
theorem SOk.line {n : Nat} {x : Str} (h : SOk n x) (l : n ≤ 16777216) : x.length ≤ sizeLine := len_le (Nat.le_trans h.1 l)
theorem join0_sum : ∀ {ys : List Str}, (∀ y ∈ ys, SOk 1 y) → (ys.map (·.length)).sum ≤ ys.length
  | [], _ => Nat.le_refl _
  | x :: r, h => by
    have h1 := (h x (by simp)).1
    have h2 := join0_sum (ys := r) (fun z hz => h z (by simp [hz]))
    simp only [List.map_cons, List.sum_cons, List.length_cons]
    omega
theorem ix_sok {c : CMap} {Q : DK} {z : Str} {n : Nat} {i : Int} (h : SOk n z) (hn : n ≤ 16777216) (h0 : 0 ≤ i) (h1 : i < (z.length : Int)) (q : ∀ x, SOk 1 x → Q (.str x) c) : idxR c (.str z) (.int i) Q := by
  have hl : z.cps.toList.length = z.length := by simp [Str.length]
  have hi : i.toNat < z.cps.toList.length := by omega
  refine ix_str (h.line hn) (atn (j := i.toNat) (by omega) (List.getElem?_eq_getElem hi)) (q _ (.chr ?_))
  exact h.list _ (List.getElem_mem hi)
theorem abc_ok : SOk 26 "abcdefghijklmnopqrstuvwxyz" := ⟨by decide +kernel, by decide +kernel⟩
theorem abc_len : ((Str.ofString "abcdefghijklmnopqrstuvwxyz").length : Int) = 26 := by decide +kernel
theorem ix_abc {c : CMap} {Q : DK} {i : Int} (h0 : 0 ≤ i) (h1 : i < 26) (q : ∀ x, SOk 1 x → Q (.str x) c) : idxR c (.str "abcdefghijklmnopqrstuvwxyz") (.int i) Q := ix_sok abc_ok (by decide) h0 (by rw [abc_len]; exact h1) q
theorem ix_menu {c : CMap} {Q : DK} {v : Int} (ns : List Int) (lo hi : Int) (h : ∀ x ∈ ns, lo ≤ x ∧ x ≤ hi) (v0 : 0 ≤ v) (v1 : v < (ns.length : Int)) (q : ∀ x, lo ≤ x → x ≤ hi → Q (.int x) c) : idxR c (.lst (ns.map D.int)) (.int v) Q := by
  have hi2 : v.toNat < ns.length := by omega
  refine ix_l (atn (j := v.toNat) (by omega) (by rw [List.getElem?_map, List.getElem?_eq_getElem hi2]; rfl)) ?_
  exact q _ (h _ (List.getElem_mem hi2)).1 (h _ (List.getElem_mem hi2)).2
theorem add_sok {c : CMap} {m : Bool} {Q : DK} {x y : Str} {a b : Nat} (h : SOk a x) (h' : SOk b y) (l : a + b ≤ 16777216) (q : SOk (a + b) (x ++ y) → Q (.str (x ++ y)) c) : addR m c (.str x) (.str y) Q := by
  have := h.1
  have := h'.1
  exact add_ss (len_le (by omega)) (q (h.app h'))
theorem all_map {α : Type} {f : α → D} {P : α → Prop} : ∀ {ds : List D}, (∀ d ∈ ds, ∃ x : α, d = f x ∧ P x) → ∃ xs : List α, ds = xs.map f ∧ ∀ x ∈ xs, P x
  | [], _ => ⟨[], rfl, fun _ h => by cases h⟩
  | d :: ds, h => by
    obtain ⟨x, rfl, hx⟩ := h d (by simp)
    obtain ⟨xs, rfl, hxs⟩ := all_map (ds := ds) fun d hd => h d (by simp [hd])
    exact ⟨x :: xs, rfl, fun y hy => by
      rcases List.mem_cons.mp hy with rfl | hy
      · exact hx
      · exact hxs y hy⟩
theorem strs_flat (ss : List Str) : (ss.map D.str).all flatD = true := by simp [flatD]
theorem str_mem {x : Str} {ss : List Str} : D.str x ∈ ss.map D.str ↔ x ∈ ss := by simp [List.mem_map]
/-! comprehensions whose elements draw and are of some kind -/
theorem comp_kind {G : CMap → Prop} [FreeG G] {step : D → CMap → (Option D → CMap → Prop) → Prop} {c : CMap} {A p : Addr} {ds : List D} {Q : DK} {k : Cell} (ok : Cell → Prop) (T : D → Prop) (hA : c A = none) (hl : ds.length < 16777216) (hp : c p = some k) (hk : ok k)
    (hs : ∀ (d : D) (c' : CMap) (K : Option D → CMap → Prop) (k1 : Cell), d ∈ ds → c' p = some k1 → ok k1 → (∀ b x, c b = some x → b ≠ p → c' b = some x) → (∀ (y : D) k', T y → ok k' → K (some y) (updc c' p k')) → (∀ k', ok k' → K none (updc c' p k')) → step d c' K)
    (q : ∀ (out : List D) k', out.length ≤ ds.length → (∀ y ∈ out, T y) → ok k' → Q (.lst out) (updc c p k')) : CompP false step A ds G c Q := by
  refine comp_inv hA (fun i acc c' => ∃ (k' : Cell), c' = updc c p k' ∧ ok k' ∧ acc.length ≤ i ∧ ∀ x ∈ acc, T x) hl ⟨k, (updc_self hp).symm, hk, Nat.le_refl _, fun _ h => by cases h⟩ ?_ ?_
  · rintro i d acc c' K e ⟨k', rfl, hk', hi, hb⟩ hA' k1 k2
    have hpA : p ≠ A := ne_some_none (c := updc c p k') updc_same hA'
    refine hs d _ K k' (List.mem_of_getElem? e) (by rw [updc_ne hpA, updc_same]) hk' (fun b x h hb => by rw [updc_ne (ne_some_none h hA), updc_ne hb]; exact h) (fun y k3 hy hk3 => ?_) fun k3 hk3 => ?_
    · rw [updc_comm (Ne.symm hpA), updc_updc]
      refine k1 y _ (by rw [updc_ne (Ne.symm hpA)]; exact hA) ⟨k3, rfl, hk3, by simp; omega, fun x hx => ?_⟩
      rcases List.mem_append.mp hx with h | h
      · exact hb x h
      · simp only [List.mem_singleton] at h; subst h; exact hy
    · rw [updc_comm (Ne.symm hpA), updc_updc]
      exact k2 _ (by rw [updc_ne (Ne.symm hpA)]; exact hA) ⟨k3, rfl, hk3, by omega, hb⟩
  · rintro out c2 ⟨k', rfl, hk', hi, hb⟩ _
    rw [if_neg (by decide)]
    exact q out k' hi hb hk'
/-- .. each gives one -/
theorem comp_kind1 {G : CMap → Prop} [FreeG G] {step : D → CMap → (Option D → CMap → Prop) → Prop} {c : CMap} {A p : Addr} {ds : List D} {Q : DK} {k : Cell} (ok : Cell → Prop) (T : D → Prop) (hA : c A = none) (hl : ds.length < 16777216) (hp : c p = some k) (hk : ok k)
    (hs : ∀ (d : D) (c' : CMap) (K : Option D → CMap → Prop) (k1 : Cell), d ∈ ds → c' p = some k1 → ok k1 → (∀ b x, c b = some x → b ≠ p → c' b = some x) → (∀ (y : D) k', T y → ok k' → K (some y) (updc c' p k')) → step d c' K)
    (q : ∀ (out : List D) k', out.length = ds.length → (∀ y ∈ out, T y) → ok k' → Q (.lst out) (updc c p k')) : CompP false step A ds G c Q := by
  refine comp_inv hA (fun i acc c' => ∃ (k' : Cell), c' = updc c p k' ∧ ok k' ∧ acc.length = i ∧ ∀ x ∈ acc, T x) hl ⟨k, (updc_self hp).symm, hk, rfl, fun _ h => by cases h⟩ ?_ ?_
  · rintro i d acc c' K e ⟨k', rfl, hk', hi, hb⟩ hA' k1 k2
    have hpA : p ≠ A := ne_some_none (c := updc c p k') updc_same hA'
    refine hs d _ K k' (List.mem_of_getElem? e) (by rw [updc_ne hpA, updc_same]) hk' (fun b x h hb => by rw [updc_ne (ne_some_none h hA), updc_ne hb]; exact h) (fun y k3 hy hk3 => ?_)
    rw [updc_comm (Ne.symm hpA), updc_updc]
    refine k1 y _ (by rw [updc_ne (Ne.symm hpA)]; exact hA) ⟨k3, rfl, hk3, by simp; omega, fun x hx => ?_⟩
    rcases List.mem_append.mp hx with h | h
    · exact hb x h
    · simp only [List.mem_singleton] at h; subst h; exact hy
  · rintro out c2 ⟨k', rfl, hk', hi, hb⟩ _
    rw [if_neg (by decide)]
    exact q out k' hi hb hk'
/-- letters drawn -/
def isLetter (d : D) : Prop := ∃ x, d = .str x ∧ SOk 1 x
/-! comprehensions over a mapped list, their elements changing nothing -/
theorem comp_mapG {G : CMap → Prop} {m : Bool} {α : Type} {xs : List α} {g : α → D} {step : D → CMap → (Option D → CMap → Prop) → Prop} {A : Addr} {c : CMap} {Q : DK} (f : α → Option D) (hA : c A = none) (hl : xs.length < 16777216) (hg : ∀ k, G (updc c A k))
    (hs : ∀ (x : α) (c' : CMap) (k : Option D → CMap → Prop), x ∈ xs → (∀ b y, c b = some y → c' b = some y) → k (f x) c' → step (g x) c' k) (q : if m = true then Q (.ref A) (updc c A (.lst (xs.filterMap f))) else Q (.lst (xs.filterMap f)) c) : CompP m step A (xs.map g) G c Q := by
  refine comp_invG hA (fun i acc c' => c' = c ∧ acc = (xs.take i).filterMap f) (by rw [List.length_map]; exact hl) ⟨rfl, by simp⟩ ?_ (by rintro i acc c2 ⟨rfl, _⟩ _; exact hg _) ?_
  · rintro i d acc c' k e ⟨rfl, rfl⟩ hA' k1 k2
    obtain ⟨x, hx, rfl⟩ := mem_map_at e
    refine hs x _ k (List.mem_of_getElem? hx) (fun b y h => by rw [updc_ne (ne_some_none h hA')]; exact h) ?_
    have et : (xs.take (i + 1)).filterMap f = (xs.take i).filterMap f ++ (f x).toList := by
      rw [List.take_add_one, hx, List.filterMap_append]
      cases h : f x <;> simp [h]
    cases h : f x with
    | some y => exact k1 y _ hA' ⟨rfl, by rw [et, h]; rfl⟩
    | none => exact k2 _ hA' ⟨rfl, by rw [et, h]; simp⟩
  · rintro out c2 ⟨rfl, rfl⟩ _
    rw [List.length_map, List.take_length]
    exact q
theorem comp_mapL {G : CMap → Prop} [FreeG G] {α : Type} {xs : List α} {g : α → D} {step : D → CMap → (Option D → CMap → Prop) → Prop} {A : Addr} {c : CMap} {Q : DK} (f : α → Option D) (hA : c A = none) (hl : xs.length < 16777216)
    (hs : ∀ (x : α) (c' : CMap) (k : Option D → CMap → Prop), x ∈ xs → (∀ b y, c b = some y → c' b = some y) → k (f x) c' → step (g x) c' k) (q : Q (.lst (xs.filterMap f)) c) : CompP false step A (xs.map g) G c Q :=
  comp_mapG f hA hl (fun _ => FreeG.all _) hs (by rw [if_neg (by decide)]; exact q)
theorem comp_mapR {G : CMap → Prop} [FreeG G] {α : Type} {xs : List α} {g : α → D} {step : D → CMap → (Option D → CMap → Prop) → Prop} {A : Addr} {c : CMap} {Q : DK} (f : α → Option D) (hA : c A = none) (hl : xs.length < 16777216)
    (hs : ∀ (x : α) (c' : CMap) (k : Option D → CMap → Prop), x ∈ xs → (∀ b y, c b = some y → c' b = some y) → k (f x) c' → step (g x) c' k) (q : Q (.ref A) (updc c A (.lst (xs.filterMap f)))) : CompP true step A (xs.map g) G c Q :=
  comp_mapG f hA hl (fun _ => FreeG.all _) hs (by rw [if_pos rfl]; exact q)
theorem fm_some {α β : Type} (f : α → β) (xs : List α) : xs.filterMap (fun x => some (f x)) = xs.map f := by rw [List.filterMap_eq_map']
theorem fm_if {α β : Type} (p : α → Prop) [DecidablePred p] (f : α → β) : ∀ xs : List α, xs.filterMap (fun x => if p x then some (f x) else none) = (xs.filter fun x => decide (p x)).map f
  | [] => rfl
  | x :: r => by
    rw [List.filterMap_cons, List.filter_cons, fm_if p f r]
    by_cases h : p x <;> simp [h]
theorem eq_bb {c : CMap} {Q : DK} {n a b : Bool} (q : Q (.bl (n ^^ decide (a = b))) c) : eqR n c (.bl a) (.bl b) Q := q
theorem res_or {c : CMap} {d : D} {ds : List D} (h : res c d = .lst ds) : d = .lst ds ∨ ∃ p, d = .ref p ∧ c p = some (.lst ds) := by
  cases d with
  | ref p =>
    right
    rcases resAt_cases (c p) p with ⟨es, e1, e2⟩ | e2
    · have q : D.lst es = .lst ds := e2.symm.trans h
      injection q with q
      subst q
      exact ⟨p, rfl, e1⟩
    · have q : D.ref p = .lst ds := e2.symm.trans h
      cases q
  | _ => exact .inl h
theorem res_tyN {c : CMap} {d : D} {ds : List D} (h : res c d = .lst ds) : tyN c d = some "list" := by
  rcases res_or h with rfl | ⟨p, rfl, e⟩
  · rfl
  · show cellTy (c p) = _; rw [e]; rfl
theorem len_res {c : CMap} {Q : DK} {d : D} {ds : List D} (h : res c d = .lst ds) (q : Q (.int ds.length) c) : lenR c [d] Q := by unfold lenR; dsimp only; rw [h]; exact q
theorem res_lsG {c : CMap} {d : D} {ds : List D} (h : res c d = .lst ds) : ∃ G, LsG c d ds G ∧ ∀ A k, c A = none → G (updc c A k) := by
  rcases res_or h with rfl | ⟨p, rfl, e⟩
  · exact ⟨_, .inl ⟨rfl, rfl⟩, fun _ _ _ => trivial⟩
  · exact ⟨_, .inr ⟨p, rfl, e, rfl⟩, fun A k hA => by show updc c A k p = _; rw [updc_ne (ne_some_none e hA)]; exact e⟩
/-! what a value is, its lists resolved -/
def Rsv (c : CMap) : Nat → D → D → Prop
  | 0, _, _ => False
  | n + 1, d, .lst es => ∃ ds, res c d = .lst ds ∧ ds.length < 16777216 ∧ Paired (Rsv c n) ds es
  | n + 1, d, .tup es => ∃ ds, d = .tup ds ∧ ds.length < 16777216 ∧ Paired (Rsv c n) ds es
  | _ + 1, d, .int i => d = .int i
  | _ + 1, d, .str x => d = .str x ∧ PyData.strOk x = true
  | _ + 1, _, _ => False
theorem pair_map {α : Type} {R : D → D → Prop} {f g : α → D} : ∀ {xs : List α}, (∀ x ∈ xs, R (f x) (g x)) → Paired R (xs.map f) (xs.map g)
  | [], _ => .nil
  | x :: r, h => .cons (h x (by simp)) (pair_map fun y hy => h y (by simp [hy]))
theorem pair_app {R : D → D → Prop} {a b a' b' : List D} (h : Paired R a b) (h' : Paired R a' b') : Paired R (a ++ a') (b ++ b') := by
  induction h with
  | nil => exact h'
  | cons q t ih => exact .cons q ih
theorem pair_zip {R : D → D → Prop} {a b : List D} (h : Paired R a b) : ∀ p ∈ a.zip b, R p.1 p.2 := by
  induction h with
  | nil => intro p hp; cases hp
  | cons q t ih =>
    intro p hp
    rw [List.zip_cons_cons] at hp
    rcases List.mem_cons.mp hp with rfl | hp
    · exact q
    · exact ih p hp
theorem zip_res {c : CMap} {d : D} {xs ys : List D} {N : List D → (CMap → Prop) → CMap → Prop} (h : res c d = .lst xs) (q : ∀ G : CMap → Prop, (∀ A k, c A = none → G (updc c A k)) → N ((xs.zip ys).map fun p => D.tup [p.1, p.2]) G c) : zipR [d, .lst ys] c N := by
  obtain ⟨G, g1, g2⟩ := res_lsG h
  exact .inl ⟨xs, ys, _, _, g1, .inl ⟨rfl, rfl⟩, q _ fun A k hA => ⟨g2 A k hA, trivial⟩⟩
theorem bls_true {α : Type} (xs : List α) : ∃ bs, blsD (xs.filterMap fun _ => some (D.bl true)) = some bs ∧ bs.all id = true := by
  refine ⟨xs.map fun _ => true, ?_, by simp⟩
  rw [fm_some]
  have : (xs.map fun _ => D.bl true) = (xs.map fun _ => true).map D.bl := by rw [List.map_map]; rfl
  rw [this, blsD_map]
theorem pair_imp {R S : D → D → Prop} {a b : List D} (h : Paired R a b) (k : ∀ x y, R x y → S x y) : Paired S a b := by
  induction h with
  | nil => exact .nil
  | cons q t ih => exact .cons (k _ _ q) ih
theorem res_sub {c c' : CMap} {d : D} {ds : List D} (s : ∀ b y, c b = some y → c' b = some y) (h : res c d = .lst ds) : res c' d = .lst ds := by
  rcases res_or h with rfl | ⟨p, rfl, e⟩
  · rfl
  · exact res_c (s _ _ e)
theorem rsv_sub {c c' : CMap} (s : ∀ b y, c b = some y → c' b = some y) : ∀ (n : Nat) (d e : D), Rsv c n d e → Rsv c' n d e
  | 0, _, _, h => h
  | n + 1, d, .lst es, ⟨ds, h1, h2, h3⟩ => ⟨ds, res_sub s h1, h2, pair_imp h3 (rsv_sub s n)⟩
  | n + 1, d, .tup es, ⟨ds, h1, h2, h3⟩ => ⟨ds, h1, h2, pair_imp h3 (rsv_sub s n)⟩
  | _ + 1, d, .int i, h => h
  | _ + 1, d, .str x, h => h
  | _ + 1, _, .non, h => h
  | _ + 1, _, .bl _, h => h
  | _ + 1, _, .kt _, h => h
  | _ + 1, _, .scr _, h => h
  | _ + 1, _, .ref _, h => h
  | _ + 1, _, .ty _, h => h
/-! drawn words -/
/-- a text of drawn letters -/
theorem ok_letters {c : CMap} {Q : DK} {A p : Addr} {k : Cell} {n : Int} (hn : n ≤ 16) (hA : c A = none) (hp : c p = some k) (hk : SprOk k) {step : D → CMap → (Option D → CMap → Prop) → Prop}
    (hs : ∀ (d : D) (c' : CMap) (K : Option D → CMap → Prop) (k1 : Cell), c' p = some k1 → SprOk k1 → (∀ x k', SOk 1 x → SprOk k' → K (some (.str x)) (updc c' p k')) → step d c' K)
    (q : ∀ (xs : List Str) k', xs.length = n.toNat → (∀ x ∈ xs, SOk 1 x) → SprOk k' → Q (.lst (xs.map D.str)) (updc c p k')) : CompP false step A ((upto 0 n.toNat).map D.int) noG c Q := by
  refine comp_kind1 SprOk isLetter hA (by rw [List.length_map, upto_len]; omega) hp hk ?_ ?_
  · intro d c' K k1 _ h1 h2 _ hK
    exact hs d c' K k1 h1 h2 fun x k' hx hk' => hK _ k' ⟨x, rfl, hx⟩ hk'
  · intro out k' ho hT hk'
    rw [List.length_map, upto_len] at ho
    obtain ⟨xs, rfl, hxs⟩ := all_map hT
    rw [List.length_map] at ho
    exact q xs k' ho hxs hk'
theorem join_sok {c : CMap} {Q : DK} {xs : List Str} (h : ∀ x ∈ xs, SOk 1 x) (l : xs.length ≤ 16) (q : ∀ x, SOk 16 x → SOk xs.length x → Q (.str x) c) : joinR c (.str "") [.lst (xs.map D.str)] Q := by
  have h1 := join0_sum h
  have h2 := SOk.join0 h
  refine join_i rfl ?_ (q _ (h2.mono l) h2)
  have : (Str.ofString "").length = 0 := by decide +kernel
  rw [this]; omega
def sp_law_one_name : DSpec := fun ds c E Q => ∃ (p : Addr) (k : Cell) (way at_ sh kk : Int) (b : Str), ds = [.ref p, .int way, .tup [.str b, .int at_, .int sh], .int kk] ∧ c p = some k ∧ SprOk k ∧ SOk 16 b ∧ ∀ x k', SOk 33 x → SprOk k' → Q (.str x) (updc c p k')
theorem ok_law_one_name {ds c E Q} (h : sp_law_one_name ds c E Q) : b_law_one_name sp_law_draw (endD E Q) (startE 8 ds) c := by
  obtain ⟨p, k, way, at_, sh, kk, b, rfl, hp, hk, hb, q⟩ := h
  have last : ∀ (DD : DEnds) (env : DEnv), DD.rt = (endD E Q).rt → (wSeq (wAsg 6 (wOp idxR (wLst false (wCons (wC (.int 1)) (wCons (wC (.int 1)) (wCons (wC (.int 2)) (wCons (wC (.int 8)) (wCons (wC (.int 4)) (wCons (wC (.int 3)) wNil))))))) (wCall sp_law_draw (wCons (wVar 0) (wCons (wC (.int 6)) wNil)))))
      (wRet (wMt "str" joinR (wC (.str "")) (wCons (wComp false (wRg1 (wCons (wVar 6) wNil)) (gNm 7) wYes (wOp idxR (wVar 4) (wCall sp_law_draw (wCons (wVar 0) (wCons (wC (.int 26)) wNil)))) [7]) wNil)))) DD [some (.ref p), some (.int way), some (.tup [.str b, .int at_, .int sh]), some (.int kk), some (.str "abcdefghijklmnopqrstuvwxyz"), some (.int at_), none, none] c := by
    intro DD env hD
    walk_at "go"
    refine ⟨p, 6, k, rfl, hp, hk, by decide, by decide, fun v k1 v0 v1 hk1 => ?_⟩
    refine ix_menu [1, 1, 2, 8, 4, 3] 1 8 (by decide) v0 v1 fun n n0 n1 => ?_
    walk_at "go"
    refine ⟨ty_s, ?_⟩
    walk_at "go"
    intro A hA
    refine ok_letters (by omega) hA updc_same hk1 ?_ ?_
    · intro d c' K k2 h1 h2 hK
      walk_at "go"
      refine ⟨p, 26, k2, rfl, h1, h2, by decide, by decide, fun v k3 v0 v1 hk3 => ?_⟩
      refine ix_abc v0 v1 fun x hx => ?_
      walk_at "go"
      exact hK x k3 hx hk3
    · intro xs k' hl hxs hk'
      walk_at "go"
      refine join_sok hxs (by omega) fun x hx _ => ?_
      rw [hD]
      exact ⟨_, SubC.rfl', by rw [updc_updc]; exact q x k' (hx.mono (by decide)) hk'⟩
  unfold b_law_one_name
  walk_at "go"
  refine ite_fd (fun h => ?_) (fun h => ?_)
  · walk_at "go"
    refine ⟨hb.line (by decide), ?_⟩
    walk_at "go"
    refine ix_abc (Int.emod_nonneg _ (by decide)) (Int.emod_lt_of_pos _ (by decide)) fun x hx => ?_
    refine add_sok (hb.cut none (some at_)) hx (by decide) fun hy => ?_
    walk_at "go"
    refine ⟨hb.line (by decide), ?_⟩
    refine add_sok hy (hb.cut (some at_) (some 7)) (by decide) fun hz => ?_
    exact ⟨_, SubC.rfl', by have := q _ k hz hk; rwa [updc_self hp] at this⟩
  · walk_at "go"
    refine ite_fd (fun h => ?_) (fun h => ?_)
    · walk_at "go"
      refine ite_d (fun h => ?_) (fun h => ?_)
      · walk_at "go"
        refine ⟨hb.line (by decide), ?_⟩
        exact ⟨_, SubC.rfl', by have := q _ k ((hb.cut none (some (kk + 1))).mono (by decide)) hk; rwa [updc_self hp] at this⟩
      · exact last _ [] rfl
    · exact last _ [] rfl
def sp_law_words : DSpec := fun ds c E Q => ∃ (p : Addr) (k : Cell) (n : Int), ds = [.ref p, .int n] ∧ c p = some k ∧ SprOk k ∧ 0 ≤ n ∧ n < 26 ∧ ∀ (ss : List Str) k', (ss.length : Int) = n → (∀ s ∈ ss, SOk 33 s) → SprOk k' → Q (.lst (ss.map D.str)) (updc c p k')
theorem v_ok : SOk 1 "v" := ⟨by decide +kernel, by decide +kernel⟩
theorem ok_law_words {ds c E Q} (h : sp_law_words ds c E Q) : b_law_words sp_law_draw sp_law_one_name (endD E Q) (startE 12 ds) c := by
  obtain ⟨p, k, n, rfl, hp, hk, n0, n1, q⟩ := h
  unfold b_law_words
  walk_at "go"
  refine ⟨p, 3, k, rfl, hp, hk, by decide, by decide, fun way k1 v0 v1 hk1 => ?_⟩
  walk_at "go"
  refine ⟨ty_s, ?_⟩
  walk_at "go"
  refine ⟨p, 7, k1, rfl, updc_same, hk1, by decide, by decide, fun m k2 m0 m1 hk2 => ?_⟩
  rw [updc_updc]
  walk_at "go"
  intro A hA
  refine ok_letters (n := 1 + m) (by omega) hA updc_same hk2 ?_ ?_
  · intro d c' K k3 h1 h2 hK
    walk_at "go"
    refine ⟨p, 26, k3, rfl, h1, h2, by decide, by decide, fun v k4 v0 v1 hk4 => ?_⟩
    refine ix_abc v0 v1 fun x hx => ?_
    walk_at "go"
    exact hK x k4 hx hk4
  · intro bs k3 hbl hbs hk3
    rw [updc_updc]
    walk_at "go"
    refine join_sok hbs (by omega) fun b hb hb2 => ?_
    walk_at "go"
    refine len_s (hb.line (by decide)) ?_
    walk_at "go"
    have hb1 := hb2.1
    refine ⟨p, (b.length : Int) + 1, k3, rfl, updc_same, hk3, by omega, by omega, fun at_ k4 a0 a1 hk4 => ?_⟩
    rw [updc_updc]
    walk_at "go"
    refine ⟨p, 26, k4, rfl, updc_same, hk4, by decide, by decide, fun sh k5 s0 s1 hk5 => ?_⟩
    rw [updc_updc]
    walk_at "go"
    refine newL_t fun fo hfo => ?_
    have hpf : p ≠ fo := ne_some_none (c := updc c p k5) updc_same hfo
    walk_at "go"
    refine for_inv (fun i env c' => ∃ (v9 v10 v11 : Option D) (v6 : Option D) (ss : List Str) (k' : Cell), env = [some (.ref p), some (.int n), some (.str "abcdefghijklmnopqrstuvwxyz"), some (.lst (["let", "say", "if", "else", "end", "while", "add", "drop", "count", "each", "to", "do", "stop", "who"].map fun s => D.str (Str.ofString s))), some (.int way), some (.str b), v6, some (.tup [.str b, .int at_, .int sh]), some (.ref fo), v9, v10, v11] ∧
        c' = updc (updc c p k') fo (.lst (ss.map D.str)) ∧ SprOk k' ∧ ss.length = i ∧ ∀ s ∈ ss, SOk 33 s) ⟨none, none, none, none, [], k5, rfl, rfl, hk5, rfl, (fun _ h => by cases h)⟩ ?_ ?_
    · rintro i d env c' e ⟨v9, v10, v11, v6, ss, k', rfl, rfl, hk', hi, hs⟩
      obtain ⟨x, hx, rfl⟩ := mem_map_at e
      obtain ⟨hx1, rfl⟩ := upto_at hx
      walk_at "go"
      refine ⟨p, k', way, at_, sh, 0 + (i : Int), b, rfl, by walk_at "cl", hk', hb, fun x k6 hx hk6 => ?_⟩
      rw [updc_comm (Ne.symm hpf), updc_updc]
      walk_at "go"
      refine for_inv (fun j env c' => ∃ (v11 : Option D) (x : Str), env = [some (.ref p), some (.int n), some (.str "abcdefghijklmnopqrstuvwxyz"), some (.lst (["let", "say", "if", "else", "end", "while", "add", "drop", "count", "each", "to", "do", "stop", "who"].map fun s => D.str (Str.ofString s))), some (.int way), some (.str b), v6, some (.tup [.str b, .int at_, .int sh]), some (.ref fo), some (.int (0 + (i : Int))), some (.str x), v11] ∧
          c' = updc (updc c p k6) fo (.lst (ss.map D.str)) ∧ SOk 33 x) ⟨_, x, rfl, rfl, hx⟩ ?_ ?_
      · rintro j d env c' e ⟨v11, x, rfl, rfl, hx⟩
        obtain ⟨y, hy, rfl⟩ := mem_map_at e
        obtain ⟨hy1, rfl⟩ := upto_at hy
        walk_at "go"
        have fin : ∀ (DD : DEnds), (∀ (env : DEnv) (c' : CMap) (v11 : Option D) (x : Str), env = [some (.ref p), some (.int n), some (.str "abcdefghijklmnopqrstuvwxyz"), some (.lst (["let", "say", "if", "else", "end", "while", "add", "drop", "count", "each", "to", "do", "stop", "who"].map fun s => D.str (Str.ofString s))), some (.int way), some (.str b), v6, some (.tup [.str b, .int at_, .int sh]), some (.ref fo), some (.int (0 + (i : Int))), some (.str x), v11] → c' = updc (updc c p k6) fo (.lst (ss.map D.str)) → SOk 33 x → DD.nx env c') →
            wAsg 10 (wOp (addR false) (wOp (addR false) (wC (.str "v")) (wOp idxR (wVar 2) (wVar 9))) (wOp idxR (wVar 2) (wVar 11))) DD [some (.ref p), some (.int n), some (.str "abcdefghijklmnopqrstuvwxyz"), some (.lst (["let", "say", "if", "else", "end", "while", "add", "drop", "count", "each", "to", "do", "stop", "who"].map fun s => D.str (Str.ofString s))), some (.int way), some (.str b), v6, some (.tup [.str b, .int at_, .int sh]), some (.ref fo), some (.int (0 + (i : Int))), some (.str x), some (.int (0 + (j : Int)))] (updc (updc c p k6) fo (.lst (ss.map D.str))) := by
          intro DD hZ
          walk_at "go"
          refine ix_abc (by omega) (by omega) fun y hy => ?_
          refine add_sok v_ok hy (by decide) fun hy => ?_
          walk_at "go"
          refine ix_abc (by omega) (by omega) fun z hz => ?_
          refine add_sok hy hz (by decide) fun hz => ?_
          walk_at "go"
          exact hZ _ _ _ _ rfl rfl (hz.mono (by decide))
        refine in_l (res_c (by walk_at "cl")) rfl (strs_flat _) ?_
        walk_at "go"
        refine ite_fd (fun h => ?_) (fun h => ?_)
        · refine ite_bt ?_
          exact fin _ fun env c' v11 x h1 h2 h3 => ⟨v11, x, h1, h2, h3⟩
        · walk_at "go"
          refine in_l rfl rfl (by rfl) ?_
          walk_at "go"
          refine ite_fd (fun h => ?_) (fun h => ?_)
          · exact fin _ fun env c' v11 x h1 h2 h3 => ⟨v11, x, h1, h2, h3⟩
          · walk_at "go"
            exact ⟨_, _, rfl, rfl, hx⟩
      · rintro env c' ⟨v11, x, rfl, rfl, hx⟩
        walk_at "go"
        refine ⟨ty_c (by walk_at "cl"), ?_⟩
        walk_at "go"
        refine app_c (by walk_at "cl") (len_lt (by rw [List.length_map]; omega)) ?_
        refine ⟨_, _, _, _, ss ++ [x], k6, rfl, ?_, hk6, by simp [hi], ?_⟩
        · rw [updc_updc, List.map_append]; rfl
        · intro y hy
          rcases List.mem_append.mp hy with h | h
          · exact hs y h
          · simp only [List.mem_singleton] at h; subst h; exact hx
    · rintro env c' ⟨v9, v10, v11, v6, ss, k', rfl, rfl, hk', hi, hs⟩
      walk_at "go"
      have h0 : (updc c p k') fo = none := by rw [updc_ne (Ne.symm hpf)]; rwa [updc_ne (Ne.symm hpf)] at hfo
      rw [delc_updc h0]
      rw [List.length_map, upto_len] at hi
      exact ⟨_, SubC.rfl', q ss k' (by omega) hs hk'⟩
def sp_law_size : DSpec := fun ds c E Q => ∃ (p : Addr) (k : Cell) (n : Int), ds = [.ref p, .int n] ∧ c p = some k ∧ SprOk k ∧ 0 < n ∧ n < 16 ∧ ∀ (m : Int) k', 1 ≤ m → m ≤ 16 → SprOk k' → Q (.int m) (updc c p k')
theorem ok_law_size {ds c E Q} (h : sp_law_size ds c E Q) : b_law_size sp_law_draw (endD E Q) (startE 2 ds) c := by
  obtain ⟨p, k, n, rfl, hp, hk, n0, n1, q⟩ := h
  unfold b_law_size
  walk_at "go"
  refine ⟨p, n, k, rfl, hp, hk, n0, by omega, fun a k1 a0 a1 hk1 => ?_⟩
  walk_at "go"
  refine ⟨p, 11, k1, rfl, updc_same, hk1, by decide, by decide, fun b k2 b0 b1 hk2 => ?_⟩
  rw [updc_updc]
  walk_at "go"
  refine ⟨p, 4, k2, rfl, updc_same, hk2, by decide, by decide, fun v k3 v0 v1 hk3 => ?_⟩
  rw [updc_updc]
  walk_at "go"
  refine ix_menu [1 + a, 6 + b] 1 16 (fun x hx => ?_) (by omega) (by simp; omega) fun x x0 x1 => ?_
  · simp only [List.mem_cons, List.not_mem_nil, or_false] at hx
    rcases hx with rfl | rfl <;> omega
  · exact ⟨_, SubC.rfl', q x k3 x0 x1 hk3⟩
def sp_law_marks : DSpec := fun ds c E Q => ∃ (p : Addr) (k : Cell) (n : Int), ds = [.ref p, .int n] ∧ c p = some k ∧ SprOk k ∧ 0 ≤ n ∧ n ≤ 6 ∧ ∀ (ms : List Int) k', (∀ m ∈ ms, 0 ≤ m ∧ m < 6) → ms.Pairwise (· < ·) → ms.length ≤ 6 → SprOk k' → Q (.lst (ms.map D.int)) (updc c p k')
theorem ok_law_marks {ds c E Q} (h : sp_law_marks ds c E Q) : b_law_marks sp_law_draw (endD E Q) (startE 5 ds) c := by
  obtain ⟨p, k, n, rfl, hp, hk, n0, n1, q⟩ := h
  unfold b_law_marks
  walk_at "go"
  refine newL_t fun fo hfo => ?_
  have hpf : p ≠ fo := ne_some_none hp hfo
  walk_at "go"
  refine ⟨p, n + 1, k, rfl, by walk_at "cl", hk, by omega, by omega, fun m k1 m0 m1 hk1 => ?_⟩
  rw [updc_comm (Ne.symm hpf)]
  walk_at "go"
  refine for_inv (fun i env c' => ∃ (v4 : Option D) (ms : List Int) (k' : Cell), env = [some (.ref p), some (.int n), some (.ref fo), some (.int m), v4] ∧ c' = updc (updc c p k') fo (.lst (ms.map D.int)) ∧ SprOk k' ∧ (∀ m ∈ ms, 0 ≤ m ∧ m < 6 ∧ m < i) ∧ ms.Pairwise (· < ·) ∧ ms.length ≤ i) ⟨none, [], k1, rfl, rfl, hk1, (fun _ h => by cases h), .nil, Nat.le_refl _⟩ ?_ ?_
  · rintro i d env c' e ⟨v4, ms, k', rfl, rfl, hk', h1, h2, h3⟩
    obtain ⟨x, hx, rfl⟩ := mem_map_at e
    obtain ⟨hx1, rfl⟩ := upto_at hx
    have hx1 : i < 6 := hx1
    walk_at "go"
    refine ⟨p, 6 - (0 + (i : Int)), k', rfl, by walk_at "cl", hk', by omega, by omega, fun v k2 v0 v1 hk2 => ?_⟩
    rw [updc_comm (Ne.symm hpf), updc_updc]
    walk_at "go"
    refine ite_d (fun h => ?_) (fun h => ?_)
    · walk_at "go"
      refine ⟨ty_c (by walk_at "cl"), ?_⟩
      walk_at "go"
      refine app_c (by walk_at "cl") (len_lt (by rw [List.length_map]; omega)) ?_
      refine ⟨_, ms ++ [0 + (i : Int)], k2, rfl, ?_, hk2, ?_, ?_, ?_⟩
      · rw [updc_updc, List.map_append]; rfl
      · intro y hy
        rcases List.mem_append.mp hy with h | h
        · have := h1 y h; omega
        · simp only [List.mem_singleton] at h; omega
      · refine List.pairwise_append.mpr ⟨h2, by simp, fun a ha b hb => ?_⟩
        simp only [List.mem_singleton] at hb
        have := h1 a ha; omega
      · simp; omega
    · walk_at "go"
      exact ⟨_, ms, k2, rfl, rfl, hk2, fun y hy => by have := h1 y hy; omega, h2, by omega⟩
  · rintro env c' ⟨v4, ms, k', rfl, rfl, hk', h1, h2, h3⟩
    walk_at "go"
    have h0 : (updc c p k') fo = none := by rw [updc_ne (Ne.symm hpf)]; exact hfo
    rw [delc_updc h0]
    exact ⟨_, SubC.rfl', q ms k' (fun y hy => ⟨(h1 y hy).1, (h1 y hy).2.1⟩) h2 (by simpa [upto_len] using h3) hk'⟩
/-! alike, all the way down -/
def sp_law_same (n : Nat) : DSpec := fun ds c E Q => ∃ d e, ds = [d, e] ∧ Rsv c n d e ∧ Q (.bl true) c
theorem void_law_same : ∀ ds c E Q, ¬ sp_law_same 0 ds c E Q := by rintro ds c E Q ⟨d, e, _, h, _⟩; exact h
theorem ok_law_same {n : Nat} {ds c E Q} (h : sp_law_same (n + 1) ds c E Q) : b_law_same (sp_law_same n) (endD E Q) (startE 4 ds) c := by
  obtain ⟨d, e, rfl, h, q⟩ := h
  unfold b_law_same
  cases e with
  | int i =>
    obtain rfl : d = .int i := h
    walk_at "go"
    refine eq_bb ?_
    show asB (.bl (false ^^ decide (false = false))) c _
    walk_at "go"
    refine ite_fd (fun _ => ?_) (fun h => absurd rfl h)
    walk_at "go"
    exact ⟨_, SubC.rfl', by rw [decide_eq_true (rfl : i = i)]; exact q⟩
  | str x =>
    obtain ⟨rfl, ok⟩ : d = .str x ∧ PyData.strOk x = true := h
    walk_at "go"
    refine eq_bb ?_
    walk_at "go"
    refine ite_fd (fun _ => ?_) (fun h => absurd rfl h)
    walk_at "go"
    have hx : DL.eqOk (.str x) := ⟨ok, by simp [DL.dep]⟩
    refine eq_dd (d' := .str x) (e' := .str x) rfl rfl hx hx ?_
    exact ⟨_, SubC.rfl', by rw [decide_eq_true (rfl : D.str x = D.str x)]; exact q⟩
  | tup es =>
    obtain ⟨ds, rfl, hl, hp⟩ : ∃ ds, d = .tup ds ∧ ds.length < 16777216 ∧ Paired (Rsv c n) ds es := h
    walk_at "go"
    refine eq_bb ?_
    walk_at "go"
    refine ite_td (fun h => absurd rfl h) (fun _ => ?_)
    walk_at "go"
    refine eq_bb ?_
    walk_at "go"
    refine ite_td (fun h => absurd rfl h) (fun _ => ?_)
    walk_at "go"
    refine ite_fd (fun _ => ?_) (fun h => absurd (by rw [Paired.length hp]) h)
    walk_at "go"
    intro A hA
    refine comp_mapL (fun _ => some (.bl true)) hA (by rw [List.length_zip]; omega) ?_ ?_
    · intro x c' k hx hc hk
      walk_at "go"
      refine ⟨_, _, rfl, ?_, hk⟩
      exact rsv_sub hc n _ _ (pair_zip hp x hx)
    · walk_at "go"
      obtain ⟨bs, h1, h2⟩ := bls_true (ds.zip es)
      refine all_l h1 ?_
      rw [h2]
      exact ⟨_, SubC.rfl', q⟩
  | lst es =>
    obtain ⟨ds, hr, hl, hp⟩ : ∃ ds, res c d = .lst ds ∧ ds.length < 16777216 ∧ Paired (Rsv c n) ds es := h
    have ht := res_tyN hr
    walk_at "go"
    refine isi_i (b := true) ht rfl ?_
    walk_at "go"
    refine eq_bb ?_
    walk_at "go"
    refine ite_td (fun h => absurd rfl h) (fun _ => ?_)
    walk_at "go"
    refine isi_i (b := false) ht rfl ?_
    walk_at "go"
    refine eq_bb ?_
    walk_at "go"
    refine ite_td (fun h => absurd rfl h) (fun _ => ?_)
    walk_at "go"
    refine len_res hr ?_
    walk_at "go"
    refine ite_fd (fun _ => ?_) (fun h => absurd (by rw [Paired.length hp]) h)
    walk_at "go"
    refine zip_res hr fun G hG => ?_
    walk_at "go"
    intro A hA
    refine comp_mapG (fun _ => some (.bl true)) hA (by rw [List.length_zip]; omega) (fun k => hG A k hA) ?_ ?_
    · intro x c' k hx hc hk
      walk_at "go"
      refine ⟨_, _, rfl, ?_, hk⟩
      exact rsv_sub hc n _ _ (pair_zip hp x hx)
    · rw [if_neg (by decide)]
      walk_at "go"
      obtain ⟨bs, h1, h2⟩ := bls_true (ds.zip es)
      refine all_l h1 ?_
      rw [h2]
      exact ⟨_, SubC.rfl', q⟩
  | _ => exact h.elim
/-! states: boxes and tables -/
def Wo.all (P : Int → Prop) : Wo → Prop
  | .num n => P n
  | .face _ s u => s.all P ∧ u.all P
theorem Wo.all_seen {P : Int → Prop} : ∀ {w : Wo} (v : List Int), w.all P → P (w.seen v)
  | .num n, _, h => h
  | .face m s u, v, h => by
    simp only [Wo.seen]
    split
    · exact Wo.all_seen v h.1
    · exact Wo.all_seen v h.2
theorem built_all {P : Int → Prop} : ∀ (ms ns : List Int), ns.length = 2 ^ ms.length → (∀ x ∈ ns, P x) → (builtW ms ns).all P
  | [], ns, hn, h => by
    match ns, hn with
    | [y], _ => exact h y (by simp)
  | m :: ms, ns, hn, h => by
    rw [List.length_cons, Nat.pow_succ] at hn
    have h1 := built_all (P := P) ms (ns.take (ns.length / 2)) (by rw [List.length_take]; omega) fun x hx => h x (List.mem_of_mem_take hx)
    have h2 := built_all (P := P) ms (ns.drop (ns.length / 2)) (by rw [List.length_drop]; omega) fun x hx => h x (List.mem_of_mem_drop hx)
    unfold builtW
    split
    · exact h1
    · exact ⟨h1, h2⟩
theorem pow6 {n : Nat} (h : n ≤ 6) : 2 ^ n ≤ 64 := Nat.pow_le_pow_right (n := 2) (by decide) h
def isNum (lo hi : Int) (d : D) : Prop := ∃ x, d = .int x ∧ (lo ≤ x ∧ x < hi)
def sp_law_worth : DSpec := fun ds c E Q => ∃ (p : Addr) (k : Cell) (ms : List Int), ds = [.ref p, .lst (ms.map D.int)] ∧ c p = some k ∧ SprOk k ∧ ms.length ≤ 6 ∧ ∀ (w : Wo) k', w.deep ≤ 6 → w.all (fun x => 0 ≤ x ∧ x < 1000) → SprOk k' → Q w.d (updc c p k')
theorem ok_law_worth {ds c E Q} (h : sp_law_worth ds c E Q) : b_law_worth sp_law_draw (sp_law_views 7) (sp_law_built 7) (endD E Q) (startE 5 ds) c := by
  obtain ⟨p, k, ms, rfl, hp, hk, hm, q⟩ := h
  unfold b_law_worth
  walk_at "go"
  refine ⟨p, 6, k, rfl, hp, hk, by decide, by decide, fun v k1 v0 v1 hk1 => ?_⟩
  refine ix_menu [1, 2, 3, 5, 1000, 3] 1 1000 (by decide) v0 v1 fun few f0 f1 => ?_
  walk_at "go"
  refine ⟨p, 3, k1, rfl, updc_same, hk1, by decide, by decide, fun v k2 v0 v1 hk2 => ?_⟩
  rw [updc_updc]
  refine ix_menu [1, 2, 1000] 1 1000 (by decide) v0 v1 fun m m0 m1 => ?_
  walk_at "go"
  refine ⟨p, m, k2, rfl, updc_same, hk2, by omega, by omega, fun base k3 b0 b1 hk3 => ?_⟩
  rw [updc_updc]
  walk_at "go"
  refine ⟨ms, rfl, by omega, hm, ?_⟩
  walk_at "go"
  intro A hA
  have hvl := views_len ms
  have hp6 := pow6 hm
  refine comp_kind1 SprOk (isNum 0 1000) hA (by rw [List.length_map, hvl]; omega) updc_same hk3 ?_ ?_
  · intro d c' K k4 hd h1 h2 _ hK
    walk_at "go"
    refine ⟨p, few, k4, rfl, h1, h2, by omega, by omega, fun v k5 v0 v1 hk5 => ?_⟩
    walk_at "go"
    exact hK _ k5 ⟨_, rfl, Int.emod_nonneg _ (by decide), Int.emod_lt_of_pos _ (by decide)⟩ hk5
  · intro out k' ho hT hk'
    rw [updc_updc]
    obtain ⟨ns, rfl, hns⟩ := all_map hT
    simp only [List.length_map, hvl] at ho
    walk_at "go"
    refine ⟨ms, ns, rfl, by omega, hm, ho, ?_⟩
    have hd := builtW_deep ms ns
    exact ⟨_, SubC.rfl', q _ k' (by omega) (built_all ms ns ho hns) hk'⟩
def sp_law_there : DSpec := fun ds c E Q => ∃ (p : Addr) (k : Cell) (ms : List Int), ds = [.ref p, .lst (ms.map D.int)] ∧ c p = some k ∧ SprOk k ∧ ms.length ≤ 6 ∧ ∀ (w : Wo) k', w.deep ≤ 6 → w.all (fun x => 0 ≤ x ∧ x < 2) → SprOk k' → Q w.d (updc c p k')
theorem ok_law_there {ds c E Q} (h : sp_law_there ds c E Q) : b_law_there (sp_law_views 7) sp_law_draw (sp_law_built 7) (endD E Q) (startE 5 ds) c := by
  obtain ⟨p, k, ms, rfl, hp, hk, hm, q⟩ := h
  unfold b_law_there
  walk_at "go"
  refine ⟨ms, rfl, by omega, hm, ?_⟩
  walk_at "go"
  intro A hA
  have hvl := views_len ms
  have hp6 := pow6 hm
  refine comp_kind1 SprOk (isNum 0 2) hA (by rw [List.length_map, hvl]; omega) hp hk ?_ ?_
  · intro d c' K k4 hd h1 h2 _ hK
    walk_at "go"
    refine ⟨p, 3, k4, rfl, h1, h2, by omega, by omega, fun v k5 v0 v1 hk5 => ?_⟩
    walk_at "go"
    refine hK _ k5 ⟨_, rfl, ?_⟩ hk5
    cases decide (0 < v) <;> simp
  · intro out k' ho hT hk'
    obtain ⟨ns, rfl, hns⟩ := all_map hT
    simp only [List.length_map, hvl] at ho
    walk_at "go"
    refine in_l rfl rfl (ints_flat ns) ?_
    walk_at "go"
    refine ite_td (fun _ => ?_) (fun _ => ?_)
    · walk_at "go"
      intro B hB
      refine comp_mapL (fun _ => some (.int 1)) hB (by omega) ?_ ?_
      · intro x c' k hx hc hk
        walk_at "go"
        exact hk
      · rw [fm_some]
        have e : (ns.map fun _ => D.int 1) = (ns.map fun _ => (1 : Int)).map D.int := by rw [List.map_map]; rfl
        rw [e]
        walk_at "go"
        refine ⟨ms, _, rfl, by omega, hm, by rw [List.length_map]; exact ho, ?_⟩
        have hd := builtW_deep ms (ns.map fun _ => (1 : Int))
        exact ⟨_, SubC.rfl', q _ k' (by omega) (built_all ms _ (by rw [List.length_map]; exact ho) fun x hx => by obtain ⟨_, _, rfl⟩ := List.mem_map.mp hx; omega) hk'⟩
    · walk_at "go"
      refine ⟨ms, ns, rfl, by omega, hm, ho, ?_⟩
      have hd := builtW_deep ms ns
      exact ⟨_, SubC.rfl', q _ k' (by omega) (built_all ms ns ho hns) hk'⟩
abbrev Row3 := Wo × Wo × Wo
def boxD (p : Str × Wo) : D := .tup [.str p.1, p.2.d]
def rowD (r : Row3) : D := .tup [r.1.d, r.2.1.d, r.2.2.d]
def sheetD (s : Str × List Row3) : D := .tup [.str s.1, .lst (s.2.map rowD)]
def BoxOk (p : Str × Wo) : Prop := SOk 33 p.1 ∧ p.2.deep ≤ 6
def RowOk (r : Row3) : Prop := r.1.deep ≤ 6 ∧ r.1.all (fun x => 0 ≤ x ∧ x < 2) ∧ r.2.1.deep ≤ 6 ∧ r.2.2.deep ≤ 6
def SheetOk (s : Str × List Row3) : Prop := SOk 33 s.1 ∧ s.2.length ≤ 40 ∧ ∀ r ∈ s.2, RowOk r
theorem rows_ok : ∀ {rs : List Row3}, (∀ r ∈ rs, RowOk r) → DL.eqOk (.lst (rs.map rowD)) := by
  intro rs h
  have h1 : ∀ rs : List Row3, okDs (rs.map rowD) = true := by
    intro rs
    induction rs with
    | nil => rfl
    | cons r t ih => simp only [List.map_cons, okDs, rowD, DL.okD, Wo.okD, ih, Bool.and_true]
  have h2 : ∀ rs : List Row3, (∀ r ∈ rs, RowOk r) → deps (rs.map rowD) ≤ 7 := by
    intro rs
    induction rs with
    | nil => intro _; exact Nat.zero_le _
    | cons r t ih =>
      intro h
      obtain ⟨a, _, b, c⟩ := h r (by simp)
      have := ih fun r hr => h r (by simp [hr])
      simp only [List.map_cons, deps, rowD, DL.dep, Wo.dep]
      omega
  refine ⟨h1 rs, ?_⟩
  have := h2 rs h
  simp only [DL.dep]
  omega
structure StateOk (hs : List (Str × Wo)) (ss : List (Str × List Row3)) : Prop where
  hl : hs.length ≤ 64
  hb : ∀ p ∈ hs, BoxOk p
  sl : ss.length ≤ 64
  sb : ∀ s ∈ ss, SheetOk s
def sp_law_state : DSpec := fun ds c E Q => ∃ (p : Addr) (k : Cell) (ws : List Str) (ms : List Int), ds = [.ref p, .lst (ws.map D.str), .lst (ms.map D.int)] ∧ c p = some k ∧ SprOk k ∧ ws.length < 64 ∧ (∀ w ∈ ws, SOk 33 w) ∧ ms.length ≤ 6 ∧
  ∀ hs ss k', StateOk hs ss → SprOk k' → Q (.tup [.lst (hs.map boxD), .lst (ss.map sheetD)]) (updc c p k')
theorem ok_law_state {ds c E Q} (h : sp_law_state ds c E Q) : b_law_state sp_law_worth sp_law_draw sp_law_there (endD E Q) (startE 10 ds) c := by
  obtain ⟨p, k, ws, ms, rfl, hp, hk, hwl, hws, hm, q⟩ := h
  unfold b_law_state
  walk_at "go"
  refine newL_t fun h hh => ?_
  have hph : p ≠ h := ne_some_none hp hh
  walk_at "go"
  refine newL_t fun s hs' => ?_
  obtain ⟨hsh, hs⟩ := updc_none hs'
  have hps : p ≠ s := ne_some_none hp hs
  walk_at "go"
  refine sort_s rfl (strsD_map ws) hwl fun ys hy1 hy2 => ?_
  walk_at "go"
  have hnh : ∀ k', updc c p k' h = none := fun k' => updc_ne' (Ne.symm hph) hh
  have hns : ∀ k', updc c p k' s = none := fun k' => updc_ne' (Ne.symm hps) hs
  refine for_inv (fun i env c' => ∃ (v5 v6 v7 v8 v9 : Option D) (hs : List (Str × Wo)) (ss : List (Str × List Row3)) (k' : Cell), env = [some (.ref p), some (.lst (ws.map D.str)), some (.lst (ms.map D.int)), some (.ref h), some (.ref s), v5, v6, v7, v8, v9] ∧
      SubC (updc c p k') c' ∧ c' h = some (.lst (hs.map boxD)) ∧ c' s = some (.lst (ss.map sheetD)) ∧ SprOk k' ∧ (∀ p ∈ hs, BoxOk p) ∧ (∀ s ∈ ss, SheetOk s) ∧ hs.length ≤ i ∧ ss.length ≤ i)
    ⟨none, none, none, none, none, [], [], k, rfl, by rw [updc_self hp]; walk_at "sb", by walk_at "cl", by walk_at "cl", hk, (fun _ h => by cases h), (fun _ h => by cases h), Nat.le_refl _, Nat.le_refl _⟩ ?_ ?_
  · rintro i d env c' e ⟨v5, v6, v7, v8, v9, hs, ss, k', rfl, hg, hgh, hgs, hk', hb, hsb, hl1, hl2⟩
    obtain ⟨x, hx, rfl⟩ := mem_map_at e
    have hxo : SOk 33 x := hws x (hy1.mem_iff.mp (List.mem_of_getElem? hx))
    have hi : i < 64 := by
      have := (List.getElem?_eq_some_iff.mp hx).1
      have := hy1.length_eq
      omega
    have hnh := hnh k'
    have hns := hns k'
    walk_at "go"
    refine ⟨p, k', ms, rfl, sub_at hg, hk', hm, fun w k2 w6 _ hk2 => ?_⟩
    walk_at "go"
    refine ⟨p, 2, k2, rfl, updc_same, hk2, by decide, by decide, fun v k3 v0 v1 hk3 => ?_⟩
    rw [updc_updc]
    have hg3 : SubC (updc c p k3) (updc c' p k3) := sub_p hg
    have rest : ∀ (DD : DEnds) (c2 : CMap) (hs : List (Str × Wo)), SubC (updc c p k3) c2 → c2 h = some (.lst (hs.map boxD)) → c2 s = some (.lst (ss.map sheetD)) → (∀ p ∈ hs, BoxOk p) → hs.length ≤ i + 1 →
        (∀ (env : DEnv) (c' : CMap) (v5 v6 v7 v8 v9 : Option D) (ss : List (Str × List Row3)) (k' : Cell), env = [some (.ref p), some (.lst (ws.map D.str)), some (.lst (ms.map D.int)), some (.ref h), some (.ref s), v5, v6, v7, v8, v9] → SubC (updc c p k') c' → c' h = some (.lst (hs.map boxD)) → c' s = some (.lst (ss.map sheetD)) → SprOk k' → (∀ s ∈ ss, SheetOk s) → ss.length ≤ i + 1 → DD.nx env c') →
        (wSeq (wAsg 7 (wOp (mulR false) (wOp idxR (wLst false (wCons (wC (.int 0)) (wCons (wC (.int 1)) (wCons (wC (.int 2)) (wCons (wC (.int 3)) (wCons (wC (.int 0)) (wCons (wC (.int 2)) (wCons (wC (.int 1)) (wCons (wC (.int 40)) wNil))))))))) (wCall sp_law_draw (wCons (wVar 0) (wCons (wC (.int 8)) wNil)))) (wCall sp_law_draw (wCons (wVar 0) (wCons (wC (.int 2)) wNil)))))
          (wSeq (wAsg 8 (wLst true wNil))
          (wSeq (wFor (wRg1 (wCons (wVar 7) wNil)) (gNm 9) (wDrop (wMt "list" appR (wVar 8) (wCons (wTup (wCons (wCall sp_law_there (wCons (wVar 0) (wCons (wVar 2) wNil))) (wCons (wCall sp_law_worth (wCons (wVar 0) (wCons (wVar 2) wNil))) (wCons (wCall sp_law_worth (wCons (wVar 0) (wCons (wVar 2) wNil))) wNil)))) wNil))))
          (wIf (wTst (wOp (eqR true) (wVar 8) (wLst false wNil))) (wDrop (wMt "list" appR (wVar 4) (wCons (wTup (wCons (wVar 5) (wCons (wFrz (wVar 8)) wNil))) wNil))) wSkip)))) DD [some (.ref p), some (.lst (ws.map D.str)), some (.lst (ms.map D.int)), some (.ref h), some (.ref s), some (.str x), some w.d, v7, v8, v9] c2 := by
      intro DD c2 hs hg2 hh2 hs2 hb hl1 fin
      walk_at "go"
      refine ⟨p, 8, k3, rfl, sub_at hg2, hk3, by decide, by decide, fun v k4 v0 v1 hk4 => ?_⟩
      refine ix_menu [0, 1, 2, 3, 0, 2, 1, 40] 0 40 (by decide) v0 v1 fun m m0 m1 => ?_
      walk_at "go"
      refine ⟨p, 2, k4, rfl, updc_same, hk4, by decide, by decide, fun b k5 b0 b1 hk5 => ?_⟩
      rw [updc_updc]
      have hmb : 0 ≤ m * b ∧ m * b ≤ 40 := by
        rcases (show b = 0 ∨ b = 1 by omega) with rfl | rfl <;> omega
      have hg5 : SubC (updc c p k5) (updc c2 p k5) := sub_p hg2
      walk_at "go"
      refine newL_t fun o ho => ?_
      obtain ⟨hop, ho2⟩ := updc_none ho
      have hoh : h ≠ o := ne_some_none hh2 ho2
      have hos : s ≠ o := ne_some_none hs2 ho2
      have hco : c o = none := by
        cases z : c o with
        | none => rfl
        | some kk =>
          have := hg2 o kk (by rw [updc_ne hop]; exact z)
          rw [this] at ho2; cases ho2
      walk_at "go"
      refine for_inv (fun j env c' => ∃ (v9 : Option D) (rs : List Row3) (k' : Cell), env = [some (.ref p), some (.lst (ws.map D.str)), some (.lst (ms.map D.int)), some (.ref h), some (.ref s), some (.str x), some w.d, some (.int (m * b)), some (.ref o), v9] ∧
          SubC (updc c p k') c' ∧ c' h = some (.lst (hs.map boxD)) ∧ c' s = some (.lst (ss.map sheetD)) ∧ c' o = some (.lst (rs.map rowD)) ∧ SprOk k' ∧ (∀ r ∈ rs, RowOk r) ∧ rs.length = j) ⟨v9, [], k5, rfl, SubC.newr hg5 (by walk_at "cn"), by walk_at "cl", by walk_at "cl", by walk_at "cl", hk5, (fun _ h => by cases h), rfl⟩ ?_ ?_
      · rintro j d env c' e ⟨v9, rs, k', rfl, hg, hgh, hgs, hgo, hk', hrs, hj⟩
        have hjl : j < 41 := by
          have := (List.getElem?_eq_some_iff.mp e).1
          rw [List.length_map, upto_len] at this
          omega
        walk_at "go"
        refine ⟨ty_c (by walk_at "cl"), ?_⟩
        walk_at "go"
        refine ⟨p, k', ms, rfl, sub_at hg, hk', hm, fun w1 k6 a1 a2 hk6 => ?_⟩
        walk_at "go"
        refine ⟨p, k6, ms, rfl, updc_same, hk6, hm, fun w2 k7 b1 b2 hk7 => ?_⟩
        rw [updc_updc]
        walk_at "go"
        refine ⟨p, k7, ms, rfl, updc_same, hk7, hm, fun w3 k8 c1 c2 hk8 => ?_⟩
        rw [updc_updc]
        walk_at "go"
        refine app_c (by walk_at "cl") (len_lt (by rw [List.length_map]; omega)) ?_
        refine ⟨_, rs ++ [(w1, w2, w3)], k8, rfl, ?_, by walk_at "cl", by walk_at "cl", ?_, hk8, ?_, by simp [hj]⟩
        · exact SubC.newr (sub_p hg) (by walk_at "cn")
        · rw [updc_same, List.map_append]; rfl
        · intro r hr
          rcases List.mem_append.mp hr with h | h
          · exact hrs r h
          · simp only [List.mem_singleton] at h; subst h; exact ⟨a1, a2, b1, c1⟩
      · rintro env c' ⟨v9, rs, k', rfl, hg, hgh, hgs, hgo, hk', hrs, hj⟩
        rw [List.length_map, upto_len] at hj
        walk_at "go"
        refine eq_dd (e' := .lst []) (res_c hgo) rfl (rows_ok hrs) ⟨rfl, by simp [DL.dep, deps]⟩ ?_
        walk_at "go"
        refine ite_td (fun h => ?_) (fun h => ?_)
        · walk_at "go"
          refine ⟨ty_c (by walk_at "cl"), ?_⟩
          walk_at "go"
          refine app_c (by walk_at "cl") (len_lt (by rw [List.length_map]; omega)) ?_
          refine fin _ _ _ _ _ _ _ (ss ++ [(x, rs)]) k' rfl ?_ (by walk_at "cl") ?_ hk' ?_ (by simp; omega)
          · refine SubC.newr (SubC.del hg (by walk_at "cn")) (by walk_at "cn")
          · rw [updc_same, List.map_append]; rfl
          · intro r hr
            rcases List.mem_append.mp hr with h | h
            · exact hsb r h
            · simp only [List.mem_singleton] at h; subst h; exact ⟨hxo, by simp; omega, hrs⟩
        · walk_at "go"
          exact fin _ _ _ _ _ _ _ ss k' rfl hg hgh hgs hk' hsb (by omega)
    walk_at "go"
    refine ite_fd (fun h => ?_) (fun h => ?_)
    · walk_at "go"
      refine eq_dd (e' := .int 0) Wo.res rfl (Wo.eqOk (by omega)) ⟨rfl, by simp [DL.dep]⟩ ?_
      walk_at "go"
      refine ite_td (fun h => ?_) (fun h => ?_)
      · walk_at "go"
        refine ⟨ty_c (by walk_at "cl"), ?_⟩
        walk_at "go"
        refine app_c (by walk_at "cl") (len_lt (by rw [List.length_map]; omega)) ?_
        refine rest _ _ (hs ++ [(x, w)]) (SubC.newr hg3 (by walk_at "cn")) ?_ (by walk_at "cl") ?_ (by simp; omega) fun env c' v5 v6 v7 v8 v9 ss k' h1 h2 h3 h4 h5 h6 h7 => ⟨v5, v6, v7, v8, v9, _, ss, k', h1, h2, h3, h4, h5, ?_, h6, by simp; omega, h7⟩
        · rw [updc_same, List.map_append]; rfl
        · intro r hr
          rcases List.mem_append.mp hr with h | h
          · exact hb r h
          · simp only [List.mem_singleton] at h; subst h; exact ⟨hxo, w6⟩
        · intro r hr
          rcases List.mem_append.mp hr with h | h
          · exact hb r h
          · simp only [List.mem_singleton] at h; subst h; exact ⟨hxo, w6⟩
      · refine rest _ _ hs hg3 (by walk_at "cl") (by walk_at "cl") hb (by omega) fun env c' v5 v6 v7 v8 v9 ss k' h1 h2 h3 h4 h5 h6 h7 => ⟨v5, v6, v7, v8, v9, _, ss, k', h1, h2, h3, h4, h5, hb, h6, by omega, h7⟩
    · refine rest _ _ hs hg3 (by walk_at "cl") (by walk_at "cl") hb (by omega) fun env c' v5 v6 v7 v8 v9 ss k' h1 h2 h3 h4 h5 h6 h7 => ⟨v5, v6, v7, v8, v9, _, ss, k', h1, h2, h3, h4, h5, hb, h6, by omega, h7⟩
  · rintro env c' ⟨v5, v6, v7, v8, v9, hs, ss, k', rfl, hg, hgh, hgs, hk', hb, hsb, hl1, hl2⟩
    rw [List.length_map, hy1.length_eq] at hl1 hl2
    have hnh := hnh k'
    have hns := hns k'
    walk_at "go"
    exact ⟨updc c p k', SubC.del (SubC.del hg hnh) hns, q hs ss k' ⟨by omega, hb, by omega, hsb⟩ hk'⟩
/-! what a view sees of a state -/
def oneD (p : Str × Int) : D := .tup [.str p.1, .int p.2]
def pairD (p : Int × Int) : D := .tup [.int p.1, .int p.2]
def shD (s : Str × List (Int × Int)) : D := .tup [.str s.1, .lst (s.2.map pairD)]
def seenOnes (hs : List (Str × Wo)) (v : List Int) : List (Str × Int) := (hs.map fun p => (p.1, p.2.seen v)).filter fun p => decide (p.2 ≠ 0)
def seenRows (rs : List Row3) (v : List Int) : List (Int × Int) := (rs.filter fun r => decide (r.1.seen v ≠ 0)).map fun r => (r.2.1.seen v, r.2.2.seen v)
def seenSheets (ss : List (Str × List Row3)) (v : List Int) : List (Str × List (Int × Int)) := (ss.map fun s => (s.1, seenRows s.2 v)).filter fun s => decide (s.2 ≠ [])
def sp_law_seen (n : Nat) : DSpec := fun ds c E Q => ∃ (w : Wo) (v : List Int), ds = [w.d, .lst (v.map D.int)] ∧ w.deep < n ∧ Q (.int (w.seen v)) c
theorem void_law_seen : ∀ ds c E Q, ¬ sp_law_seen 0 ds c E Q := by rintro ds c E Q ⟨w, v, _, h, _⟩; exact Nat.not_lt_zero _ h
theorem ok_law_seen {n : Nat} {ds c E Q} (h : sp_law_seen (n + 1) ds c E Q) : b_law_seen (sp_law_seen n) (endD E Q) (startE 2 ds) c := by
  obtain ⟨w, v, rfl, hd, q⟩ := h
  unfold b_law_seen
  cases w with
  | num k =>
    simp only [Wo.d]
    walk_at "go"
    exact ⟨_, SubC.rfl', q⟩
  | face m s t =>
    simp only [Wo.d]
    simp only [Wo.deep] at hd
    walk_at "go"
    refine in_l rfl rfl (ints_flat v) ?_
    walk_at "go"
    simp only [Wo.seen] at q
    refine ite_fd (fun h => ?_) (fun h => ?_)
    · rw [if_pos (int_mem.mp h)] at q
      walk_at "go"
      exact ⟨s, v, rfl, by omega, _, SubC.rfl', q⟩
    · rw [if_neg (fun z => h (int_mem.mpr z))] at q
      walk_at "go"
      exact ⟨t, v, rfl, by omega, _, SubC.rfl', q⟩
def sp_law_seen_state : DSpec := fun ds c E Q => ∃ (hs : List (Str × Wo)) (ss : List (Str × List Row3)) (v : List Int), ds = [.lst (hs.map boxD), .lst (ss.map sheetD), .lst (v.map D.int)] ∧ StateOk hs ss ∧ Q (.tup [.lst ((seenOnes hs v).map oneD), .lst ((seenSheets ss v).map shD)]) c
theorem seenRows_one {rs : List Row3} {v : List Int} (h : ∀ r ∈ rs, RowOk r) : (rs.filter fun r => decide (r.1.seen v = 1)) = rs.filter fun r => decide (r.1.seen v ≠ 0) := by
  refine List.filter_congr fun r hr => ?_
  have := Wo.all_seen v (h r hr).2.1
  rw [decide_eq_decide]
  omega
theorem pairs_ok (ps : List (Int × Int)) : DL.eqOk (.lst (ps.map pairD)) := by
  have h1 : ∀ ps : List (Int × Int), okDs (ps.map pairD) = true := by
    intro ps
    induction ps with
    | nil => rfl
    | cons r t ih => simp only [List.map_cons, okDs, pairD, DL.okD, ih, Bool.and_true]
  have h2 : ∀ ps : List (Int × Int), deps (ps.map pairD) ≤ 1 := by
    intro ps
    induction ps with
    | nil => exact Nat.zero_le _
    | cons r t ih =>
      simp only [List.map_cons, deps, pairD, DL.dep]
      omega
  refine ⟨h1 ps, ?_⟩
  have := h2 ps
  simp only [DL.dep]
  omega
theorem nil_ok : DL.eqOk (.lst []) := ⟨rfl, by simp [DL.dep, deps]⟩
theorem int_ok (i : Int) : DL.eqOk (.int i) := ⟨rfl, by simp [DL.dep]⟩
theorem mapD_nil {α : Type} {f : α → D} {xs : List α} : D.lst (xs.map f) = .lst [] ↔ xs = [] := by
  refine ⟨fun h => ?_, fun h => by rw [h]; rfl⟩
  injection h with h
  simpa using h
theorem ok_law_seen_state {ds c E Q} (h : sp_law_seen_state ds c E Q) : b_law_seen_state (sp_law_seen 7) (endD E Q) (startE 11 ds) c := by
  obtain ⟨hs, ss, v, rfl, ok, q⟩ := h
  unfold b_law_seen_state
  walk_at "go"
  intro A hA
  have hhl := ok.hl
  have hsl := ok.sl
  refine comp_mapL (fun p => some (oneD (p.1, p.2.seen v))) hA (by omega) ?_ ?_
  · intro x c' k hx hc hk
    have := (ok.hb x hx).2
    unfold boxD
    walk_at "go"
    refine ⟨x.2, v, rfl, by omega, ?_⟩
    walk_at "go"
    exact hk
  · rw [fm_some]
    walk_at "go"
    refine newL_t fun f hf => ?_
    walk_at "go"
    refine for_inv (fun i env c' => ∃ (v4 v5 v7 v8 v9 v10 : Option D), env = [some (.lst (hs.map boxD)), some (.lst (ss.map sheetD)), some (.lst (v.map D.int)), some (.lst (hs.map fun p => oneD (p.1, p.2.seen v))), v4, v5, some (.ref f), v7, v8, v9, v10] ∧ c' = updc c f (.lst ((seenSheets (ss.take i) v).map shD))) ⟨_, _, _, _, _, _, rfl, rfl⟩ ?_ ?_
    · rintro i d env c' e ⟨v4, v5, v7, v8, v9, v10, rfl, rfl⟩
      obtain ⟨s, hs', rfl⟩ := mem_map_at e
      obtain ⟨so1, so2, so3⟩ := ok.sb s (List.mem_of_getElem? hs')
      have hi : i < 64 := by
        have := (List.getElem?_eq_some_iff.mp hs').1
        omega
      have hlen : (seenSheets (ss.take i) v).length ≤ 64 := by
        unfold seenSheets
        refine Nat.le_trans (List.length_filter_le _ _) ?_
        rw [List.length_map, List.length_take]; omega
      unfold sheetD
      walk_at "go"
      intro B hB
      refine comp_mapL (fun r : Row3 => if r.1.seen v = 1 then some (rowD r) else none) hB (by omega) ?_ ?_
      · intro r c2 k hr hc hk
        obtain ⟨r1, r2, r3, r4⟩ := so3 r hr
        have hk : (if r.1.seen v = 1 then k (some (rowD r)) c2 else k none c2) := by
          by_cases z : r.1.seen v = 1
          · rw [if_pos z] at hk ⊢; exact hk
          · rw [if_neg z] at hk ⊢; exact hk
        unfold rowD at hk ⊢
        walk_at "go"
        refine ⟨r.1, v, rfl, by omega, ?_⟩
        walk_at "go"
        refine ite_fd (fun h => ?_) (fun h => ?_)
        · rw [if_pos h] at hk
          walk_at "go"
          exact hk
        · rw [if_neg h] at hk
          exact hk
      · rw [fm_if, seenRows_one so3]
        have hfl : (s.2.filter fun r => decide (r.1.seen v ≠ 0)).length ≤ 40 := Nat.le_trans (List.length_filter_le _ _) so2
        have hro : ∀ r ∈ s.2.filter (fun r => decide (r.1.seen v ≠ 0)), RowOk r := fun r hr => so3 r (List.mem_filter.mp hr).1
        have e1 : seenSheets (ss.take (i + 1)) v = seenSheets (ss.take i) v ++ if seenRows s.2 v ≠ [] then [(s.1, seenRows s.2 v)] else [] := by
          unfold seenSheets
          rw [List.take_add_one, hs', List.map_append, List.filter_append]
          by_cases z : seenRows s.2 v ≠ []
          · simp [z]
          · simp [z]
        walk_at "go"
        refine eq_dd (e' := .lst []) rfl rfl (rows_ok hro) nil_ok ?_
        walk_at "go"
        refine ite_td (fun h => ?_) (fun h => ?_)
        · have hne : seenRows s.2 v ≠ [] := by
            intro z; unfold seenRows at z; rw [List.map_eq_nil_iff] at z; exact h (mapD_nil.mpr z)
          walk_at "go"
          refine ⟨ty_c (by walk_at "cl"), ?_⟩
          walk_at "go"
          intro C hC
          refine comp_mapL (fun r : Row3 => some (pairD (r.2.1.seen v, r.2.2.seen v))) hC (by omega) ?_ ?_
          · intro r c2 k hr hc hk
            obtain ⟨r1, r2, r3, r4⟩ := hro r hr
            unfold rowD
            walk_at "go"
            refine ⟨r.2.1, v, rfl, by omega, ?_⟩
            walk_at "go"
            refine ⟨r.2.2, v, rfl, by omega, ?_⟩
            walk_at "go"
            exact hk
          · rw [fm_some]
            walk_at "go"
            refine app_c (by walk_at "cl") (len_lt (by rw [List.length_map]; omega)) ?_
            refine ⟨_, _, _, _, _, _, rfl, ?_⟩
            rw [updc_updc, e1, if_pos hne, List.map_append]
            unfold seenRows
            simp only [List.map_cons, List.map_nil, shD, List.map_map]
            rfl
        · have hne : ¬ seenRows s.2 v ≠ [] := by
            intro z; apply z; unfold seenRows; rw [List.map_eq_nil_iff]; exact mapD_nil.mp h
          walk_at "go"
          refine ⟨_, _, _, _, _, _, rfl, ?_⟩
          rw [e1, if_neg hne, List.append_nil]
    · rintro env c' ⟨v4, v5, v7, v8, v9, v10, rfl, rfl⟩
      rw [List.length_map, List.take_length]
      walk_at "go"
      intro B hB
      have hm : (hs.map fun p => oneD (p.1, p.2.seen v)) = (hs.map fun p => (p.1, p.2.seen v)).map oneD := by rw [List.map_map]; rfl
      rw [hm]
      refine comp_mapL (fun p : Str × Int => if p.2 ≠ 0 then some (oneD p) else none) hB (by rw [List.length_map]; omega) ?_ ?_
      · intro r c2 k hr hc hk
        have hk : (if r.2 ≠ 0 then k (some (oneD r)) c2 else k none c2) := by
          by_cases z : r.2 ≠ 0
          · rw [if_pos z] at hk ⊢; exact hk
          · rw [if_neg z] at hk ⊢; exact hk
        unfold oneD at hk ⊢
        walk_at "go"
        refine ite_td (fun h => ?_) (fun h => ?_)
        · rw [if_pos h] at hk
          walk_at "go"
          exact hk
        · rw [if_neg (fun z => z h)] at hk
          exact hk
      · rw [fm_if]
        walk_at "go"
        rw [delc_updc hf]
        exact ⟨_, SubC.rfl', q⟩
/-! what the program tells of a state: lists of its own -/
abbrev TS := (Str × List (Int × Int)) × Addr
def shR (t : TS) : D := .tup [.str t.1.1, .ref t.2]
structure FA (c c' : CMap) (s : Addr) (ts : List TS) : Prop where
  sub : SubC c c'
  ns : c s = none
  nt : ∀ t ∈ ts, c t.2 = none
  nd : (s :: ts.map (·.2)).Nodup
  hs : c' s = some (.lst (ts.map shR))
  at_ : ∀ t ∈ ts, c' t.2 = some (.lst (t.1.2.map pairD))
def sp_seen_state : DSpec := fun ds c E Q => ∃ (hs : List (Str × Wo)) (ss : List (Str × List Row3)) (v : List Int), ds = [.lst (hs.map boxD), .lst (ss.map sheetD), .lst (v.map D.int)] ∧ StateOk hs ss ∧
  ∀ (h s : Addr) (ts : List TS) (c' : CMap), ts.map (·.1) = seenSheets ss v → FA c c' s ts → c h = none → h ≠ s → (∀ t ∈ ts, h ≠ t.2) → c' h = some (.lst ((seenOnes hs v).map oneD)) → Q (.tup [.ref h, .ref s]) c'
theorem ok_seen_state {ds c E Q} (h : sp_seen_state ds c E Q) : b_seen_state sp_seen_by (endD E Q) (startE 14 ds) c := by
  obtain ⟨hs, ss, v, rfl, ok, q⟩ := h
  unfold b_seen_state
  walk_at "go"
  intro A hA
  have hhl := ok.hl
  have hsl := ok.sl
  refine comp_mapL (fun p => some (oneD (p.1, p.2.seen v))) hA (by omega) ?_ ?_
  · intro x c' k hx hc hk
    unfold boxD
    walk_at "go"
    refine ⟨x.2, v, rfl, ?_⟩
    walk_at "go"
    exact hk
  · rw [fm_some]
    walk_at "go"
    refine newL_t fun f hf => ?_
    walk_at "go"
    refine for_inv (fun i env c' => ∃ (v4 v5 v7 v8 v9 v10 v11 v12 v13 : Option D) (ts : List TS), env = [some (.lst (hs.map boxD)), some (.lst (ss.map sheetD)), some (.lst (v.map D.int)), some (.lst (hs.map fun p => oneD (p.1, p.2.seen v))), v4, v5, some (.ref f), v7, v8, v9, v10, v11, v12, v13] ∧ ts.map (·.1) = (ss.take i).map (fun s => (s.1, seenRows s.2 v)) ∧ FA c c' f ts)
      ⟨_, _, _, _, _, _, _, _, _, [], rfl, rfl, SubC.new hf, hf, (fun _ h => by cases h), by simp, updc_same, fun _ h => by cases h⟩ ?_ ?_
    · rintro i d env c' e ⟨v4, v5, v7, v8, v9, v10, v11, v12, v13, ts, rfl, hts, fa⟩
      obtain ⟨s, hs', rfl⟩ := mem_map_at e
      obtain ⟨so1, so2, so3⟩ := ok.sb s (List.mem_of_getElem? hs')
      have hi : i < 64 := by
        have := (List.getElem?_eq_some_iff.mp hs').1
        omega
      have htl : ts.length ≤ 64 := by
        have := congrArg List.length hts
        rw [List.length_map, List.length_map, List.length_take] at this
        omega
      have hcf := fa.hs
      unfold sheetD
      walk_at "go"
      intro B hB
      refine comp_mapL (fun r : Row3 => if r.1.seen v ≠ 0 then some (.tup [r.2.1.d, r.2.2.d]) else none) hB (by omega) ?_ ?_
      · intro r c2 k hr hc hk
        have hk : (if r.1.seen v ≠ 0 then k (some (.tup [r.2.1.d, r.2.2.d])) c2 else k none c2) := by
          by_cases z : r.1.seen v ≠ 0
          · rw [if_pos z] at hk ⊢; exact hk
          · rw [if_neg z] at hk ⊢; exact hk
        unfold rowD
        walk_at "go"
        refine ⟨r.1, v, rfl, ?_⟩
        walk_at "go"
        refine ite_td (fun h => ?_) (fun h => ?_)
        · rw [if_pos h] at hk
          walk_at "go"
          exact hk
        · rw [if_neg (fun z => z h)] at hk
          exact hk
      · rw [fm_if]
        have hfl : (s.2.filter fun r => decide (r.1.seen v ≠ 0)).length ≤ 40 := Nat.le_trans (List.length_filter_le _ _) so2
        walk_at "go"
        refine ⟨ty_c hcf, ?_⟩
        walk_at "go"
        intro C hC
        refine comp_mapR (fun r : Row3 => some (pairD (r.2.1.seen v, r.2.2.seen v))) hC (by omega) ?_ ?_
        · intro r c2 k hr hc hk
          walk_at "go"
          refine ⟨r.2.1, v, rfl, ?_⟩
          walk_at "go"
          refine ⟨r.2.2, v, rfl, ?_⟩
          walk_at "go"
          exact hk
        · rw [fm_some]
          have hfC : f ≠ C := ne_some_none hcf hC
          have hcC : c C = none := by
            cases z : c C with
            | none => rfl
            | some kk => have := fa.sub _ _ z; rw [this] at hC; cases hC
          walk_at "go"
          refine app_c (by walk_at "cl") (len_lt (by rw [List.length_map]; omega)) ?_
          refine ⟨_, _, _, _, _, _, _, _, _, ts ++ [((s.1, seenRows s.2 v), C)], rfl, ?_, ?_⟩
          · rw [List.take_add_one, hs', List.map_append, List.map_append, hts]; rfl
          · refine ⟨SubC.newr (SubC.newr fa.sub hcC) fa.ns, fa.ns, ?_, ?_, ?_, ?_⟩
            · intro t ht
              rcases List.mem_append.mp ht with h | h
              · exact fa.nt t h
              · simp only [List.mem_singleton] at h; subst h; exact hcC
            · rw [List.map_append, ← List.cons_append]
              refine List.nodup_append.mpr ⟨fa.nd, by simp, fun a ha b hb => ?_⟩
              simp only [List.map_cons, List.map_nil, List.mem_singleton] at hb
              subst hb
              rcases List.mem_cons.mp ha with rfl | ha
              · exact hfC
              · obtain ⟨t, ht, rfl⟩ := List.mem_map.mp ha
                exact ne_some_none (fa.at_ t ht) hC
            · rw [updc_same, List.map_append]; rfl
            · intro t ht
              rcases List.mem_append.mp ht with h | h
              · have h1 := fa.at_ t h
                have h2 : t.2 ≠ C := ne_some_none h1 hC
                have h3 : t.2 ≠ f := by
                  intro z
                  have := (List.nodup_cons.mp fa.nd).1
                  exact this (List.mem_map.mpr ⟨t, h, z⟩)
                rw [updc_ne h3, updc_ne h2]; exact h1
              · simp only [List.mem_singleton] at h; subst h
                rw [updc_ne (Ne.symm hfC), updc_same]
                unfold seenRows
                rw [List.map_map]; rfl
    · rintro env c' ⟨v4, v5, v7, v8, v9, v10, v11, v12, v13, ts, rfl, hts, fa⟩
      rw [List.length_map, List.take_length] at hts
      have htl : ts.length ≤ 64 := by
        have := congrArg List.length hts
        rw [List.length_map, List.length_map] at this
        omega
      walk_at "go"
      intro B hB
      have hm : (hs.map fun p => oneD (p.1, p.2.seen v)) = (hs.map fun p => (p.1, p.2.seen v)).map oneD := by rw [List.map_map]; rfl
      rw [hm]
      refine comp_mapR (fun p : Str × Int => if p.2 ≠ 0 then some (oneD p) else none) hB (by rw [List.length_map]; omega) ?_ ?_
      · intro r c2 k hr hc hk
        have hk : (if r.2 ≠ 0 then k (some (oneD r)) c2 else k none c2) := by
          by_cases z : r.2 ≠ 0
          · rw [if_pos z] at hk ⊢; exact hk
          · rw [if_neg z] at hk ⊢; exact hk
        unfold oneD at hk ⊢
        walk_at "go"
        refine ite_td (fun h => ?_) (fun h => ?_)
        · rw [if_pos h] at hk
          walk_at "go"
          exact hk
        · rw [if_neg (fun z => z h)] at hk
          exact hk
      · rw [fm_if]
        have hfB : f ≠ B := ne_some_none fa.hs hB
        have hcB : c B = none := by
          cases z : c B with
          | none => rfl
          | some kk => have := fa.sub _ _ z; rw [this] at hB; cases hB
        have hcf0 := fa.hs
        have hcf : ∀ k, updc c' B k f = some (.lst (ts.map shR)) := fun k => by rw [updc_ne hfB]; exact fa.hs
        walk_at "go"
        intro C hC
        obtain ⟨hCB, hC'⟩ := updc_none hC
        refine comp_mapG (fun t : TS => if t.1.2 ≠ [] then some (shR t) else none) hC (by omega) (fun k => by rw [updc_ne (ne_some_none (hcf _) hC)]; exact hcf _) ?_ ?_
        · intro t c2 k ht hc hk
          have hk : (if t.1.2 ≠ [] then k (some (shR t)) c2 else k none c2) := by
            by_cases z : t.1.2 ≠ []
            · rw [if_pos z] at hk ⊢; exact hk
            · rw [if_neg z] at hk ⊢; exact hk
          have htc : c2 t.2 = some (.lst (t.1.2.map pairD)) := hc _ _ (by rw [updc_ne (ne_some_none (fa.at_ t ht) hB)]; exact fa.at_ t ht)
          unfold shR at hk ⊢
          walk_at "go"
          refine eq_dd (e' := .lst []) (res_c htc) rfl (pairs_ok _) nil_ok ?_
          walk_at "go"
          refine ite_td (fun h => ?_) (fun h => ?_)
          · rw [if_pos (fun z => h (by rw [z]; rfl))] at hk
            walk_at "go"
            exact hk
          · rw [if_neg (fun z => z (mapD_nil.mp h))] at hk
            exact hk
        · rw [if_pos rfl, fm_if]
          walk_at "go"
          have hcC : c C = none := by
            cases z : c C with
            | none => rfl
            | some kk => have := fa.sub _ _ z; rw [this] at hC'; cases hC'
          refine ⟨_, SubC.rfl', q B C (ts.filter fun t => decide (t.1.2 ≠ [])) _ ?_ ?_ hcB (Ne.symm hCB) ?_ ?_⟩
          · unfold seenSheets
            rw [← hts, List.filter_map]; rfl
          · have hsub : ∀ t ∈ ts.filter (fun t => decide (t.1.2 ≠ [])), t ∈ ts := fun t ht => (List.mem_filter.mp ht).1
            refine ⟨SubC.newr (SubC.newr fa.sub hcB) hcC, hcC, fun t ht => fa.nt t (hsub t ht), ?_, updc_same, fun t ht => ?_⟩
            · refine List.nodup_cons.mpr ⟨fun z => ?_, ?_⟩
              · obtain ⟨t, ht, e⟩ := List.mem_map.mp z
                have := fa.at_ t (hsub t ht)
                rw [e] at this
                rw [this] at hC'; cases hC'
              · exact ((List.nodup_cons.mp fa.nd).2).sublist ((List.filter_sublist).map _)
            · have h1 := fa.at_ t (hsub t ht)
              rw [updc_ne (ne_some_none h1 hC'), updc_ne (ne_some_none h1 hB)]; exact h1
          · intro t ht z
            have := fa.at_ t ((List.mem_filter.mp ht).1)
            rw [← z] at this
            rw [this] at hB; cases hB
          · rw [updc_ne (Ne.symm hCB), updc_same]; rfl
/-! the law -/
theorem rsv_lst {c : CMap} {n : Nat} {d : D} {ds es : List D} (h : res c d = .lst ds) (hl : ds.length < 16777216) (p : Paired (Rsv c n) ds es) : Rsv c (n + 1) d (.lst es) := ⟨ds, h, hl, p⟩
theorem rsv_tup {c : CMap} {n : Nat} {ds es : List D} (hl : ds.length < 16777216) (p : Paired (Rsv c n) ds es) : Rsv c (n + 1) (.tup ds) (.tup es) := ⟨ds, rfl, hl, p⟩
theorem rsv_one {c : CMap} {n : Nat} {p : Str × Int} (h : SOk 33 p.1) : Rsv c (n + 2) (oneD p) (oneD p) := rsv_tup (by simp) (.cons ⟨rfl, h.2⟩ (.cons rfl .nil))
theorem rsv_pair {c : CMap} {n : Nat} {p : Int × Int} : Rsv c (n + 2) (pairD p) (pairD p) := rsv_tup (by simp) (.cons rfl (.cons rfl .nil))
theorem strange_ok : SOk 33 "strange" := ⟨by decide +kernel, by decide +kernel⟩
def seqD (xs : List D) : D := .lst xs
theorem ok_state_data {hs : List (Str × Wo)} {ss : List (Str × List Row3)} (ok : StateOk hs ss) (v : List Int) : DL.eqOk (.tup [.lst (hs.map boxD), .lst (ss.map sheetD), .lst (v.map D.int)]) := by
  have a1 : ∀ hs : List (Str × Wo), (∀ p ∈ hs, BoxOk p) → okDs (hs.map boxD) = true ∧ deps (hs.map boxD) ≤ 8 := by
    intro hs
    induction hs with
    | nil => intro _; exact ⟨rfl, Nat.zero_le _⟩
    | cons r t ih =>
      intro h
      obtain ⟨i1, i2⟩ := ih fun r hr => h r (by simp [hr])
      obtain ⟨h1, h2⟩ := h r (by simp)
      refine ⟨?_, ?_⟩
      · simp only [List.map_cons, okDs, boxD, DL.okD, Wo.okD, i1, h1.2, Bool.and_true]
      · simp only [List.map_cons, deps, boxD, DL.dep, Wo.dep]; omega
  have a2 : ∀ ss : List (Str × List Row3), (∀ p ∈ ss, SheetOk p) → okDs (ss.map sheetD) = true ∧ deps (ss.map sheetD) ≤ 60 := by
    intro hs
    induction hs with
    | nil => intro _; exact ⟨rfl, Nat.zero_le _⟩
    | cons r t ih =>
      intro h
      obtain ⟨i1, i2⟩ := ih fun r hr => h r (by simp [hr])
      obtain ⟨h1, h2, h3⟩ := h r (by simp)
      have hr : DL.okD (.lst (r.2.map rowD)) = true := (rows_ok h3).1
      have hd : DL.dep (.lst (r.2.map rowD)) ≤ 9 := by
        have : ∀ rs : List Row3, (∀ r ∈ rs, RowOk r) → deps (rs.map rowD) ≤ 7 := by
          intro rs
          induction rs with
          | nil => intro _; exact Nat.zero_le _
          | cons r t ih =>
            intro h
            obtain ⟨a, _, b, c⟩ := h r (by simp)
            have := ih fun r hr => h r (by simp [hr])
            simp only [List.map_cons, deps, rowD, DL.dep, Wo.dep]
            omega
        have := this _ h3
        simp only [DL.dep]; omega
      refine ⟨?_, ?_⟩
      · simp only [List.map_cons, okDs, sheetD, i1, Bool.and_true]
        simp only [DL.okD, okDs, h1.2, Bool.and_true, Bool.true_and]
        exact hr
      · simp only [List.map_cons, deps, sheetD]
        simp only [DL.dep, deps] at hd ⊢
        omega
  obtain ⟨b1, b2⟩ := a1 hs ok.hb
  obtain ⟨b3, b4⟩ := a2 ss ok.sb
  refine ⟨?_, ?_⟩
  · simp only [DL.okD, okDs, b1, b3, ints_ok, Bool.and_true]
  · simp only [DL.dep, deps, ints_dep]; omega
theorem seenOnes_ok {hs : List (Str × Wo)} (h : ∀ p ∈ hs, BoxOk p) (v : List Int) : ∀ p ∈ seenOnes hs v, SOk 33 p.1 := by
  intro p hp
  obtain ⟨q, hq, rfl⟩ := List.mem_map.mp (List.mem_filter.mp hp).1
  exact (h q hq).1
theorem seenSheets_ok {ss : List (Str × List Row3)} (h : ∀ p ∈ ss, SheetOk p) (v : List Int) : ∀ p ∈ seenSheets ss v, SOk 33 p.1 ∧ p.2.length ≤ 40 := by
  intro p hp
  obtain ⟨q, hq, rfl⟩ := List.mem_map.mp (List.mem_filter.mp hp).1
  obtain ⟨h1, h2, _⟩ := h q hq
  refine ⟨h1, ?_⟩
  unfold seenRows
  rw [List.length_map]
  exact Nat.le_trans (List.length_filter_le _ _) h2
/-! the law itself: runs seen -/
abbrev Talk := Wo × Wo
def talkD (t : Talk) : D := .tup [t.1.d, t.2.d]
def TalkOk (t : Talk) : Prop := t.1.deep ≤ 6 ∧ t.1.all (fun x => 0 ≤ x ∧ x < 2) ∧ t.2.deep ≤ 6
def seenTalk (sp : List Talk) (v : List Int) : List Int := (sp.filter fun t => decide (t.1.seen v ≠ 0)).map fun t => t.2.seen v
def toldD (hs : List (Str × Wo)) (ss : List (Str × List Row3)) (sp : List Talk) (w : Wo) : D := .tup [.lst (hs.map boxD), .lst (ss.map sheetD), .lst (sp.map talkD), w.d]
theorem told_ok {hs : List (Str × Wo)} {ss : List (Str × List Row3)} {sp : List Talk} {w : Wo} (ok : StateOk hs ss) (h : ∀ t ∈ sp, TalkOk t) (hw : w.deep ≤ 6) : DL.eqOk (toldD hs ss sp w) := by
  obtain ⟨a1, a2⟩ := ok_state_data ok []
  have b1 : ∀ sp : List Talk, (∀ t ∈ sp, TalkOk t) → okDs (sp.map talkD) = true ∧ deps (sp.map talkD) ≤ 8 := by
    intro sp
    induction sp with
    | nil => intro _; exact ⟨rfl, Nat.zero_le _⟩
    | cons r t ih =>
      intro h
      obtain ⟨i1, i2⟩ := ih fun r hr => h r (by simp [hr])
      obtain ⟨h1, _, h2⟩ := h r (by simp)
      refine ⟨?_, ?_⟩
      · simp only [List.map_cons, okDs, talkD, DL.okD, Wo.okD, i1, Bool.and_true]
      · simp only [List.map_cons, deps, talkD, DL.dep, Wo.dep]; omega
  obtain ⟨c1, c2⟩ := b1 sp h
  unfold toldD
  simp only [DL.okD, okDs, Bool.and_eq_true, Bool.and_true] at a1
  simp only [DL.dep, deps] at a2
  refine ⟨?_, ?_⟩
  · simp only [DL.okD, okDs, a1.1, a1.2.1, c1, Wo.okD, Bool.and_true]
  · simp only [DL.dep, deps, Wo.dep]; omega
def sp_seen_run : DSpec := fun ds c E Q => ∃ (hs : List (Str × Wo)) (ss : List (Str × List Row3)) (sp : List Talk) (w : Wo) (v : List Int), ds = [toldD hs ss sp w, .lst (v.map D.int)] ∧ StateOk hs ss ∧ sp.length ≤ 13 ∧
  ∀ (h s g : Addr) (ts : List TS) (c' : CMap), ts.map (·.1) = seenSheets ss v → FA c c' s ts → c h = none → h ≠ s → (∀ t ∈ ts, h ≠ t.2) → c' h = some (.lst ((seenOnes hs v).map oneD)) → c g = none → g ≠ h → g ≠ s → (∀ t ∈ ts, g ≠ t.2) → c' g = some (.lst ((seenTalk sp v).map D.int)) → Q (.tup [.ref h, .ref s, .ref g, .int (w.seen v)]) c'
theorem ok_seen_run {ds c E Q} (h : sp_seen_run ds c E Q) : b_seen_run sp_seen_state sp_seen_by (endD E Q) (startE 7 ds) c := by
  obtain ⟨hs, ss, sp, w, v, rfl, ok, hsp, q⟩ := h
  unfold b_seen_run
  unfold toldD
  walk_at "go"
  refine ⟨hs, ss, v, rfl, ok, fun h s ts c' hts fa hch hhs hht hh => ?_⟩
  walk_at "go"
  intro C hC
  refine comp_mapR (fun t : Talk => if t.1.seen v ≠ 0 then some (.int (t.2.seen v)) else none) hC (by omega) ?_ ?_
  · intro t c2 k ht hc hk
    have hk : (if t.1.seen v ≠ 0 then k (some (.int (t.2.seen v))) c2 else k none c2) := by
      by_cases z : t.1.seen v ≠ 0
      · rw [if_pos z] at hk ⊢; exact hk
      · rw [if_neg z] at hk ⊢; exact hk
    unfold talkD
    walk_at "go"
    refine ⟨t.1, v, rfl, ?_⟩
    walk_at "go"
    refine ite_td (fun h => ?_) (fun h => ?_)
    · rw [if_pos h] at hk
      walk_at "go"
      refine ⟨t.2, v, rfl, ?_⟩
      exact hk
    · rw [if_neg (fun z => z h)] at hk
      exact hk
  · rw [fm_if]
    walk_at "go"
    refine ⟨w, v, rfl, ?_⟩
    walk_at "go"
    have hcC : c C = none := by
      cases z : c C with
      | none => rfl
      | some kk => have := fa.sub _ _ z; rw [this] at hC; cases hC
    have hCs : C ≠ s := ne_none_some hC fa.hs
    have hCh : C ≠ h := ne_none_some hC hh
    have hCt : ∀ t ∈ ts, C ≠ t.2 := fun t ht => ne_none_some hC (fa.at_ t ht)
    refine ⟨_, SubC.rfl', q h s C ts _ hts ⟨SubC.newr fa.sub hcC, fa.ns, fa.nt, fa.nd, by rw [updc_ne (Ne.symm hCs)]; exact fa.hs, fun t ht => by rw [updc_ne (Ne.symm (hCt t ht))]; exact fa.at_ t ht⟩ hch hhs hht (by rw [updc_ne (Ne.symm hCh)]; exact hh) hcC hCh hCs hCt ?_⟩
    rw [updc_same]
    unfold seenTalk
    rw [List.map_map]; rfl
theorem rsv_ints {c : CMap} {n : Nat} (xs : List Int) : Paired (Rsv c (n + 1)) (xs.map D.int) (xs.map D.int) := pair_map fun x _ => rfl
def sp_law_right : DSpec := fun ds c E Q => ∃ (hs : List (Str × Wo)) (ss : List (Str × List Row3)) (sp : List Talk) (w : Wo) (v : List Int), ds = [toldD hs ss sp w, .lst (v.map D.int)] ∧ StateOk hs ss ∧ sp.length ≤ 13 ∧ (∀ t ∈ sp, TalkOk t) ∧ w.deep ≤ 6 ∧ Q (.bl true) c
theorem ok_law_right {ds c E Q} (h : sp_law_right ds c E Q) : b_law_right sp_law_seen_state (sp_law_seen 7) sp_seen_run (sp_law_same 8) (endD E Q) (startE 11 ds) c := by
  obtain ⟨hs, ss, sp, w, v, rfl, ok, hspl, hsp, hw, q⟩ := h
  unfold b_law_right
  have hhl := ok.hl
  have hsl := ok.sl
  have hdat := told_ok ok hsp hw
  unfold toldD
  walk_at "go"
  refine ⟨hs, ss, v, rfl, ok, ?_⟩
  walk_at "go"
  intro A hA
  refine comp_mapL (fun t : Talk => if t.1.seen v = 1 then some (.int (t.2.seen v)) else none) hA (by omega) ?_ ?_
  · intro t c2 k ht hc hk
    have hk : (if t.1.seen v = 1 then k (some (.int (t.2.seen v))) c2 else k none c2) := by
      by_cases z : t.1.seen v = 1
      · rw [if_pos z] at hk ⊢; exact hk
      · rw [if_neg z] at hk ⊢; exact hk
    obtain ⟨t1, t2, t3⟩ := hsp t ht
    unfold talkD
    walk_at "go"
    refine ⟨t.1, v, rfl, by omega, ?_⟩
    walk_at "go"
    refine ite_fd (fun h => ?_) (fun h => ?_)
    · rw [if_pos h] at hk
      walk_at "go"
      refine ⟨t.2, v, rfl, by omega, ?_⟩
      exact hk
    · rw [if_neg h] at hk
      exact hk
  · have e1 : sp.filterMap (fun t : Talk => if t.1.seen v = 1 then some (D.int (t.2.seen v)) else none) = (seenTalk sp v).map D.int := by
      rw [fm_if]
      unfold seenTalk
      rw [List.map_map]
      congr 1
      refine List.filter_congr fun t ht => ?_
      have := Wo.all_seen v (hsp t ht).2.1
      rw [decide_eq_decide]
      omega
    rw [e1]
    walk_at "go"
    intro B hB
    refine comp_mapL (fun s => some (sheetD s)) hB (by omega) ?_ ?_
    · intro x c' k hx hc hk
      unfold sheetD at hk ⊢
      walk_at "go"
      exact hk
    · rw [fm_some]
      walk_at "go"
      refine ⟨hs, ss, sp, w, v, rfl, ok, hspl, fun h s g ts c' hts fa hch hhs hht hh hcg hgh hgs hgt hg => ?_⟩
      have so := seenOnes_ok ok.hb v
      have sh := seenSheets_ok ok.sb v
      have hol : (seenOnes hs v).length ≤ 64 := by
        unfold seenOnes; refine Nat.le_trans (List.length_filter_le _ _) ?_; rw [List.length_map]; omega
      have htl : ts.length ≤ 64 := by
        have e := congrArg List.length hts
        rw [List.length_map] at e
        rw [e]
        unfold seenSheets; refine Nat.le_trans (List.length_filter_le _ _) ?_; rw [List.length_map]; omega
      have hgl : (seenTalk sp v).length ≤ 13 := by
        unfold seenTalk; rw [List.length_map]; exact Nat.le_trans (List.length_filter_le _ _) hspl
      have hto : ∀ t ∈ ts, SOk 33 t.1.1 ∧ t.1.2.length ≤ 40 := fun t ht => sh t.1 (by rw [← hts]; exact List.mem_map.mpr ⟨t, ht, rfl⟩)
      have hcs := fa.hs
      walk_at "go"
      refine ⟨w, v, rfl, by omega, ?_⟩
      walk_at "go"
      refine add_tt (by simp) (by simp) (len_ok rfl) ?_
      walk_at "go"
      refine ⟨_, _, rfl, ?_, ?_⟩
      · refine rsv_tup (by simp) (.cons (rsv_lst (res_c hh) (by rw [List.length_map]; omega) (pair_map fun p hp => rsv_one (so p hp))) (.cons (rsv_lst (res_c hcs) (by rw [List.length_map]; omega) ?_) (.cons (rsv_lst (res_c hg) (by rw [List.length_map]; omega) (rsv_ints _)) (.cons rfl .nil))))
        rw [← hts, List.map_map]
        refine pair_map fun t ht => rsv_tup (by simp) (.cons ⟨rfl, (hto t ht).1.2⟩ (.cons (rsv_lst (res_c (fa.at_ t ht)) ?_ (pair_map fun p _ => rsv_pair)) .nil))
        have := (hto t ht).2
        rw [List.length_map]; omega
      · walk_at "go"
        refine ⟨fun z => by have h2 : HT.sIx 4 4 (some ((3 : Nat) : Int)) = 4 := z.2; rw [HT.sIx_nat] at h2; omega, ?_⟩
        walk_at "go"
        refine for_unr ?_
        show forD _ [.ref h, .ref s, .ref g] _ _ _
        unfold forD forD forD forD
        walk_at "go"
        refine ⟨ty_c hh, ?_⟩
        walk_at "go"
        refine app_c hh (len_lt (by rw [List.length_map]; omega)) ?_
        walk_at "go"
        refine ⟨ty_c (by walk_at "cl"), ?_⟩
        walk_at "go"
        refine app_c (by walk_at "cl") (len_lt (by rw [List.length_map]; omega)) ?_
        walk_at "go"
        refine ⟨ty_c (by walk_at "cl"), ?_⟩
        walk_at "go"
        refine app_c (by walk_at "cl") (len_lt (by rw [List.length_map]; omega)) ?_
        walk_at "go"
        refine eq_dd (d' := toldD hs ss sp w) (e' := toldD hs ss sp w) rfl rfl hdat hdat ?_
        walk_at "go"
        refine ite_fd (fun _ => ?_) (fun h => absurd rfl h)
        walk_at "go"
        refine eq_dd (d' := .lst (v.map D.int)) (e' := .lst (v.map D.int)) rfl rfl (ints_eqOk v) (ints_eqOk v) ?_
        rw [decide_eq_true rfl]
        exact ⟨c, SubC.newr (SubC.newr (SubC.newr fa.sub hch) fa.ns) hcg, q⟩
theorem ok_law {ds c E Q} (h : sp_law ds c E Q) : b_law sp_law_spring sp_law_size sp_law_words sp_law_marks sp_law_state sp_law_draw sp_law_there sp_law_worth (sp_law_views 7) (sp_law_built 7) sp_law_right (endD E Q) (startE 14 ds) c := by
  obtain ⟨ns, rfl, hl, q⟩ := h
  unfold b_law
  walk_at "go"
  refine ⟨ns, rfl, hl, fun p k hp hk => ?_⟩
  walk_at "go"
  refine ⟨p, k, 7, rfl, updc_same, hk, by decide, by decide, fun m k1 m0 m1 hk1 => ?_⟩
  rw [updc_updc]
  walk_at "go"
  refine ⟨p, k1, m - 1, rfl, updc_same, hk1, by omega, by omega, fun ws k2 hwl hws hk2 => ?_⟩
  rw [updc_updc]
  walk_at "go"
  refine ⟨p, k2, 6, rfl, updc_same, hk2, by decide, by decide, fun ms k3 hm1 hm2 hm3 hk3 => ?_⟩
  rw [updc_updc]
  walk_at "go"
  refine ⟨p, k3, ws, ms, rfl, updc_same, hk3, by omega, hws, hm3, fun hs ss k4 ok hk4 => ?_⟩
  rw [updc_updc]
  walk_at "go"
  refine newL_t fun f hf => ?_
  have hpf : p ≠ f := ne_some_none (c := updc c p k4) updc_same hf
  walk_at "go"
  refine ⟨p, 13, k4, rfl, by walk_at "cl", hk4, by decide, by decide, fun r k5 r0 r1 hk5 => ?_⟩
  rw [updc_comm (Ne.symm hpf), updc_updc]
  walk_at "go"
  refine for_inv (fun i env c' => ∃ (v7 : Option D) (sp : List Talk) (k' : Cell), env = [some (.scr ns), some (.ref p), some (.lst (ws.map D.str)), some (.lst (ms.map D.int)), some (.lst (hs.map boxD)), some (.lst (ss.map sheetD)), some (.ref f), v7, none, none, none, none, none, none] ∧
      c' = updc (updc c p k') f (.lst (sp.map talkD)) ∧ SprOk k' ∧ (∀ t ∈ sp, TalkOk t) ∧ sp.length = i) ⟨none, [], k5, rfl, rfl, hk5, (fun _ h => by cases h), rfl⟩ ?_ ?_
  · rintro i d env c' e ⟨v7, sp, k', rfl, rfl, hk', hsp, hi⟩
    have hil : i < 13 := by
      have := (List.getElem?_eq_some_iff.mp e).1
      rw [List.length_map, upto_len] at this
      omega
    walk_at "go"
    refine ⟨ty_c (by walk_at "cl"), ?_⟩
    walk_at "go"
    refine ⟨p, k', ms, rfl, by walk_at "cl", hk', hm3, fun w1 k6 a1 a2 hk6 => ?_⟩
    rw [updc_comm (Ne.symm hpf), updc_updc]
    walk_at "go"
    refine ⟨p, k6, ms, rfl, by walk_at "cl", hk6, hm3, fun w2 k7 b1 b2 hk7 => ?_⟩
    rw [updc_comm (Ne.symm hpf), updc_updc]
    walk_at "go"
    refine app_c (by walk_at "cl") (len_lt (by rw [List.length_map]; omega)) ?_
    refine ⟨_, sp ++ [(w1, w2)], k7, rfl, ?_, hk7, ?_, by simp [hi]⟩
    · rw [updc_updc, List.map_append]; rfl
    · intro t ht
      rcases List.mem_append.mp ht with h | h
      · exact hsp t h
      · simp only [List.mem_singleton] at h; subst h; exact ⟨a1, a2, b1⟩
  · rintro env c' ⟨v7, sp, k', rfl, rfl, hk', hsp, hi⟩
    rw [List.length_map, upto_len] at hi
    have hvl := views_len ms
    have hp6 := pow6 hm3
    walk_at "go"
    refine ⟨ms, rfl, by omega, hm3, ?_⟩
    walk_at "go"
    intro A hA
    refine comp_kind1 SprOk (isNum 0 3) (k := k') hA (by rw [List.length_map, hvl]; omega) (by walk_at "cl") hk' ?_ ?_
    · intro d c' K k8 hd h1 h2 _ hK
      walk_at "go"
      refine ⟨p, 3, k8, rfl, h1, h2, by decide, by decide, fun v k9 v0 v1 hk9 => ?_⟩
      exact hK _ k9 ⟨v, rfl, v0, v1⟩ hk9
    · intro out k8 ho hT hk8
      obtain ⟨xs, rfl, hxs⟩ := all_map hT
      simp only [List.length_map, hvl] at ho
      rw [updc_comm (Ne.symm hpf), updc_updc]
      walk_at "go"
      refine ⟨ms, xs, rfl, by omega, hm3, ho, ?_⟩
      have hwd := builtW_deep ms xs
      generalize builtW ms xs = w at hwd
      walk_at "go"
      intro A hA
      refine comp_kind1 SprOk (fun d => ∃ v : List Int, d = viewD v ∧ v.length ≤ 6) (k := k8) hA (by rw [List.length_map, upto_len]; decide) (by walk_at "cl") hk8 ?_ ?_
      · intro d c' K k5 hd h1 h2 _ hK
        walk_at "go"
        intro B hB
        refine comp_kind SprOk (fun d => ∃ x : Int, d = .int x ∧ True) hB (by rw [List.length_map, upto_len]; decide) h1 h2 ?_ ?_
        · intro d2 c2 K2 k6 hd2 h3 h4 _ hK1 hK2
          obtain ⟨y, hy, rfl⟩ := List.mem_map.mp hd2
          walk_at "go"
          refine ⟨p, 2, k6, rfl, h3, h4, by decide, by decide, fun v k7 v0 v1 hk7 => ?_⟩
          walk_at "go"
          refine ite_fd (fun h => ?_) (fun h => ?_)
          · walk_at "go"
            exact hK1 _ k7 ⟨y, rfl, trivial⟩ hk7
          · exact hK2 k7 hk7
        · intro out k7 ho hT hk7
          obtain ⟨v, rfl, _⟩ := all_map hT
          rw [List.length_map, List.length_map, upto_len] at ho
          exact hK _ k7 ⟨v, rfl, ho⟩ hk7
      · intro out k9 ho hT hk9
        rw [updc_comm (Ne.symm hpf), updc_updc]
        obtain ⟨vs, rfl, hvs⟩ := all_map hT
        walk_at "go"
        refine ⟨ms, rfl, by omega, hm3, ?_⟩
        walk_at "go"
        rw [List.length_map, List.length_map, upto_len] at ho
        have ho : vs.length = 3 := ho
        refine add_ll (len_le (by simp only [List.length_map, hvl]; omega)) (newL_f ?_)
        rw [← List.map_append]
        walk_at "go"
        intro C hC
        refine comp_mapL (fun _ => some (.bl true)) hC (by simp only [List.length_append, hvl]; omega) ?_ ?_
        · intro x c' K hx hc hK
          walk_at "go"
          exact ⟨hs, ss, sp, w, x, rfl, ok, by omega, hsp, by omega, hK⟩
        · walk_at "go"
          obtain ⟨bs, h1, h2⟩ := bls_true (viewsOf ms ++ vs)
          refine all_l h1 ?_
          rw [h2]
          exact ⟨_, SubC.rfl', q _⟩
def topS (i : Nat) : Stmt := PySem.Challenge.pw_manyfaces_k29_runs_seen.main.body.getD i (.Pass ⟨0, 0, 0, 0⟩)
section
variable {GI : Hp → Prop} {P : Program} {w : World} {K : PySem.W.Frag} {mg : Str → Option Value} {base : Heap}
abbrev t_seen_by : Stmt := topS 1
theorem sc_seen_by : FnScope ["worth", "view", "word", "mark", "seen", "unseen"] ["worth", "view"] (defScope t_seen_by) := ⟨rfl, rfl, rfl, by decide +kernel, rfl, by decide +kernel, by decide +kernel⟩
theorem d_seen_by {k : Nat} (m_tuple : mg "tuple" = none) (m_isinstance : mg "isinstance" = none) {cdv : Value} {A : Around} {outer : List Env} {s : Shared} {H : Hp} {E : XK} {f : Addr} (hr : Room k (A.deeper (envOfC "seen_by" (defScope t_seen_by) s.heap.objs.size f cdv))) :
    CSs GI (cxOf (L2.CX P w) P w K mg base ["worth", "view", "word", "mark", "seen", "unseen"] "seen_by" (defScope t_seen_by) f cdv A outer s H E) (defBody t_seen_by) (b_seen_by) := by
  have r0 := hr.mono (Nat.zero_le k)
  have nd := sc_seen_by.nd
  exact (css_cons (cs_while (ct_val (ce_isi m_isinstance (ca_cons (ce_var 0) (ca_cons (ce_bty m_tuple) ca_nil)))) (css_cons (cs_asgG [2, 3, 4, 5] (ce_var 0) (cg_tup 4 rfl (cgs_cons (cg_name 2) (cgs_cons (cg_name 3) (cgs_cons (cg_name 4) (cgs_cons (cg_name 5) cgs_nil))))))
  (css_one (cs_asg 0 (ce_if (ct_in r0 (ce_var 3) (ce_var 1)) (ce_var 4) (ce_var 5))))))
  (css_one (cs_ret (ce_var 0))))

abbrev t_seen_state : Stmt := topS 3
theorem sc_seen_state : FnScope ["boxes", "tables", "view", "held", "name", "worth", "sheets", "rows", "own", "there", "first", "second", "box", "sheet"] ["boxes", "tables", "view"] (defScope t_seen_state) := ⟨rfl, rfl, rfl, by decide +kernel, rfl, by decide +kernel, by decide +kernel⟩
theorem d_seen_state {s_seen_by : DSpec} {k : Nat} (h_seen_by : HasG GI P w K mg base k "seen_by" 2 s_seen_by) {cdv : Value} {A : Around} {outer : List Env} {s : Shared} {H : Hp} {E : XK} {f : Addr} (hr : Room k (A.deeper (envOfC "seen_state" (defScope t_seen_state) s.heap.objs.size f cdv))) :
    CSs GI (cxOf (L2.CX P w) P w K mg base ["boxes", "tables", "view", "held", "name", "worth", "sheets", "rows", "own", "there", "first", "second", "box", "sheet"] "seen_state" (defScope t_seen_state) f cdv A outer s H E) (defBody t_seen_state) (b_seen_state s_seen_by) := by
  have r0 := hr.mono (Nat.zero_le k)
  have nd := sc_seen_state.nd
  exact (css_cons (cs_setcomp false 3 [("name", 4), ("worth", 5)] nd rfl (ci_any (ce_var 0)) (blkOk_by (N := ["boxes", "tables", "view", "held", "name", "worth", "sheets", "rows", "own", "there", "first", "second", "box", "sheet"]) (sc := defScope t_seen_state) (own := [("name", 4), ("worth", 5)]) (by decide +kernel)) (fun _ _ _ _ _ => (cg_tup 2 rfl (cgs_cons (cg_name 4) (cgs_cons (cg_name 5) cgs_nil)))) (fun _ _ _ _ _ => cts_nil) (fun _ _ _ _ _ => (ce_tup (ca_cons (ce_var 4) (ca_cons (ce_call h_seen_by hr (ca_cons (ce_var 5) (ca_cons (ce_var 2) ca_nil))) ca_nil)))))
  (css_cons (cs_asg 6 (ce_lst true ca_nil))
  (css_cons (cs_for [4, 7] rfl (ci_any (ce_var 1)) (cg_tup 2 rfl (cgs_cons (cg_name 4) (cgs_cons (cg_name 7) cgs_nil))) (css_cons (cs_setcomp false 8 [("there", 9), ("first", 10), ("second", 11)] nd rfl (ci_any (ce_var 7)) (blkOk_by (N := ["boxes", "tables", "view", "held", "name", "worth", "sheets", "rows", "own", "there", "first", "second", "box", "sheet"]) (sc := defScope t_seen_state) (own := [("there", 9), ("first", 10), ("second", 11)]) (by decide +kernel)) (fun _ _ _ _ _ => (cg_tup 3 rfl (cgs_cons (cg_name 9) (cgs_cons (cg_name 10) (cgs_cons (cg_name 11) cgs_nil))))) (fun _ _ _ _ _ => (cts_one (ct_ne r0 (ce_call h_seen_by hr (ca_cons (ce_var 9) (ca_cons (ce_var 2) ca_nil))) ce_int))) (fun _ _ _ _ _ => (ce_tup (ca_cons (ce_var 10) (ca_cons (ce_var 11) ca_nil)))))
  (css_one (cs_expr (ce_append (ce_var 6) (ca_cons (ce_tup (ca_cons (ce_var 4) (ca_cons (ce_comp true [("first", 10), ("second", 11)] nd rfl (ci_any (ce_var 8)) (blkOk_by (N := ["boxes", "tables", "view", "held", "name", "worth", "sheets", "rows", "own", "there", "first", "second", "box", "sheet"]) (sc := defScope t_seen_state) (own := [("first", 10), ("second", 11)]) (by decide +kernel)) (fun _ _ _ _ _ => (cg_tup 2 rfl (cgs_cons (cg_name 10) (cgs_cons (cg_name 11) cgs_nil)))) (fun _ _ _ _ _ => cts_nil) (fun _ _ _ _ _ => (ce_tup (ca_cons (ce_call h_seen_by hr (ca_cons (ce_var 10) (ca_cons (ce_var 2) ca_nil))) (ca_cons (ce_call h_seen_by hr (ca_cons (ce_var 11) (ca_cons (ce_var 2) ca_nil))) ca_nil))))) ca_nil))) ca_nil))))))
  (css_one (cs_ret (ce_tup (ca_cons (ce_comp true [("box", 12)] nd rfl (ci_any (ce_var 3)) (blkOk_by (N := ["boxes", "tables", "view", "held", "name", "worth", "sheets", "rows", "own", "there", "first", "second", "box", "sheet"]) (sc := defScope t_seen_state) (own := [("box", 12)]) (by decide +kernel)) (fun _ _ _ _ _ => (cg_name 12)) (fun _ _ _ _ _ => (cts_one (ct_ne r0 (ce_idx r0 (ce_var 12) ce_int) ce_int))) (fun _ _ _ _ _ => (ce_var 12))) (ca_cons (ce_comp true [("sheet", 13)] nd rfl (ci_any (ce_var 6)) (blkOk_by (N := ["boxes", "tables", "view", "held", "name", "worth", "sheets", "rows", "own", "there", "first", "second", "box", "sheet"]) (sc := defScope t_seen_state) (own := [("sheet", 13)]) (by decide +kernel)) (fun _ _ _ _ _ => (cg_name 13)) (fun _ _ _ _ _ => (cts_one (ct_ne r0 (ce_idx r0 (ce_var 13) ce_int) (ce_lst false ca_nil)))) (fun _ _ _ _ _ => (ce_var 13))) ca_nil))))))))

abbrev t_seen_run : Stmt := topS 4
theorem sc_seen_run : FnScope ["told", "view", "held", "sheets", "said", "there", "worth"] ["told", "view"] (defScope t_seen_run) := ⟨rfl, rfl, rfl, by decide +kernel, rfl, by decide +kernel, by decide +kernel⟩
theorem d_seen_run {s_seen_state s_seen_by : DSpec} {k : Nat} (h_seen_state : HasG GI P w K mg base k "seen_state" 3 s_seen_state) (h_seen_by : HasG GI P w K mg base k "seen_by" 2 s_seen_by) {cdv : Value} {A : Around} {outer : List Env} {s : Shared} {H : Hp} {E : XK} {f : Addr} (hr : Room k (A.deeper (envOfC "seen_run" (defScope t_seen_run) s.heap.objs.size f cdv))) :
    CSs GI (cxOf (L2.CX P w) P w K mg base ["told", "view", "held", "sheets", "said", "there", "worth"] "seen_run" (defScope t_seen_run) f cdv A outer s H E) (defBody t_seen_run) (b_seen_run s_seen_state s_seen_by) := by
  have r0 := hr.mono (Nat.zero_le k)
  have nd := sc_seen_run.nd
  exact (css_cons (cs_asgG [2, 3] (ce_call h_seen_state hr (ca_cons (ce_idx r0 (ce_var 0) ce_int) (ca_cons (ce_idx r0 (ce_var 0) ce_int) (ca_cons (ce_var 1) ca_nil)))) (cg_tup 2 rfl (cgs_cons (cg_name 2) (cgs_cons (cg_name 3) cgs_nil))))
  (css_cons (cs_setcomp true 4 [("there", 5), ("worth", 6)] nd rfl (ci_any (ce_idx r0 (ce_var 0) ce_int)) (blkOk_by (N := ["told", "view", "held", "sheets", "said", "there", "worth"]) (sc := defScope t_seen_run) (own := [("there", 5), ("worth", 6)]) (by decide +kernel)) (fun _ _ _ _ _ => (cg_tup 2 rfl (cgs_cons (cg_name 5) (cgs_cons (cg_name 6) cgs_nil)))) (fun _ _ _ _ _ => (cts_one (ct_ne r0 (ce_call h_seen_by hr (ca_cons (ce_var 5) (ca_cons (ce_var 1) ca_nil))) ce_int))) (fun _ _ _ _ _ => (ce_call h_seen_by hr (ca_cons (ce_var 6) (ca_cons (ce_var 1) ca_nil)))))
  (css_one (cs_ret (ce_tup (ca_cons (ce_var 2) (ca_cons (ce_var 3) (ca_cons (ce_var 4) (ca_cons (ce_call h_seen_by hr (ca_cons (ce_idx r0 (ce_var 0) ce_int) (ca_cons (ce_var 1) ca_nil))) ca_nil)))))))))

abbrev t_law_spring : Stmt := topS 6
theorem sc_law_spring : FnScope ["script", "figures", "stir", "cell"] ["script"] (defScope t_law_spring) := ⟨rfl, rfl, rfl, by decide +kernel, rfl, by decide +kernel, by decide +kernel⟩
theorem d_law_spring {k : Nat} (m_abs : mg "abs" = none) {cdv : Value} {A : Around} {outer : List Env} {s : Shared} {H : Hp} {E : XK} {f : Addr} (hr : Room k (A.deeper (envOfC "_law_spring" (defScope t_law_spring) s.heap.objs.size f cdv))) :
    CSs GI (cxOf (L2.CX P w) P w K mg base ["script", "figures", "stir", "cell"] "_law_spring" (defScope t_law_spring) f cdv A outer s H E) (defBody t_law_spring) (b_law_spring) := by
  have r0 := hr.mono (Nat.zero_le k)
  have nd := sc_law_spring.nd
  exact (css_cons (cs_asg 1 ce_int)
  (css_cons (cs_asg 2 ce_int)
  (css_cons (cs_for [3] rfl (ci_any (ce_slice false (ce_var 0) co_none (co_some ce_int))) (cg_name 3) (css_cons (cs_if (ct_ge (ce_abs m_abs (ca_cons (ce_var 3) ca_nil)) (ce_pow ce_int ce_int)) (css_one (cs_asg 1 (ce_add false (ce_mul false (ce_var 1) (ce_pow ce_int ce_int)) (ce_mod (ce_abs m_abs (ca_cons (ce_var 3) ca_nil)) (ce_pow ce_int ce_int))))) css_nil)
  (css_one (cs_asg 2 (ce_mod (ce_add false (ce_add false (ce_mul false (ce_var 2) ce_int) (ce_mod (ce_var 3) ce_int)) ce_int) ce_int)))))
  (css_one (cs_ret (ce_lst true (ca_cons (ce_var 1) (ca_cons (ce_var 2) (ca_cons ce_int ca_nil)))))))))

abbrev t_law_draw : Stmt := topS 7
theorem sc_law_draw : FnScope ["spring", "many", "found", "stir"] ["spring", "many"] (defScope t_law_draw) := ⟨rfl, rfl, rfl, by decide +kernel, rfl, by decide +kernel, by decide +kernel⟩
theorem d_law_draw {k : Nat}  {cdv : Value} {A : Around} {outer : List Env} {s : Shared} {H : Hp} {E : XK} {f : Addr} (hr : Room k (A.deeper (envOfC "_law_draw" (defScope t_law_draw) s.heap.objs.size f cdv))) :
    CSs GI (cxOf (L2.CX P w) P w K mg base ["spring", "many", "found", "stir"] "_law_draw" (defScope t_law_draw) f cdv A outer s H E) (defBody t_law_draw) (b_law_draw) := by
  have r0 := hr.mono (Nat.zero_le k)
  have nd := sc_law_draw.nd
  exact (css_cons (cs_if (ct_gt (ce_idx r0 (ce_var 0) ce_int) ce_int) (css_cons (cs_asg 2 (ce_mod (ce_idx r0 (ce_var 0) ce_int) (ce_var 1)))
  (css_cons (cs_set r0 (ce_var 0) ce_int (ce_fdiv (ce_idx r0 (ce_var 0) ce_int) (ce_var 1)))
  (css_one (cs_ret (ce_var 2))))) css_nil)
  (css_cons (cs_set r0 (ce_var 0) ce_int (ce_add false (ce_idx r0 (ce_var 0) ce_int) ce_int))
  (css_cons (cs_asg 3 (ce_mod (ce_mul false (ce_idx r0 (ce_var 0) ce_int) (ce_idx r0 (ce_var 0) ce_int)) ce_int))
  (css_cons (cs_set r0 (ce_var 0) ce_int (ce_mod (ce_add false (ce_add false (ce_var 3) (ce_mul false (ce_mul false ce_int (ce_idx r0 (ce_var 0) ce_int)) (ce_idx r0 (ce_var 0) ce_int))) ce_int) ce_int))
  (css_one (cs_ret (ce_mod (ce_fdiv (ce_idx r0 (ce_var 0) ce_int) ce_int) (ce_var 1))))))))

abbrev t_law_built : Stmt := topS 8
theorem sc_law_built : FnScope ["marks", "numbers", "half", "seen", "unseen"] ["marks", "numbers"] (defScope t_law_built) := ⟨rfl, rfl, rfl, by decide +kernel, rfl, by decide +kernel, by decide +kernel⟩
theorem d_law_built {s_law_built : DSpec} {k : Nat} (h_law_built : HasG GI P w K mg base k "_law_built" 2 s_law_built) (m_len : mg "len" = none) {cdv : Value} {A : Around} {outer : List Env} {s : Shared} {H : Hp} {E : XK} {f : Addr} (hr : Room k (A.deeper (envOfC "_law_built" (defScope t_law_built) s.heap.objs.size f cdv))) :
    CSs GI (cxOf (L2.CX P w) P w K mg base ["marks", "numbers", "half", "seen", "unseen"] "_law_built" (defScope t_law_built) f cdv A outer s H E) (defBody t_law_built) (b_law_built s_law_built) := by
  have r0 := hr.mono (Nat.zero_le k)
  have nd := sc_law_built.nd
  exact (css_cons (cs_if (ct_eq r0 (ce_var 0) (ce_lst false ca_nil)) (css_one (cs_ret (ce_idx r0 (ce_var 1) ce_int))) css_nil)
  (css_cons (cs_asg 2 (ce_fdiv (ce_len m_len (ca_cons (ce_var 1) ca_nil)) ce_int))
  (css_cons (cs_asg 3 (ce_call h_law_built hr (ca_cons (ce_slice false (ce_var 0) (co_some ce_int) co_none) (ca_cons (ce_slice false (ce_var 1) co_none (co_some (ce_var 2))) ca_nil))))
  (css_cons (cs_asg 4 (ce_call h_law_built hr (ca_cons (ce_slice false (ce_var 0) (co_some ce_int) co_none) (ca_cons (ce_slice false (ce_var 1) (co_some (ce_var 2)) co_none) ca_nil))))
  (css_cons (cs_if (ct_eq r0 (ce_var 3) (ce_var 4)) (css_one (cs_ret (ce_var 3))) css_nil)
  (css_one (cs_ret (ce_tup (ca_cons ce_str (ca_cons (ce_idx r0 (ce_var 0) ce_int) (ca_cons (ce_var 3) (ca_cons (ce_var 4) ca_nil))))))))))))

abbrev t_law_views : Stmt := topS 9
theorem sc_law_views : FnScope ["marks", "rest", "view"] ["marks"] (defScope t_law_views) := ⟨rfl, rfl, rfl, by decide +kernel, rfl, by decide +kernel, by decide +kernel⟩
theorem d_law_views {s_law_views : DSpec} {k : Nat} (h_law_views : HasG GI P w K mg base k "_law_views" 1 s_law_views) {cdv : Value} {A : Around} {outer : List Env} {s : Shared} {H : Hp} {E : XK} {f : Addr} (hr : Room k (A.deeper (envOfC "_law_views" (defScope t_law_views) s.heap.objs.size f cdv))) :
    CSs GI (cxOf (L2.CX P w) P w K mg base ["marks", "rest", "view"] "_law_views" (defScope t_law_views) f cdv A outer s H E) (defBody t_law_views) (b_law_views s_law_views) := by
  have r0 := hr.mono (Nat.zero_le k)
  have nd := sc_law_views.nd
  exact (css_cons (cs_if (ct_eq r0 (ce_var 0) (ce_lst false ca_nil)) (css_one (cs_ret (ce_lst false (ca_cons (ce_lst false ca_nil) ca_nil)))) css_nil)
  (css_cons (cs_asg 1 (ce_call h_law_views hr (ca_cons (ce_slice false (ce_var 0) (co_some ce_int) co_none) ca_nil)))
  (css_one (cs_ret (ce_add false (ce_comp false [("view", 2)] nd rfl (ci_any (ce_var 1)) (blkOk_by (N := ["marks", "rest", "view"]) (sc := defScope t_law_views) (own := [("view", 2)]) (by decide +kernel)) (fun _ _ _ _ _ => (cg_name 2)) (fun _ _ _ _ _ => cts_nil) (fun _ _ _ _ _ => (ce_add false (ce_slice false (ce_var 0) co_none (co_some ce_int)) (ce_var 2)))) (ce_var 1))))))

abbrev t_law_one_name : Stmt := topS 10
theorem sc_law_one_name : FnScope ["spring", "way", "base", "k", "letters", "at", "long", "step"] ["spring", "way", "base", "k"] (defScope t_law_one_name) := ⟨rfl, rfl, rfl, by decide +kernel, rfl, by decide +kernel, by decide +kernel⟩
theorem d_law_one_name {s_law_draw : DSpec} {k : Nat} (h_law_draw : HasG GI P w K mg base k "_law_draw" 2 s_law_draw) (m_range : mg "range" = none) {cdv : Value} {A : Around} {outer : List Env} {s : Shared} {H : Hp} {E : XK} {f : Addr} (hr : Room k (A.deeper (envOfC "_law_one_name" (defScope t_law_one_name) s.heap.objs.size f cdv))) :
    CSs GI (cxOf (L2.CX P w) P w K mg base ["spring", "way", "base", "k", "letters", "at", "long", "step"] "_law_one_name" (defScope t_law_one_name) f cdv A outer s H E) (defBody t_law_one_name) (b_law_one_name s_law_draw) := by
  have r0 := hr.mono (Nat.zero_le k)
  have nd := sc_law_one_name.nd
  exact (css_cons (cs_asg 4 ce_str)
  (css_cons (cs_asg 5 (ce_idx r0 (ce_var 2) ce_int))
  (css_cons (cs_if (ct_eq r0 (ce_var 1) ce_int) (css_one (cs_ret (ce_add false (ce_add false (ce_slice false (ce_idx r0 (ce_var 2) ce_int) co_none (co_some (ce_var 5))) (ce_idx r0 (ce_var 4) (ce_mod (ce_add false (ce_var 3) (ce_idx r0 (ce_var 2) ce_int)) ce_int))) (ce_slice false (ce_idx r0 (ce_var 2) ce_int) (co_some (ce_var 5)) (co_some ce_int))))) css_nil)
  (css_cons (cs_if (cw_and (ct_eq r0 (ce_var 1) ce_int) (cw_and1 (ct_lt (ce_var 3) ce_int))).ct (css_one (cs_ret (ce_slice false (ce_idx r0 (ce_var 2) ce_int) co_none (co_some (ce_add false (ce_var 3) ce_int))))) css_nil)
  (css_cons (cs_asg 6 (ce_idx r0 (ce_lst false (ca_cons ce_int (ca_cons ce_int (ca_cons ce_int (ca_cons ce_int (ca_cons ce_int (ca_cons ce_int ca_nil))))))) (ce_call h_law_draw hr (ca_cons (ce_var 0) (ca_cons ce_int ca_nil)))))
  (css_one (cs_ret (ce_join ce_str (ca_cons (ce_comp false [("step", 7)] nd rfl (ci_range1 m_range (ca_cons (ce_var 6) ca_nil)) (blkOk_by (N := ["spring", "way", "base", "k", "letters", "at", "long", "step"]) (sc := defScope t_law_one_name) (own := [("step", 7)]) (by decide +kernel)) (fun _ _ _ _ _ => (cg_name 7)) (fun _ _ _ _ _ => cts_nil) (fun _ _ _ _ _ => (ce_idx r0 (ce_var 4) (ce_call h_law_draw hr (ca_cons (ce_var 0) (ca_cons ce_int ca_nil)))))) ca_nil)))))))))

abbrev t_law_words : Stmt := topS 11
theorem sc_law_words : FnScope ["spring", "size", "letters", "barred", "way", "signs", "step", "base", "found", "k", "name", "number"] ["spring", "size"] (defScope t_law_words) := ⟨rfl, rfl, rfl, by decide +kernel, rfl, by decide +kernel, by decide +kernel⟩
theorem d_law_words {s_law_draw s_law_one_name : DSpec} {k : Nat} (h_law_draw : HasG GI P w K mg base k "_law_draw" 2 s_law_draw) (h_law_one_name : HasG GI P w K mg base k "_law_one_name" 4 s_law_one_name) (m_range : mg "range" = none) (m_len : mg "len" = none) {cdv : Value} {A : Around} {outer : List Env} {s : Shared} {H : Hp} {E : XK} {f : Addr} (hr : Room k (A.deeper (envOfC "_law_words" (defScope t_law_words) s.heap.objs.size f cdv))) :
    CSs GI (cxOf (L2.CX P w) P w K mg base ["spring", "size", "letters", "barred", "way", "signs", "step", "base", "found", "k", "name", "number"] "_law_words" (defScope t_law_words) f cdv A outer s H E) (defBody t_law_words) (b_law_words s_law_draw s_law_one_name) := by
  have r0 := hr.mono (Nat.zero_le k)
  have nd := sc_law_words.nd
  exact (css_cons (cs_asg 2 ce_str)
  (css_cons (cs_asg 3 (ce_lst false (ca_cons ce_str (ca_cons ce_str (ca_cons ce_str (ca_cons ce_str (ca_cons ce_str (ca_cons ce_str (ca_cons ce_str (ca_cons ce_str (ca_cons ce_str (ca_cons ce_str (ca_cons ce_str (ca_cons ce_str (ca_cons ce_str (ca_cons ce_str ca_nil))))))))))))))))
  (css_cons (cs_asg 4 (ce_call h_law_draw hr (ca_cons (ce_var 0) (ca_cons ce_int ca_nil))))
  (css_cons (cs_asg 5 (ce_join ce_str (ca_cons (ce_comp false [("step", 6)] nd rfl (ci_range1 m_range (ca_cons (ce_add false ce_int (ce_call h_law_draw hr (ca_cons (ce_var 0) (ca_cons ce_int ca_nil)))) ca_nil)) (blkOk_by (N := ["spring", "size", "letters", "barred", "way", "signs", "step", "base", "found", "k", "name", "number"]) (sc := defScope t_law_words) (own := [("step", 6)]) (by decide +kernel)) (fun _ _ _ _ _ => (cg_name 6)) (fun _ _ _ _ _ => cts_nil) (fun _ _ _ _ _ => (ce_idx r0 (ce_var 2) (ce_call h_law_draw hr (ca_cons (ce_var 0) (ca_cons ce_int ca_nil)))))) ca_nil)))
  (css_cons (cs_asg 7 (ce_tup (ca_cons (ce_var 5) (ca_cons (ce_call h_law_draw hr (ca_cons (ce_var 0) (ca_cons (ce_add false (ce_len m_len (ca_cons (ce_var 5) ca_nil)) ce_int) ca_nil))) (ca_cons (ce_call h_law_draw hr (ca_cons (ce_var 0) (ca_cons ce_int ca_nil))) ca_nil)))))
  (css_cons (cs_asg 8 (ce_lst true ca_nil))
  (css_cons (cs_for [9] rfl (ci_range1 m_range (ca_cons (ce_var 1) ca_nil)) (cg_name 9) (css_cons (cs_asg 10 (ce_call h_law_one_name hr (ca_cons (ce_var 0) (ca_cons (ce_var 4) (ca_cons (ce_var 7) (ca_cons (ce_var 9) ca_nil))))))
  (css_cons (cs_for [11] rfl (ci_range1 m_range (ca_cons ce_int ca_nil)) (cg_name 11) (css_one (cs_if (cw_or (ct_in r0 (ce_var 10) (ce_var 8)) (cw_or1 (ct_in r0 (ce_var 10) (ce_var 3)))).ct (css_one (cs_asg 10 (ce_add false (ce_add false ce_str (ce_idx r0 (ce_var 2) (ce_var 9))) (ce_idx r0 (ce_var 2) (ce_var 11))))) css_nil)))
  (css_one (cs_expr (ce_append (ce_var 8) (ca_cons (ce_var 10) ca_nil)))))))
  (css_one (cs_ret (ce_frz (ce_var 8)))))))))))

abbrev t_law_size : Stmt := topS 12
theorem sc_law_size : FnScope ["spring", "few"] ["spring", "few"] (defScope t_law_size) := ⟨rfl, rfl, rfl, by decide +kernel, rfl, by decide +kernel, by decide +kernel⟩
theorem d_law_size {s_law_draw : DSpec} {k : Nat} (h_law_draw : HasG GI P w K mg base k "_law_draw" 2 s_law_draw) {cdv : Value} {A : Around} {outer : List Env} {s : Shared} {H : Hp} {E : XK} {f : Addr} (hr : Room k (A.deeper (envOfC "_law_size" (defScope t_law_size) s.heap.objs.size f cdv))) :
    CSs GI (cxOf (L2.CX P w) P w K mg base ["spring", "few"] "_law_size" (defScope t_law_size) f cdv A outer s H E) (defBody t_law_size) (b_law_size s_law_draw) := by
  have r0 := hr.mono (Nat.zero_le k)
  have nd := sc_law_size.nd
  exact (css_one (cs_ret (ce_idx r0 (ce_lst false (ca_cons (ce_add false ce_int (ce_call h_law_draw hr (ca_cons (ce_var 0) (ca_cons (ce_var 1) ca_nil)))) (ca_cons (ce_add false ce_int (ce_call h_law_draw hr (ca_cons (ce_var 0) (ca_cons ce_int ca_nil)))) ca_nil))) (ce_fdiv (ce_call h_law_draw hr (ca_cons (ce_var 0) (ca_cons ce_int ca_nil))) ce_int))))

abbrev t_law_worth : Stmt := topS 13
theorem sc_law_worth : FnScope ["spring", "marks", "few", "base", "view"] ["spring", "marks"] (defScope t_law_worth) := ⟨rfl, rfl, rfl, by decide +kernel, rfl, by decide +kernel, by decide +kernel⟩
theorem d_law_worth {s_law_draw s_law_views s_law_built : DSpec} {k : Nat} (h_law_draw : HasG GI P w K mg base k "_law_draw" 2 s_law_draw) (h_law_views : HasG GI P w K mg base k "_law_views" 1 s_law_views) (h_law_built : HasG GI P w K mg base k "_law_built" 2 s_law_built) {cdv : Value} {A : Around} {outer : List Env} {s : Shared} {H : Hp} {E : XK} {f : Addr} (hr : Room k (A.deeper (envOfC "_law_worth" (defScope t_law_worth) s.heap.objs.size f cdv))) :
    CSs GI (cxOf (L2.CX P w) P w K mg base ["spring", "marks", "few", "base", "view"] "_law_worth" (defScope t_law_worth) f cdv A outer s H E) (defBody t_law_worth) (b_law_worth s_law_draw s_law_views s_law_built) := by
  have r0 := hr.mono (Nat.zero_le k)
  have nd := sc_law_worth.nd
  exact (css_cons (cs_asg 2 (ce_idx r0 (ce_lst false (ca_cons ce_int (ca_cons ce_int (ca_cons ce_int (ca_cons ce_int (ca_cons ce_int (ca_cons ce_int ca_nil))))))) (ce_call h_law_draw hr (ca_cons (ce_var 0) (ca_cons ce_int ca_nil)))))
  (css_cons (cs_asg 3 (ce_call h_law_draw hr (ca_cons (ce_var 0) (ca_cons (ce_idx r0 (ce_lst false (ca_cons ce_int (ca_cons ce_int (ca_cons ce_int ca_nil)))) (ce_call h_law_draw hr (ca_cons (ce_var 0) (ca_cons ce_int ca_nil)))) ca_nil))))
  (css_one (cs_ret (ce_call h_law_built hr (ca_cons (ce_var 1) (ca_cons (ce_comp false [("view", 4)] nd rfl (ci_any (ce_call h_law_views hr (ca_cons (ce_var 1) ca_nil))) (blkOk_by (N := ["spring", "marks", "few", "base", "view"]) (sc := defScope t_law_worth) (own := [("view", 4)]) (by decide +kernel)) (fun _ _ _ _ _ => (cg_name 4)) (fun _ _ _ _ _ => cts_nil) (fun _ _ _ _ _ => (ce_mod (ce_add false (ce_var 3) (ce_call h_law_draw hr (ca_cons (ce_var 0) (ca_cons (ce_var 2) ca_nil)))) ce_int))) ca_nil)))))))

abbrev t_law_there : Stmt := topS 14
theorem sc_law_there : FnScope ["spring", "marks", "numbers", "view", "number"] ["spring", "marks"] (defScope t_law_there) := ⟨rfl, rfl, rfl, by decide +kernel, rfl, by decide +kernel, by decide +kernel⟩
theorem d_law_there {s_law_views s_law_draw s_law_built : DSpec} {k : Nat} (h_law_views : HasG GI P w K mg base k "_law_views" 1 s_law_views) (h_law_draw : HasG GI P w K mg base k "_law_draw" 2 s_law_draw) (h_law_built : HasG GI P w K mg base k "_law_built" 2 s_law_built) (m_int : mg "int" = none) {cdv : Value} {A : Around} {outer : List Env} {s : Shared} {H : Hp} {E : XK} {f : Addr} (hr : Room k (A.deeper (envOfC "_law_there" (defScope t_law_there) s.heap.objs.size f cdv))) :
    CSs GI (cxOf (L2.CX P w) P w K mg base ["spring", "marks", "numbers", "view", "number"] "_law_there" (defScope t_law_there) f cdv A outer s H E) (defBody t_law_there) (b_law_there s_law_views s_law_draw s_law_built) := by
  have r0 := hr.mono (Nat.zero_le k)
  have nd := sc_law_there.nd
  exact (css_cons (cs_setcomp false 2 [("view", 3)] nd rfl (ci_any (ce_call h_law_views hr (ca_cons (ce_var 1) ca_nil))) (blkOk_by (N := ["spring", "marks", "numbers", "view", "number"]) (sc := defScope t_law_there) (own := [("view", 3)]) (by decide +kernel)) (fun _ _ _ _ _ => (cg_name 3)) (fun _ _ _ _ _ => cts_nil) (fun _ _ _ _ _ => (ce_intc m_int (ca_cons (ce_gt (ce_call h_law_draw hr (ca_cons (ce_var 0) (ca_cons ce_int ca_nil))) ce_int) ca_nil))))
  (css_cons (cs_if (ct_ni r0 ce_int (ce_var 2)) (css_one (cs_setcomp false 2 [("number", 4)] nd rfl (ci_any (ce_var 2)) (blkOk_by (N := ["spring", "marks", "numbers", "view", "number"]) (sc := defScope t_law_there) (own := [("number", 4)]) (by decide +kernel)) (fun _ _ _ _ _ => (cg_name 4)) (fun _ _ _ _ _ => cts_nil) (fun _ _ _ _ _ => ce_int))) css_nil)
  (css_one (cs_ret (ce_call h_law_built hr (ca_cons (ce_var 1) (ca_cons (ce_var 2) ca_nil)))))))

abbrev t_law_state : Stmt := topS 15
theorem sc_law_state : FnScope ["spring", "words", "marks", "held", "sheets", "name", "worth", "size", "some", "k"] ["spring", "words", "marks"] (defScope t_law_state) := ⟨rfl, rfl, rfl, by decide +kernel, rfl, by decide +kernel, by decide +kernel⟩
theorem d_law_state {s_law_worth s_law_draw s_law_there : DSpec} {k : Nat} (h_law_worth : HasG GI P w K mg base k "_law_worth" 2 s_law_worth) (h_law_draw : HasG GI P w K mg base k "_law_draw" 2 s_law_draw) (h_law_there : HasG GI P w K mg base k "_law_there" 2 s_law_there) (m_sorted : mg "sorted" = none) (m_range : mg "range" = none) {cdv : Value} {A : Around} {outer : List Env} {s : Shared} {H : Hp} {E : XK} {f : Addr} (hr : Room k (A.deeper (envOfC "_law_state" (defScope t_law_state) s.heap.objs.size f cdv))) :
    CSs GI (cxOf (L2.CX P w) P w K mg base ["spring", "words", "marks", "held", "sheets", "name", "worth", "size", "some", "k"] "_law_state" (defScope t_law_state) f cdv A outer s H E) (defBody t_law_state) (b_law_state s_law_worth s_law_draw s_law_there) := by
  have r0 := hr.mono (Nat.zero_le k)
  have nd := sc_law_state.nd
  exact (css_cons (cs_asg 3 (ce_lst true ca_nil))
  (css_cons (cs_asg 4 (ce_lst true ca_nil))
  (css_cons (cs_for [5] rfl (ci_any (ce_sorted false m_sorted (ca_cons (ce_var 1) ca_nil))) (cg_name 5) (css_cons (cs_asg 6 (ce_call h_law_worth hr (ca_cons (ce_var 0) (ca_cons (ce_var 2) ca_nil))))
  (css_cons (cs_if (cw_and (ct_eq r0 (ce_call h_law_draw hr (ca_cons (ce_var 0) (ca_cons ce_int ca_nil))) ce_int) (cw_and1 (ct_ne r0 (ce_var 6) ce_int))).ct (css_one (cs_expr (ce_append (ce_var 3) (ca_cons (ce_tup (ca_cons (ce_var 5) (ca_cons (ce_var 6) ca_nil))) ca_nil)))) css_nil)
  (css_cons (cs_asg 7 (ce_mul false (ce_idx r0 (ce_lst false (ca_cons ce_int (ca_cons ce_int (ca_cons ce_int (ca_cons ce_int (ca_cons ce_int (ca_cons ce_int (ca_cons ce_int (ca_cons ce_int ca_nil))))))))) (ce_call h_law_draw hr (ca_cons (ce_var 0) (ca_cons ce_int ca_nil)))) (ce_call h_law_draw hr (ca_cons (ce_var 0) (ca_cons ce_int ca_nil)))))
  (css_cons (cs_asg 8 (ce_lst true ca_nil))
  (css_cons (cs_for [9] rfl (ci_range1 m_range (ca_cons (ce_var 7) ca_nil)) (cg_name 9) (css_one (cs_expr (ce_append (ce_var 8) (ca_cons (ce_tup (ca_cons (ce_call h_law_there hr (ca_cons (ce_var 0) (ca_cons (ce_var 2) ca_nil))) (ca_cons (ce_call h_law_worth hr (ca_cons (ce_var 0) (ca_cons (ce_var 2) ca_nil))) (ca_cons (ce_call h_law_worth hr (ca_cons (ce_var 0) (ca_cons (ce_var 2) ca_nil))) ca_nil)))) ca_nil)))))
  (css_one (cs_if (ct_ne r0 (ce_var 8) (ce_lst false ca_nil)) (css_one (cs_expr (ce_append (ce_var 4) (ca_cons (ce_tup (ca_cons (ce_var 5) (ca_cons (ce_frz (ce_var 8)) ca_nil))) ca_nil)))) css_nil))))))))
  (css_one (cs_ret (ce_tup (ca_cons (ce_frz (ce_var 3)) (ca_cons (ce_frz (ce_var 4)) ca_nil))))))))

abbrev t_law_marks : Stmt := topS 16
theorem sc_law_marks : FnScope ["spring", "most", "found", "size", "mark"] ["spring", "most"] (defScope t_law_marks) := ⟨rfl, rfl, rfl, by decide +kernel, rfl, by decide +kernel, by decide +kernel⟩
theorem d_law_marks {s_law_draw : DSpec} {k : Nat} (h_law_draw : HasG GI P w K mg base k "_law_draw" 2 s_law_draw) (m_range : mg "range" = none) (m_len : mg "len" = none) {cdv : Value} {A : Around} {outer : List Env} {s : Shared} {H : Hp} {E : XK} {f : Addr} (hr : Room k (A.deeper (envOfC "_law_marks" (defScope t_law_marks) s.heap.objs.size f cdv))) :
    CSs GI (cxOf (L2.CX P w) P w K mg base ["spring", "most", "found", "size", "mark"] "_law_marks" (defScope t_law_marks) f cdv A outer s H E) (defBody t_law_marks) (b_law_marks s_law_draw) := by
  have r0 := hr.mono (Nat.zero_le k)
  have nd := sc_law_marks.nd
  exact (css_cons (cs_asg 2 (ce_lst true ca_nil))
  (css_cons (cs_asg 3 (ce_call h_law_draw hr (ca_cons (ce_var 0) (ca_cons (ce_add false (ce_var 1) ce_int) ca_nil))))
  (css_cons (cs_for [4] rfl (ci_range1 m_range (ca_cons ce_int ca_nil)) (cg_name 4) (css_one (cs_if (ct_lt (ce_call h_law_draw hr (ca_cons (ce_var 0) (ca_cons (ce_sub ce_int (ce_var 4)) ca_nil))) (ce_sub (ce_var 3) (ce_len m_len (ca_cons (ce_var 2) ca_nil)))) (css_one (cs_expr (ce_append (ce_var 2) (ca_cons (ce_var 4) ca_nil)))) css_nil)))
  (css_one (cs_ret (ce_frz (ce_var 2)))))))

abbrev t_law_seen : Stmt := topS 17
theorem sc_law_seen : FnScope ["worth", "view"] ["worth", "view"] (defScope t_law_seen) := ⟨rfl, rfl, rfl, by decide +kernel, rfl, by decide +kernel, by decide +kernel⟩
theorem d_law_seen {s_law_seen : DSpec} {k : Nat} (h_law_seen : HasG GI P w K mg base k "_law_seen" 2 s_law_seen) (m_tuple : mg "tuple" = none) (m_isinstance : mg "isinstance" = none) {cdv : Value} {A : Around} {outer : List Env} {s : Shared} {H : Hp} {E : XK} {f : Addr} (hr : Room k (A.deeper (envOfC "_law_seen" (defScope t_law_seen) s.heap.objs.size f cdv))) :
    CSs GI (cxOf (L2.CX P w) P w K mg base ["worth", "view"] "_law_seen" (defScope t_law_seen) f cdv A outer s H E) (defBody t_law_seen) (b_law_seen s_law_seen) := by
  have r0 := hr.mono (Nat.zero_le k)
  have nd := sc_law_seen.nd
  exact (css_cons (cs_if (ct_not (ct_val (ce_isi m_isinstance (ca_cons (ce_var 0) (ca_cons (ce_bty m_tuple) ca_nil))))) (css_one (cs_ret (ce_var 0))) css_nil)
  (css_one (cs_ret (ce_call h_law_seen hr (ca_cons (ce_if (ct_in r0 (ce_idx r0 (ce_var 0) ce_int) (ce_var 1)) (ce_idx r0 (ce_var 0) ce_int) (ce_idx r0 (ce_var 0) ce_int)) (ca_cons (ce_var 1) ca_nil))))))

abbrev t_law_seen_state : Stmt := topS 18
theorem sc_law_seen_state : FnScope ["held", "sheets", "view", "ones", "name", "worth", "found", "some", "own", "row", "one"] ["held", "sheets", "view"] (defScope t_law_seen_state) := ⟨rfl, rfl, rfl, by decide +kernel, rfl, by decide +kernel, by decide +kernel⟩
theorem d_law_seen_state {s_law_seen : DSpec} {k : Nat} (h_law_seen : HasG GI P w K mg base k "_law_seen" 2 s_law_seen) {cdv : Value} {A : Around} {outer : List Env} {s : Shared} {H : Hp} {E : XK} {f : Addr} (hr : Room k (A.deeper (envOfC "_law_seen_state" (defScope t_law_seen_state) s.heap.objs.size f cdv))) :
    CSs GI (cxOf (L2.CX P w) P w K mg base ["held", "sheets", "view", "ones", "name", "worth", "found", "some", "own", "row", "one"] "_law_seen_state" (defScope t_law_seen_state) f cdv A outer s H E) (defBody t_law_seen_state) (b_law_seen_state s_law_seen) := by
  have r0 := hr.mono (Nat.zero_le k)
  have nd := sc_law_seen_state.nd
  exact (css_cons (cs_setcomp false 3 [("name", 4), ("worth", 5)] nd rfl (ci_any (ce_var 0)) (blkOk_by (N := ["held", "sheets", "view", "ones", "name", "worth", "found", "some", "own", "row", "one"]) (sc := defScope t_law_seen_state) (own := [("name", 4), ("worth", 5)]) (by decide +kernel)) (fun _ _ _ _ _ => (cg_tup 2 rfl (cgs_cons (cg_name 4) (cgs_cons (cg_name 5) cgs_nil)))) (fun _ _ _ _ _ => cts_nil) (fun _ _ _ _ _ => (ce_tup (ca_cons (ce_var 4) (ca_cons (ce_call h_law_seen hr (ca_cons (ce_var 5) (ca_cons (ce_var 2) ca_nil))) ca_nil)))))
  (css_cons (cs_asg 6 (ce_lst true ca_nil))
  (css_cons (cs_for [4, 7] rfl (ci_any (ce_var 1)) (cg_tup 2 rfl (cgs_cons (cg_name 4) (cgs_cons (cg_name 7) cgs_nil))) (css_cons (cs_setcomp false 8 [("row", 9)] nd rfl (ci_any (ce_var 7)) (blkOk_by (N := ["held", "sheets", "view", "ones", "name", "worth", "found", "some", "own", "row", "one"]) (sc := defScope t_law_seen_state) (own := [("row", 9)]) (by decide +kernel)) (fun _ _ _ _ _ => (cg_name 9)) (fun _ _ _ _ _ => (cts_one (ct_eq r0 (ce_call h_law_seen hr (ca_cons (ce_idx r0 (ce_var 9) ce_int) (ca_cons (ce_var 2) ca_nil))) ce_int))) (fun _ _ _ _ _ => (ce_var 9)))
  (css_one (cs_if (ct_ne r0 (ce_var 8) (ce_lst false ca_nil)) (css_one (cs_expr (ce_append (ce_var 6) (ca_cons (ce_tup (ca_cons (ce_var 4) (ca_cons (ce_comp false [("row", 9)] nd rfl (ci_any (ce_var 8)) (blkOk_by (N := ["held", "sheets", "view", "ones", "name", "worth", "found", "some", "own", "row", "one"]) (sc := defScope t_law_seen_state) (own := [("row", 9)]) (by decide +kernel)) (fun _ _ _ _ _ => (cg_name 9)) (fun _ _ _ _ _ => cts_nil) (fun _ _ _ _ _ => (ce_tup (ca_cons (ce_call h_law_seen hr (ca_cons (ce_idx r0 (ce_var 9) ce_int) (ca_cons (ce_var 2) ca_nil))) (ca_cons (ce_call h_law_seen hr (ca_cons (ce_idx r0 (ce_var 9) ce_int) (ca_cons (ce_var 2) ca_nil))) ca_nil))))) ca_nil))) ca_nil)))) css_nil))))
  (css_one (cs_ret (ce_tup (ca_cons (ce_comp false [("one", 10)] nd rfl (ci_any (ce_var 3)) (blkOk_by (N := ["held", "sheets", "view", "ones", "name", "worth", "found", "some", "own", "row", "one"]) (sc := defScope t_law_seen_state) (own := [("one", 10)]) (by decide +kernel)) (fun _ _ _ _ _ => (cg_name 10)) (fun _ _ _ _ _ => (cts_one (ct_ne r0 (ce_idx r0 (ce_var 10) ce_int) ce_int))) (fun _ _ _ _ _ => (ce_var 10))) (ca_cons (ce_frz (ce_var 6)) ca_nil))))))))

abbrev t_law_same : Stmt := topS 19
theorem sc_law_same : FnScope ["found", "due", "one", "other"] ["found", "due"] (defScope t_law_same) := ⟨rfl, rfl, rfl, by decide +kernel, rfl, by decide +kernel, by decide +kernel⟩
theorem d_law_same {s_law_same : DSpec} {k : Nat} (h_law_same : HasG GI P w K mg base k "_law_same" 2 s_law_same) (m_list : mg "list" = none) (m_tuple : mg "tuple" = none) (m_isinstance : mg "isinstance" = none) (m_len : mg "len" = none) (m_zip : mg "zip" = none) (m_all : mg "all" = none) (m_bool : mg "bool" = none) {cdv : Value} {A : Around} {outer : List Env} {s : Shared} {H : Hp} {E : XK} {f : Addr} (hr : Room k (A.deeper (envOfC "_law_same" (defScope t_law_same) s.heap.objs.size f cdv))) :
    CSs GI (cxOf (L2.CX P w) P w K mg base ["found", "due", "one", "other"] "_law_same" (defScope t_law_same) f cdv A outer s H E) (defBody t_law_same) (b_law_same s_law_same) := by
  have r0 := hr.mono (Nat.zero_le k)
  have nd := sc_law_same.nd
  exact (css_cons (cs_if (ct_val (ce_isi m_isinstance (ca_cons (ce_var 1) (ca_cons (ce_tup (ca_cons (ce_bty m_list) (ca_cons (ce_bty m_tuple) ca_nil))) ca_nil)))) (css_cons (cs_if (cw_or (ct_ne r0 (ce_isi m_isinstance (ca_cons (ce_var 0) (ca_cons (ce_bty m_list) ca_nil))) (ce_isi m_isinstance (ca_cons (ce_var 1) (ca_cons (ce_bty m_list) ca_nil)))) (cw_or1 (ct_ne r0 (ce_isi m_isinstance (ca_cons (ce_var 0) (ca_cons (ce_bty m_tuple) ca_nil))) (ce_isi m_isinstance (ca_cons (ce_var 1) (ca_cons (ce_bty m_tuple) ca_nil)))))).ct (css_one (cs_ret ce_bl)) css_nil)
  (css_one (cs_ret (ce_and (ce_eq r0 (ce_len m_len (ca_cons (ce_var 0) ca_nil)) (ce_len m_len (ca_cons (ce_var 1) ca_nil))) (ce_bone (ce_all rfl m_all (ca_cons (ce_comp false [("one", 2), ("other", 3)] nd rfl (ci_zip m_zip (ca_cons (ce_var 0) (ca_cons (ce_var 1) ca_nil))) (blkOk_by (N := ["found", "due", "one", "other"]) (sc := defScope t_law_same) (own := [("one", 2), ("other", 3)]) (by decide +kernel)) (fun _ _ _ _ _ => (cg_tup 2 rfl (cgs_cons (cg_name 2) (cgs_cons (cg_name 3) cgs_nil)))) (fun _ _ _ _ _ => cts_nil) (fun _ _ _ _ _ => (ce_call h_law_same hr (ca_cons (ce_var 2) (ca_cons (ce_var 3) ca_nil))))) ca_nil))))))) css_nil)
  (css_one (cs_ret (ce_and (ce_eq r0 (ce_isi m_isinstance (ca_cons (ce_var 0) (ca_cons (ce_bty m_bool) ca_nil))) (ce_isi m_isinstance (ca_cons (ce_var 1) (ca_cons (ce_bty m_bool) ca_nil)))) (ce_bone (ce_eq r0 (ce_var 0) (ce_var 1)))))))

abbrev t_law_right : Stmt := topS 20
theorem sc_law_right : FnScope ["told", "view", "due", "said", "there", "worth", "handed", "name", "some", "asked", "found"] ["told", "view"] (defScope t_law_right) := ⟨rfl, rfl, rfl, by decide +kernel, rfl, by decide +kernel, by decide +kernel⟩
theorem d_law_right {s_law_seen_state s_law_seen s_seen_run s_law_same : DSpec} {k : Nat} (h_law_seen_state : HasG GI P w K mg base k "_law_seen_state" 3 s_law_seen_state) (h_law_seen : HasG GI P w K mg base k "_law_seen" 2 s_law_seen) (h_seen_run : HasG GI P w K mg base k "seen_run" 2 s_seen_run) (h_law_same : HasG GI P w K mg base k "_law_same" 2 s_law_same) (m_list : mg "list" = none) {cdv : Value} {A : Around} {outer : List Env} {s : Shared} {H : Hp} {E : XK} {f : Addr} (hr : Room k (A.deeper (envOfC "_law_right" (defScope t_law_right) s.heap.objs.size f cdv))) :
    CSs GI (cxOf (L2.CX P w) P w K mg base ["told", "view", "due", "said", "there", "worth", "handed", "name", "some", "asked", "found"] "_law_right" (defScope t_law_right) f cdv A outer s H E) (defBody t_law_right) (b_law_right s_law_seen_state s_law_seen s_seen_run s_law_same) := by
  have r0 := hr.mono (Nat.zero_le k)
  have nd := sc_law_right.nd
  exact (css_cons (cs_asg 2 (ce_call h_law_seen_state hr (ca_cons (ce_idx r0 (ce_var 0) ce_int) (ca_cons (ce_idx r0 (ce_var 0) ce_int) (ca_cons (ce_var 1) ca_nil)))))
  (css_cons (cs_setcomp false 3 [("there", 4), ("worth", 5)] nd rfl (ci_any (ce_idx r0 (ce_var 0) ce_int)) (blkOk_by (N := ["told", "view", "due", "said", "there", "worth", "handed", "name", "some", "asked", "found"]) (sc := defScope t_law_right) (own := [("there", 4), ("worth", 5)]) (by decide +kernel)) (fun _ _ _ _ _ => (cg_tup 2 rfl (cgs_cons (cg_name 4) (cgs_cons (cg_name 5) cgs_nil)))) (fun _ _ _ _ _ => (cts_one (ct_eq r0 (ce_call h_law_seen hr (ca_cons (ce_var 4) (ca_cons (ce_var 1) ca_nil))) ce_int))) (fun _ _ _ _ _ => (ce_call h_law_seen hr (ca_cons (ce_var 5) (ca_cons (ce_var 1) ca_nil)))))
  (css_cons (cs_asg 6 (ce_tup (ca_cons (ce_listc false rfl m_list (ca_cons (ce_idx r0 (ce_var 0) ce_int) ca_nil)) (ca_cons (ce_comp false [("name", 7), ("some", 8)] nd rfl (ci_any (ce_idx r0 (ce_var 0) ce_int)) (blkOk_by (N := ["told", "view", "due", "said", "there", "worth", "handed", "name", "some", "asked", "found"]) (sc := defScope t_law_right) (own := [("name", 7), ("some", 8)]) (by decide +kernel)) (fun _ _ _ _ _ => (cg_tup 2 rfl (cgs_cons (cg_name 7) (cgs_cons (cg_name 8) cgs_nil)))) (fun _ _ _ _ _ => cts_nil) (fun _ _ _ _ _ => (ce_tup (ca_cons (ce_var 7) (ca_cons (ce_listc false rfl m_list (ca_cons (ce_var 8) ca_nil)) ca_nil))))) (ca_cons (ce_listc false rfl m_list (ca_cons (ce_idx r0 (ce_var 0) ce_int) ca_nil)) (ca_cons (ce_idx r0 (ce_var 0) ce_int) ca_nil))))))
  (css_cons (cs_asg 9 (ce_listc false rfl m_list (ca_cons (ce_var 1) ca_nil)))
  (css_cons (cs_asg 10 (ce_call h_seen_run hr (ca_cons (ce_var 6) (ca_cons (ce_var 9) ca_nil))))
  (css_cons (cs_if (ct_not (ct_val (ce_call h_law_same hr (ca_cons (ce_var 10) (ca_cons (ce_add false (ce_var 2) (ce_tup (ca_cons (ce_var 3) (ca_cons (ce_call h_law_seen hr (ca_cons (ce_idx r0 (ce_var 0) ce_int) (ca_cons (ce_var 1) ca_nil))) ca_nil)))) ca_nil))))) (css_one (cs_ret ce_bl)) css_nil)
  (css_cons (cs_for [8] rfl (ci_any (ce_slice false (ce_var 10) co_none (co_some ce_int))) (cg_name 8) (css_one (cs_expr (ce_append (ce_var 8) (ca_cons (ce_tup (ca_cons ce_str (ca_cons (ce_lst false ca_nil) ca_nil))) ca_nil)))))
  (css_one (cs_ret (ce_and (ce_eq r0 (ce_var 6) (ce_var 0)) (ce_bone (ce_eq r0 (ce_var 9) (ce_var 1)))))))))))))

abbrev t_law : Stmt := topS 21
theorem sc_law : FnScope ["script", "spring", "words", "marks", "held", "sheets", "spoken", "k", "ended", "view", "others", "mark", "turn", "told"] ["script"] (defScope t_law) := ⟨rfl, rfl, rfl, by decide +kernel, rfl, by decide +kernel, by decide +kernel⟩
theorem d_law {s_law_spring s_law_size s_law_words s_law_marks s_law_state s_law_draw s_law_there s_law_worth s_law_views s_law_built s_law_right : DSpec} {k : Nat} (h_law_spring : HasG GI P w K mg base k "_law_spring" 1 s_law_spring) (h_law_size : HasG GI P w K mg base k "_law_size" 2 s_law_size) (h_law_words : HasG GI P w K mg base k "_law_words" 2 s_law_words) (h_law_marks : HasG GI P w K mg base k "_law_marks" 2 s_law_marks) (h_law_state : HasG GI P w K mg base k "_law_state" 3 s_law_state) (h_law_draw : HasG GI P w K mg base k "_law_draw" 2 s_law_draw) (h_law_there : HasG GI P w K mg base k "_law_there" 2 s_law_there) (h_law_worth : HasG GI P w K mg base k "_law_worth" 2 s_law_worth) (h_law_views : HasG GI P w K mg base k "_law_views" 1 s_law_views) (h_law_built : HasG GI P w K mg base k "_law_built" 2 s_law_built) (h_law_right : HasG GI P w K mg base k "_law_right" 2 s_law_right) (m_range : mg "range" = none) (m_all : mg "all" = none) {cdv : Value} {A : Around} {outer : List Env} {s : Shared} {H : Hp} {E : XK} {f : Addr} (hr : Room k (A.deeper (envOfC "law" (defScope t_law) s.heap.objs.size f cdv))) :
    CSs GI (cxOf (L2.CX P w) P w K mg base ["script", "spring", "words", "marks", "held", "sheets", "spoken", "k", "ended", "view", "others", "mark", "turn", "told"] "law" (defScope t_law) f cdv A outer s H E) (defBody t_law) (b_law s_law_spring s_law_size s_law_words s_law_marks s_law_state s_law_draw s_law_there s_law_worth s_law_views s_law_built s_law_right) := by
  have r0 := hr.mono (Nat.zero_le k)
  have nd := sc_law.nd
  exact (css_cons (cs_asg 1 (ce_call h_law_spring hr (ca_cons (ce_var 0) ca_nil)))
  (css_cons (cs_asg 2 (ce_call h_law_words hr (ca_cons (ce_var 1) (ca_cons (ce_sub (ce_call h_law_size hr (ca_cons (ce_var 1) (ca_cons ce_int ca_nil))) ce_int) ca_nil))))
  (css_cons (cs_asg 3 (ce_call h_law_marks hr (ca_cons (ce_var 1) (ca_cons ce_int ca_nil))))
  (css_cons (cs_asgG [4, 5] (ce_call h_law_state hr (ca_cons (ce_var 1) (ca_cons (ce_var 2) (ca_cons (ce_var 3) ca_nil)))) (cg_tup 2 rfl (cgs_cons (cg_name 4) (cgs_cons (cg_name 5) cgs_nil))))
  (css_cons (cs_asg 6 (ce_lst true ca_nil))
  (css_cons (cs_for [7] rfl (ci_range1 m_range (ca_cons (ce_call h_law_draw hr (ca_cons (ce_var 1) (ca_cons ce_int ca_nil))) ca_nil)) (cg_name 7) (css_one (cs_expr (ce_append (ce_var 6) (ca_cons (ce_tup (ca_cons (ce_call h_law_there hr (ca_cons (ce_var 1) (ca_cons (ce_var 3) ca_nil))) (ca_cons (ce_call h_law_worth hr (ca_cons (ce_var 1) (ca_cons (ce_var 3) ca_nil))) ca_nil))) ca_nil)))))
  (css_cons (cs_asg 8 (ce_call h_law_built hr (ca_cons (ce_var 3) (ca_cons (ce_comp false [("view", 9)] nd rfl (ci_any (ce_call h_law_views hr (ca_cons (ce_var 3) ca_nil))) (blkOk_by (N := ["script", "spring", "words", "marks", "held", "sheets", "spoken", "k", "ended", "view", "others", "mark", "turn", "told"]) (sc := defScope t_law) (own := [("view", 9)]) (by decide +kernel)) (fun _ _ _ _ _ => (cg_name 9)) (fun _ _ _ _ _ => cts_nil) (fun _ _ _ _ _ => (ce_call h_law_draw hr (ca_cons (ce_var 1) (ca_cons ce_int ca_nil))))) ca_nil))))
  (css_cons (cs_setcomp false 10 [("turn", 12)] nd rfl (ci_range1 m_range (ca_cons ce_int ca_nil)) (blkOk_by (N := ["script", "spring", "words", "marks", "held", "sheets", "spoken", "k", "ended", "view", "others", "mark", "turn", "told"]) (sc := defScope t_law) (own := [("turn", 12)]) (by decide +kernel)) (fun _ _ _ _ _ => (cg_name 12)) (fun _ _ _ _ _ => cts_nil) (fun _ _ _ _ _ => (ce_comp false [("mark", 11)] nd rfl (ci_range1 m_range (ca_cons ce_int ca_nil)) (blkOk_by (N := ["script", "spring", "words", "marks", "held", "sheets", "spoken", "k", "ended", "view", "others", "mark", "turn", "told"]) (own := [("mark", 11)]) (by rfl)) (fun _ _ _ _ _ => (cg_name 11)) (fun _ _ _ _ _ => (cts_one (ct_eq r0 (ce_call h_law_draw hr (ca_cons (ce_var 1) (ca_cons ce_int ca_nil))) ce_int))) (fun _ _ _ _ _ => (ce_var 11)))))
  (css_cons (cs_asg 13 (ce_tup (ca_cons (ce_var 4) (ca_cons (ce_var 5) (ca_cons (ce_frz (ce_var 6)) (ca_cons (ce_var 8) ca_nil))))))
  (css_one (cs_ret (ce_all rfl m_all (ca_cons (ce_comp false [("view", 9)] nd rfl (ci_any (ce_add false (ce_call h_law_views hr (ca_cons (ce_var 3) ca_nil)) (ce_var 10))) (blkOk_by (N := ["script", "spring", "words", "marks", "held", "sheets", "spoken", "k", "ended", "view", "others", "mark", "turn", "told"]) (sc := defScope t_law) (own := [("view", 9)]) (by decide +kernel)) (fun _ _ _ _ _ => (cg_name 9)) (fun _ _ _ _ _ => cts_nil) (fun _ _ _ _ _ => (ce_call h_law_right hr (ca_cons (ce_var 13) (ca_cons (ce_var 9) ca_nil))))) ca_nil)))))))))))))
end
theorem link {l : PySem.W.OpenLaw} {w : World} {K : PySem.W.Frag} {h : Heap} {mg : Str → Option Value} {fa : Addr} (X : K.In h) (G : h.Ns mainGlobals mg) (hfa : mg "law" = some (.ref fa))
    (q_law_spring : ∃ f fd, DefAt K "_law_spring" "_law_spring" t_law_spring f fd)
    (q_law_draw : ∃ f fd, DefAt K "_law_draw" "_law_draw" t_law_draw f fd)
    (q_law_size : ∃ f fd, DefAt K "_law_size" "_law_size" t_law_size f fd)
    (q_law_one_name : ∃ f fd, DefAt K "_law_one_name" "_law_one_name" t_law_one_name f fd)
    (q_law_words : ∃ f fd, DefAt K "_law_words" "_law_words" t_law_words f fd)
    (q_law_marks : ∃ f fd, DefAt K "_law_marks" "_law_marks" t_law_marks f fd)
    (q_law_views : ∃ f fd, DefAt K "_law_views" "_law_views" t_law_views f fd)
    (q_law_built : ∃ f fd, DefAt K "_law_built" "_law_built" t_law_built f fd)
    (q_law_worth : ∃ f fd, DefAt K "_law_worth" "_law_worth" t_law_worth f fd)
    (q_law_there : ∃ f fd, DefAt K "_law_there" "_law_there" t_law_there f fd)
    (q_law_state : ∃ f fd, DefAt K "_law_state" "_law_state" t_law_state f fd)
    (q_law_seen : ∃ f fd, DefAt K "_law_seen" "_law_seen" t_law_seen f fd)
    (q_law_seen_state : ∃ f fd, DefAt K "_law_seen_state" "_law_seen_state" t_law_seen_state f fd)
    (q_seen_by : ∃ f fd, DefAt K "seen_by" "seen_by" t_seen_by f fd)
    (q_seen_state : ∃ f fd, DefAt K "seen_state" "seen_state" t_seen_state f fd)
    (q_seen_run : ∃ f fd, DefAt K "seen_run" "seen_run" t_seen_run f fd)
    (q_law_same : ∃ f fd, DefAt K "_law_same" "_law_same" t_law_same f fd)
    (q_law_right : ∃ f fd, DefAt K "_law_right" "_law_right" t_law_right f fd)
    (q_law : ∃ f fd, DefAt K "law" "law" t_law f fd)
    (z_abs : PySem.W.nsIn K mainGlobals "abs" = some none)
    (z_all : PySem.W.nsIn K mainGlobals "all" = some none)
    (z_bool : PySem.W.nsIn K mainGlobals "bool" = some none)
    (z_int : PySem.W.nsIn K mainGlobals "int" = some none)
    (z_isinstance : PySem.W.nsIn K mainGlobals "isinstance" = some none)
    (z_len : PySem.W.nsIn K mainGlobals "len" = some none)
    (z_list : PySem.W.nsIn K mainGlobals "list" = some none)
    (z_range : PySem.W.nsIn K mainGlobals "range" = some none)
    (z_sorted : PySem.W.nsIn K mainGlobals "sorted" = some none)
    (z_tuple : PySem.W.nsIn K mainGlobals "tuple" = some none)
    (z_zip : PySem.W.nsIn K mainGlobals "zip" = some none)
    : ∃ fd : FuncData, (∀ (s : Shared) (v : Value), BindsTo s fd ⟨[v], []⟩ [("script", v)]) ∧ ∀ base : Heap, K.In base → base.Ns mainGlobals mg → FnOk l.prog w K mg base (L2.CX l.prog w) 10 fa fd ["script"] (lowSp K (fun _ => True) sp_law) := by
  obtain ⟨f_law_spring, fd_law_spring, q_law_spring⟩ := q_law_spring
  obtain ⟨f_law_draw, fd_law_draw, q_law_draw⟩ := q_law_draw
  obtain ⟨f_law_size, fd_law_size, q_law_size⟩ := q_law_size
  obtain ⟨f_law_one_name, fd_law_one_name, q_law_one_name⟩ := q_law_one_name
  obtain ⟨f_law_words, fd_law_words, q_law_words⟩ := q_law_words
  obtain ⟨f_law_marks, fd_law_marks, q_law_marks⟩ := q_law_marks
  obtain ⟨f_law_views, fd_law_views, q_law_views⟩ := q_law_views
  obtain ⟨f_law_built, fd_law_built, q_law_built⟩ := q_law_built
  obtain ⟨f_law_worth, fd_law_worth, q_law_worth⟩ := q_law_worth
  obtain ⟨f_law_there, fd_law_there, q_law_there⟩ := q_law_there
  obtain ⟨f_law_state, fd_law_state, q_law_state⟩ := q_law_state
  obtain ⟨f_law_seen, fd_law_seen, q_law_seen⟩ := q_law_seen
  obtain ⟨f_law_seen_state, fd_law_seen_state, q_law_seen_state⟩ := q_law_seen_state
  obtain ⟨f_seen_by, fd_seen_by, q_seen_by⟩ := q_seen_by
  obtain ⟨f_seen_state, fd_seen_state, q_seen_state⟩ := q_seen_state
  obtain ⟨f_seen_run, fd_seen_run, q_seen_run⟩ := q_seen_run
  obtain ⟨f_law_same, fd_law_same, q_law_same⟩ := q_law_same
  obtain ⟨f_law_right, fd_law_right, q_law_right⟩ := q_law_right
  obtain ⟨f_law, fd_law, q_law⟩ := q_law
  have hx := hfa.symm.trans (PySem.W.mg_of X G q_law.ns)
  cases hx
  have m_abs := PySem.W.mg_none_of X G z_abs
  have m_all := PySem.W.mg_none_of X G z_all
  have m_bool := PySem.W.mg_none_of X G z_bool
  have m_int := PySem.W.mg_none_of X G z_int
  have m_isinstance := PySem.W.mg_none_of X G z_isinstance
  have m_len := PySem.W.mg_none_of X G z_len
  have m_list := PySem.W.mg_none_of X G z_list
  have m_range := PySem.W.mg_none_of X G z_range
  have m_sorted := PySem.W.mg_none_of X G z_sorted
  have m_tuple := PySem.W.mg_none_of X G z_tuple
  have m_zip := PySem.W.mg_none_of X G z_zip
  have b_law_spring := q_law_spring.fn.binds (ps := ["script"]) fun _ _ _ _ _ _ us hl => match us, hl with | [_], _ => rfl
  have b_law_draw := q_law_draw.fn.binds (ps := ["spring", "many"]) fun _ _ _ _ _ _ us hl => match us, hl with | [_, _], _ => rfl
  have b_law_size := q_law_size.fn.binds (ps := ["spring", "few"]) fun _ _ _ _ _ _ us hl => match us, hl with | [_, _], _ => rfl
  have b_law_one_name := q_law_one_name.fn.binds (ps := ["spring", "way", "base", "k"]) fun _ _ _ _ _ _ us hl => match us, hl with | [_, _, _, _], _ => rfl
  have b_law_words := q_law_words.fn.binds (ps := ["spring", "size"]) fun _ _ _ _ _ _ us hl => match us, hl with | [_, _], _ => rfl
  have b_law_marks := q_law_marks.fn.binds (ps := ["spring", "most"]) fun _ _ _ _ _ _ us hl => match us, hl with | [_, _], _ => rfl
  have b_law_views := q_law_views.fn.binds (ps := ["marks"]) fun _ _ _ _ _ _ us hl => match us, hl with | [_], _ => rfl
  have b_law_built := q_law_built.fn.binds (ps := ["marks", "numbers"]) fun _ _ _ _ _ _ us hl => match us, hl with | [_, _], _ => rfl
  have b_law_worth := q_law_worth.fn.binds (ps := ["spring", "marks"]) fun _ _ _ _ _ _ us hl => match us, hl with | [_, _], _ => rfl
  have b_law_there := q_law_there.fn.binds (ps := ["spring", "marks"]) fun _ _ _ _ _ _ us hl => match us, hl with | [_, _], _ => rfl
  have b_law_state := q_law_state.fn.binds (ps := ["spring", "words", "marks"]) fun _ _ _ _ _ _ us hl => match us, hl with | [_, _, _], _ => rfl
  have b_law_seen := q_law_seen.fn.binds (ps := ["worth", "view"]) fun _ _ _ _ _ _ us hl => match us, hl with | [_, _], _ => rfl
  have b_law_seen_state := q_law_seen_state.fn.binds (ps := ["held", "sheets", "view"]) fun _ _ _ _ _ _ us hl => match us, hl with | [_, _, _], _ => rfl
  have b_seen_by := q_seen_by.fn.binds (ps := ["worth", "view"]) fun _ _ _ _ _ _ us hl => match us, hl with | [_, _], _ => rfl
  have b_seen_state := q_seen_state.fn.binds (ps := ["boxes", "tables", "view"]) fun _ _ _ _ _ _ us hl => match us, hl with | [_, _, _], _ => rfl
  have b_seen_run := q_seen_run.fn.binds (ps := ["told", "view"]) fun _ _ _ _ _ _ us hl => match us, hl with | [_, _], _ => rfl
  have b_law_same := q_law_same.fn.binds (ps := ["found", "due"]) fun _ _ _ _ _ _ us hl => match us, hl with | [_, _], _ => rfl
  have b_law_right := q_law_right.fn.binds (ps := ["told", "view"]) fun _ _ _ _ _ _ us hl => match us, hl with | [_, _], _ => rfl
  have b_law := q_law.fn.binds (ps := ["script"]) fun _ _ _ _ _ _ us hl => match us, hl with | [_], _ => rfl
  refine ⟨fd_law, fun s v => ?_, fun base KB GB => ?_⟩
  · obtain ⟨oc, od, kV, doc, pm, an, cdv, ct, osl, rfl, lk, hcd⟩ := q_law.fn.ex
    exact .of_eq rfl
  have H_law_spring : HasG (fun _ => True) l.prog w K mg base 1 "_law_spring" 1 sp_law_spring :=
    hasG_of X G q_law_spring b_law_spring sc_law_spring rfl (fun ds c E Q h => by repeat (first | (obtain ⟨rfl, _⟩ := h; rfl) | (obtain ⟨_, h⟩ := h))) (fun cdv A outer s H E hr => d_law_spring m_abs hr) (fun ds c E Q h => ok_law_spring h)
  have H_law_draw : HasG (fun _ => True) l.prog w K mg base 1 "_law_draw" 2 sp_law_draw :=
    hasG_of X G q_law_draw b_law_draw sc_law_draw rfl (fun ds c E Q h => by repeat (first | (obtain ⟨rfl, _⟩ := h; rfl) | (obtain ⟨_, h⟩ := h))) (fun cdv A outer s H E hr => d_law_draw  hr) (fun ds c E Q h => ok_law_draw h)
  have H_law_size : HasG (fun _ => True) l.prog w K mg base 2 "_law_size" 2 sp_law_size :=
    hasG_of X G q_law_size b_law_size sc_law_size rfl (fun ds c E Q h => by repeat (first | (obtain ⟨rfl, _⟩ := h; rfl) | (obtain ⟨_, h⟩ := h))) (fun cdv A outer s H E hr => d_law_size (H_law_draw.mono (by omega)) hr) (fun ds c E Q h => ok_law_size h)
  have H_law_one_name : HasG (fun _ => True) l.prog w K mg base 2 "_law_one_name" 4 sp_law_one_name :=
    hasG_of X G q_law_one_name b_law_one_name sc_law_one_name rfl (fun ds c E Q h => by repeat (first | (obtain ⟨rfl, _⟩ := h; rfl) | (obtain ⟨_, h⟩ := h))) (fun cdv A outer s H E hr => d_law_one_name (H_law_draw.mono (by omega)) m_range hr) (fun ds c E Q h => ok_law_one_name h)
  have H_law_words : HasG (fun _ => True) l.prog w K mg base 3 "_law_words" 2 sp_law_words :=
    hasG_of X G q_law_words b_law_words sc_law_words rfl (fun ds c E Q h => by repeat (first | (obtain ⟨rfl, _⟩ := h; rfl) | (obtain ⟨_, h⟩ := h))) (fun cdv A outer s H E hr => d_law_words (H_law_draw.mono (by omega)) (H_law_one_name.mono (by omega)) m_range m_len hr) (fun ds c E Q h => ok_law_words h)
  have H_law_marks : HasG (fun _ => True) l.prog w K mg base 2 "_law_marks" 2 sp_law_marks :=
    hasG_of X G q_law_marks b_law_marks sc_law_marks rfl (fun ds c E Q h => by repeat (first | (obtain ⟨rfl, _⟩ := h; rfl) | (obtain ⟨_, h⟩ := h))) (fun cdv A outer s H E hr => d_law_marks (H_law_draw.mono (by omega)) m_range m_len hr) (fun ds c E Q h => ok_law_marks h)
  have H_law_views : HasG (fun _ => True) l.prog w K mg base 7 "_law_views" 1 (sp_law_views 7) := by
    have R : ∀ n, HasG (fun _ => True) l.prog w K mg base (0 + n) "_law_views" 1 (sp_law_views n) := by
      intro n
      induction n with
      | zero => exact hasG_void X G q_law_views b_law_views rfl void_law_views
      | succ n ih => exact hasG_of X G q_law_views b_law_views sc_law_views rfl (fun ds c E Q h => by repeat (first | (obtain ⟨rfl, _⟩ := h; rfl) | (obtain ⟨_, h⟩ := h))) (fun cdv A outer s H E hr => d_law_views ih hr) (fun ds c E Q h => ok_law_views h)
    exact R 7
  have H_law_built : HasG (fun _ => True) l.prog w K mg base 7 "_law_built" 2 (sp_law_built 7) := by
    have R : ∀ n, HasG (fun _ => True) l.prog w K mg base (0 + n) "_law_built" 2 (sp_law_built n) := by
      intro n
      induction n with
      | zero => exact hasG_void X G q_law_built b_law_built rfl void_law_built
      | succ n ih => exact hasG_of X G q_law_built b_law_built sc_law_built rfl (fun ds c E Q h => by repeat (first | (obtain ⟨rfl, _⟩ := h; rfl) | (obtain ⟨_, h⟩ := h))) (fun cdv A outer s H E hr => d_law_built ih m_len hr) (fun ds c E Q h => ok_law_built h)
    exact R 7
  have H_law_worth : HasG (fun _ => True) l.prog w K mg base 8 "_law_worth" 2 sp_law_worth :=
    hasG_of X G q_law_worth b_law_worth sc_law_worth rfl (fun ds c E Q h => by repeat (first | (obtain ⟨rfl, _⟩ := h; rfl) | (obtain ⟨_, h⟩ := h))) (fun cdv A outer s H E hr => d_law_worth (H_law_draw.mono (by omega)) (H_law_views.mono (by omega)) (H_law_built.mono (by omega)) hr) (fun ds c E Q h => ok_law_worth h)
  have H_law_there : HasG (fun _ => True) l.prog w K mg base 8 "_law_there" 2 sp_law_there :=
    hasG_of X G q_law_there b_law_there sc_law_there rfl (fun ds c E Q h => by repeat (first | (obtain ⟨rfl, _⟩ := h; rfl) | (obtain ⟨_, h⟩ := h))) (fun cdv A outer s H E hr => d_law_there (H_law_views.mono (by omega)) (H_law_draw.mono (by omega)) (H_law_built.mono (by omega)) m_int hr) (fun ds c E Q h => ok_law_there h)
  have H_law_state : HasG (fun _ => True) l.prog w K mg base 9 "_law_state" 3 sp_law_state :=
    hasG_of X G q_law_state b_law_state sc_law_state rfl (fun ds c E Q h => by repeat (first | (obtain ⟨rfl, _⟩ := h; rfl) | (obtain ⟨_, h⟩ := h))) (fun cdv A outer s H E hr => d_law_state (H_law_worth.mono (by omega)) (H_law_draw.mono (by omega)) (H_law_there.mono (by omega)) m_sorted m_range hr) (fun ds c E Q h => ok_law_state h)
  have H_law_seen : HasG (fun _ => True) l.prog w K mg base 7 "_law_seen" 2 (sp_law_seen 7) := by
    have R : ∀ n, HasG (fun _ => True) l.prog w K mg base (0 + n) "_law_seen" 2 (sp_law_seen n) := by
      intro n
      induction n with
      | zero => exact hasG_void X G q_law_seen b_law_seen rfl void_law_seen
      | succ n ih => exact hasG_of X G q_law_seen b_law_seen sc_law_seen rfl (fun ds c E Q h => by repeat (first | (obtain ⟨rfl, _⟩ := h; rfl) | (obtain ⟨_, h⟩ := h))) (fun cdv A outer s H E hr => d_law_seen ih m_tuple m_isinstance hr) (fun ds c E Q h => ok_law_seen h)
    exact R 7
  have H_law_seen_state : HasG (fun _ => True) l.prog w K mg base 8 "_law_seen_state" 3 sp_law_seen_state :=
    hasG_of X G q_law_seen_state b_law_seen_state sc_law_seen_state rfl (fun ds c E Q h => by repeat (first | (obtain ⟨rfl, _⟩ := h; rfl) | (obtain ⟨_, h⟩ := h))) (fun cdv A outer s H E hr => d_law_seen_state (H_law_seen.mono (by omega)) hr) (fun ds c E Q h => ok_law_seen_state h)
  have H_seen_by : HasG (fun _ => True) l.prog w K mg base 1 "seen_by" 2 sp_seen_by :=
    hasG_of X G q_seen_by b_seen_by sc_seen_by rfl (fun ds c E Q h => by repeat (first | (obtain ⟨rfl, _⟩ := h; rfl) | (obtain ⟨_, h⟩ := h))) (fun cdv A outer s H E hr => d_seen_by m_tuple m_isinstance hr) (fun ds c E Q h => ok_seen_by h)
  have H_seen_state : HasG (fun _ => True) l.prog w K mg base 2 "seen_state" 3 sp_seen_state :=
    hasG_of X G q_seen_state b_seen_state sc_seen_state rfl (fun ds c E Q h => by repeat (first | (obtain ⟨rfl, _⟩ := h; rfl) | (obtain ⟨_, h⟩ := h))) (fun cdv A outer s H E hr => d_seen_state (H_seen_by.mono (by omega)) hr) (fun ds c E Q h => ok_seen_state h)
  have H_seen_run : HasG (fun _ => True) l.prog w K mg base 3 "seen_run" 2 sp_seen_run :=
    hasG_of X G q_seen_run b_seen_run sc_seen_run rfl (fun ds c E Q h => by repeat (first | (obtain ⟨rfl, _⟩ := h; rfl) | (obtain ⟨_, h⟩ := h))) (fun cdv A outer s H E hr => d_seen_run (H_seen_state.mono (by omega)) (H_seen_by.mono (by omega)) hr) (fun ds c E Q h => ok_seen_run h)
  have H_law_same : HasG (fun _ => True) l.prog w K mg base 8 "_law_same" 2 (sp_law_same 8) := by
    have R : ∀ n, HasG (fun _ => True) l.prog w K mg base (0 + n) "_law_same" 2 (sp_law_same n) := by
      intro n
      induction n with
      | zero => exact hasG_void X G q_law_same b_law_same rfl void_law_same
      | succ n ih => exact hasG_of X G q_law_same b_law_same sc_law_same rfl (fun ds c E Q h => by repeat (first | (obtain ⟨rfl, _⟩ := h; rfl) | (obtain ⟨_, h⟩ := h))) (fun cdv A outer s H E hr => d_law_same ih m_list m_tuple m_isinstance m_len m_zip m_all m_bool hr) (fun ds c E Q h => ok_law_same h)
    exact R 8
  have H_law_right : HasG (fun _ => True) l.prog w K mg base 9 "_law_right" 2 sp_law_right :=
    hasG_of X G q_law_right b_law_right sc_law_right rfl (fun ds c E Q h => by repeat (first | (obtain ⟨rfl, _⟩ := h; rfl) | (obtain ⟨_, h⟩ := h))) (fun cdv A outer s H E hr => d_law_right (H_law_seen_state.mono (by omega)) (H_law_seen.mono (by omega)) (H_seen_run.mono (by omega)) (H_law_same.mono (by omega)) m_list hr) (fun ds c E Q h => ok_law_right h)
  exact fnok_of q_law.fn sc_law (fun ds c E Q h => by repeat (first | (obtain ⟨rfl, _⟩ := h; rfl) | (obtain ⟨_, h⟩ := h))) (fun cdv A outer s H E hr => d_law (H_law_spring.mono (by omega)) (H_law_size.mono (by omega)) (H_law_words.mono (by omega)) (H_law_marks.mono (by omega)) (H_law_state.mono (by omega)) (H_law_draw.mono (by omega)) (H_law_there.mono (by omega)) (H_law_worth.mono (by omega)) (H_law_views.mono (by omega)) (H_law_built.mono (by omega)) (H_law_right.mono (by omega)) m_range m_all hr) (fun ds c E Q h => ok_law h)
end DL
open PySem PySem.W PyProof.Rows
set_option maxRecDepth 100000 in
set_option maxHeartbeats 0 in
theorem PySem.Challenge.cw_manyfaces_k29_runs_seen_holds : PySem.Challenge.rw_manyfaces_k29_runs_seen.Holds := by
  w_on; o_law; k_head; (case hw => w_witness2)
  k_fill
  refine L2.walk_of (l := PySem.Challenge.rw_manyfaces_k29_runs_seen) (n := 63) (k := 10) (x := "script") (CX := fun w => L2.CX PySem.Challenge.rw_manyfaces_k29_runs_seen.prog w) (sp := fun w => DL.lowSp _ (fun _ => True) DL.sp_law) rfl (by decide) rfl ⟨rfl, by decide, by decide⟩ (fun w h Y => PySem.W.kIn_of Y) ?F (fun _ _ a ns hl _ hS => DL.law_sp hl hS) (fun _ _ _ _ _ h => DL.cx_none h)
  case F =>
    intro w mg fa h KX G hmg
    refine' DL.link KX G hmg ?q_law_spring ?q_law_draw ?q_law_size ?q_law_one_name ?q_law_words ?q_law_marks ?q_law_views ?q_law_built ?q_law_worth ?q_law_there ?q_law_state ?q_law_seen ?q_law_seen_state ?q_seen_by ?q_seen_state ?q_seen_run ?q_law_same ?q_law_right ?q_law ?z_abs ?z_all ?z_bool ?z_int ?z_isinstance ?z_len ?z_list ?z_range ?z_sorted ?z_tuple ?z_zip
    (case q_law_spring => exact DL.defAt_mk (by k_is) (by k_is) (by k_is) (by k_is))
    (case q_law_draw => exact DL.defAt_mk (by k_is) (by k_is) (by k_is) (by k_is))
    (case q_law_size => exact DL.defAt_mk (by k_is) (by k_is) (by k_is) (by k_is))
    (case q_law_one_name => exact DL.defAt_mk (by k_is) (by k_is) (by k_is) (by k_is))
    (case q_law_words => exact DL.defAt_mk (by k_is) (by k_is) (by k_is) (by k_is))
    (case q_law_marks => exact DL.defAt_mk (by k_is) (by k_is) (by k_is) (by k_is))
    (case q_law_views => exact DL.defAt_mk (by k_is) (by k_is) (by k_is) (by k_is))
    (case q_law_built => exact DL.defAt_mk (by k_is) (by k_is) (by k_is) (by k_is))
    (case q_law_worth => exact DL.defAt_mk (by k_is) (by k_is) (by k_is) (by k_is))
    (case q_law_there => exact DL.defAt_mk (by k_is) (by k_is) (by k_is) (by k_is))
    (case q_law_state => exact DL.defAt_mk (by k_is) (by k_is) (by k_is) (by k_is))
    (case q_law_seen => exact DL.defAt_mk (by k_is) (by k_is) (by k_is) (by k_is))
    (case q_law_seen_state => exact DL.defAt_mk (by k_is) (by k_is) (by k_is) (by k_is))
    (case q_seen_by => exact DL.defAt_mk (by k_is) (by k_is) (by k_is) (by k_is))
    (case q_seen_state => exact DL.defAt_mk (by k_is) (by k_is) (by k_is) (by k_is))
    (case q_seen_run => exact DL.defAt_mk (by k_is) (by k_is) (by k_is) (by k_is))
    (case q_law_same => exact DL.defAt_mk (by k_is) (by k_is) (by k_is) (by k_is))
    (case q_law_right => exact DL.defAt_mk (by k_is) (by k_is) (by k_is) (by k_is))
    (case q_law => exact DL.defAt_mk (by k_is) (by k_is) (by k_is) (by k_is))
    (case z_abs => k_is)
    (case z_all => k_is)
    (case z_bool => k_is)
    (case z_int => k_is)
    (case z_isinstance => k_is)
    (case z_len => k_is)
    (case z_list => k_is)
    (case z_range => k_is)
    (case z_sorted => k_is)
    (case z_tuple => k_is)
    (case z_zip => k_is)
