import PyProof.Rows.All
import Wide.All
import OpenK.AllK
import Wide.FinOn
import HandS.ForMost
import HandS.ForExc
import HandS.IsInst
import HandS.Wide
import HandS.SortInts
import HandS.Zip
import KE.KStateDown
import HandS.Defaults
import HandS.Head0
import HandS.Head1
import HandS.Head2
import HandS.HeadHook1
import HandS.HeadHook2
import HandS.HeadHook3
import HandS.HeadHook4
import HandS.HeadWalk
import HandS.Lambda
import HandS.Nested
import HandS.Style
import HandS.FStr
import HandS.SetKeys
import HandS.StrMore
import HandS.Deep
import HandS.More
import HandS.EndTab
import HandS.CallSlots
import HandS.ExcOwn
import HandS.TryOnly
import KE.SortData
import KE.DataEq
import KE.DataMinMax
import HandS.SortKw
import HandS.RaiseMore
import HandS.SetFor
import HandS.Strs
import PyProof.Rows.Range3
import PySem.Challenge.RW_manyfaces_k47_whole_rules_by_numbers_see
set_option Elab.async false
set_option linter.all false
set_option autoImplicit false
set_option maxRecDepth 100000
set_option maxHeartbeats 4000000
/-! the data layer: values as trees, changing things as cells -/
namespace DL
open PySem PySem.Spec L2
open PyProof.Rows hiding St

inductive D where
  | non | bl (b : Bool) | int (i : Int) | str (x : Str) | tup (ds : List D) | lst (ds : List D) | kt (ds : List D) | scr (ns : List Int) | ref (a : Addr) | ty (n : String)

noncomputable instance : DecidableEq D := fun _ _ => Classical.propDecidable _

mutual
inductive DV (K : PySem.W.Frag) (F : Hp) : V → D → Prop
  | non : DV K F .non .non
  | bl (b : Bool) : DV K F (.bl b) (.bl b)
  | int (i : Int) : DV K F (.int i) (.int i)
  | str (x : Str) : DV K F (.str x) (.str x)
  | ref (a : Addr) : DV K F (.ref a) (.ref a)
  | ty (n : String) : DV K F (.ty n) (.ty n)
  | lst {a : Addr} {xs : List V} {ds : List D} : F a = some (.lst xs) → DVs K F xs ds → DV K F (.ref a) (.lst ds)
  | tup {a : Addr} {xs : List V} {ds : List D} : F a = some (.tup xs) → DVs K F xs ds → DV K F (.ref a) (.tup ds)
  | kt {a : Addr} {xs : List V} {ds : List D} : SqT K F a xs → DVs K F xs ds → DV K F (.ref a) (.kt ds)
  | scr {a : Addr} {ns : List Int} : SqL K F a (ns.map V.int) → DV K F (.ref a) (.scr ns)
inductive DVs (K : PySem.W.Frag) (F : Hp) : List V → List D → Prop
  | nil : DVs K F [] []
  | cons {v : V} {vs : List V} {d : D} {ds : List D} : DV K F v d → DVs K F vs ds → DVs K F (v :: vs) (d :: ds)
end

abbrev Le (F G : Hp) : Prop := ∀ a o, F a = some o → G a = some o
theorem Le.rfl' {F : Hp} : Le F F := fun _ _ h => h
theorem Le.trans' {F G H : Hp} (p : Le F G) (q : Le G H) : Le F H := fun a o h => q a o (p a o h)
theorem Le.new {F : Hp} {p : Addr} {o : HO} (h : F p = none) : Le F (upd F p o) := fun a u e => by
  rw [upd_ne (ne_of_none e h)]; exact e
theorem rd_le {F G : Hp} {a : Addr} {u : HO} (l : Le F G) (r : Rd F a u) : Rd G a u := by
  rcases r with r | ⟨o, r⟩
  · exact .inl (l _ _ r)
  · exact .inr ⟨o, l _ _ r⟩
theorem sqT_le {K : PySem.W.Frag} {F G : Hp} {a : Addr} {xs : List V} (l : Le F G) (r : SqT K F a xs) : SqT K G a xs := by
  rcases r with r | r
  · exact .inl (rd_le l r)
  · exact .inr r
theorem sqL_le {K : PySem.W.Frag} {F G : Hp} {a : Addr} {xs : List V} (l : Le F G) (r : SqL K F a xs) : SqL K G a xs := by
  rcases r with r | r
  · exact .inl (rd_le l r)
  · exact .inr r
mutual
theorem DV.le {K : PySem.W.Frag} {F G : Hp} (l : Le F G) : ∀ {v : V} {d : D}, DV K F v d → DV K G v d
  | _, _, .non => .non
  | _, _, .bl b => .bl b
  | _, _, .int i => .int i
  | _, _, .str x => .str x
  | _, _, .ref a => .ref a
  | _, _, .ty n => .ty n
  | _, _, .lst h k => .lst (l _ _ h) (DVs.le l k)
  | _, _, .tup h k => .tup (l _ _ h) (DVs.le l k)
  | _, _, .kt h k => .kt (sqT_le l h) (DVs.le l k)
  | _, _, .scr h => .scr (sqL_le l h)
theorem DVs.le {K : PySem.W.Frag} {F G : Hp} (l : Le F G) : ∀ {v : List V} {d : List D}, DVs K F v d → DVs K G v d
  | _, _, .nil => .nil
  | _, _, .cons h k => .cons (DV.le l h) (DVs.le l k)
end
section
variable {K : PySem.W.Frag} {F : Hp}
theorem DVs.length : ∀ {vs : List V} {ds : List D}, DVs K F vs ds → vs.length = ds.length
  | _, _, .nil => rfl
  | _, _, .cons _ k => by simp [DVs.length k]
theorem DVs.app : ∀ {vs : List V} {ds : List D} {ws : List V} {es : List D}, DVs K F vs ds → DVs K F ws es → DVs K F (vs ++ ws) (ds ++ es)
  | _, _, _, _, .nil, q => q
  | _, _, _, _, .cons h k, q => .cons h (DVs.app k q)
theorem DVs.at : ∀ {vs : List V} {ds : List D} (i : Nat) {d : D}, DVs K F vs ds → ds[i]? = some d → ∃ v, vs[i]? = some v ∧ DV K F v d
  | _, _, _, _, .nil, e => by simp at e
  | _, _, 0, _, .cons h k, e => by simp at e; subst e; exact ⟨_, by simp, h⟩
  | _, _, i + 1, d, .cons h k, e => by
    obtain ⟨v, e1, e2⟩ := DVs.at i (d := d) k (by simpa using e)
    exact ⟨v, by simpa using e1, e2⟩
theorem DVs.at' : ∀ {vs : List V} {ds : List D} (i : Nat) {v : V}, DVs K F vs ds → vs[i]? = some v → ∃ d, ds[i]? = some d ∧ DV K F v d
  | _, _, _, _, .nil, e => by simp at e
  | _, _, 0, _, .cons h k, e => by simp at e; subst e; exact ⟨_, by simp, h⟩
  | _, _, i + 1, d, .cons h k, e => by
    obtain ⟨v, e1, e2⟩ := DVs.at' i (v := d) k (by simpa using e)
    exact ⟨v, by simpa using e1, e2⟩
theorem DVs.take : ∀ {vs : List V} {ds : List D} (n : Nat), DVs K F vs ds → DVs K F (vs.take n) (ds.take n)
  | _, _, 0, _ => by simpa using DVs.nil
  | _, _, _ + 1, .nil => .nil
  | _, _, n + 1, .cons h k => .cons h (DVs.take n k)
theorem DVs.drop : ∀ {vs : List V} {ds : List D} (n : Nat), DVs K F vs ds → DVs K F (vs.drop n) (ds.drop n)
  | _, _, 0, h => h
  | _, _, _ + 1, .nil => .nil
  | _, _, n + 1, .cons h k => DVs.drop n k
theorem DVs.set : ∀ {vs : List V} {ds : List D} {v : V} {d : D} (n : Nat), DV K F v d → DVs K F vs ds → DVs K F (vs.set n v) (ds.set n d)
  | _, _, _, _, _, _, .nil => .nil
  | _, _, _, _, 0, q, .cons h k => .cons q k
  | _, _, _, _, n + 1, q, .cons h k => .cons h (DVs.set n q k)
theorem DVs.ints : ∀ {ns : List Int}, DVs K F (ns.map V.int) (ns.map D.int)
  | [] => .nil
  | n :: r => .cons (.int n) DVs.ints
theorem DVs.one {v : V} {d : D} (h : DV K F v d) : DVs K F [v] [d] := .cons h .nil
theorem DVs.rev : ∀ {vs : List V} {ds : List D}, DVs K F vs ds → DVs K F vs.reverse ds.reverse
  | _, _, .nil => .nil
  | _, _, .cons h k => by simp only [List.reverse_cons]; exact DVs.app (DVs.rev k) (.one h)
theorem DVs.dropLast {vs : List V} {ds : List D} (h : DVs K F vs ds) : DVs K F vs.dropLast ds.dropLast := by
  rw [List.dropLast_eq_take, List.dropLast_eq_take, h.length]; exact h.take _
theorem DVs.erase : ∀ {vs : List V} {ds : List D} (n : Nat), DVs K F vs ds → DVs K F (vs.eraseIdx n) (ds.eraseIdx n)
  | _, _, _, .nil => .nil
  | _, _, 0, .cons _ k => k
  | _, _, n + 1, .cons h k => .cons h (DVs.erase n k)
theorem DVs.rep {vs : List V} {ds : List D} (h : DVs K F vs ds) : ∀ n : Nat, DVs K F (List.replicate n vs).flatten (List.replicate n ds).flatten
  | 0 => .nil
  | n + 1 => by simp only [List.replicate_succ, List.flatten_cons]; exact h.app (DVs.rep h n)
end

/-! ### cells -/
inductive Cell where
  | lst (ds : List D)
  | dK (kvs : List (Key × D))
  | dT (kvs : List (List Key × D))
  | set (S : Int → Bool) (n : Nat)
  | ins (C : Addr) (fs : List (Str × D))
  | xd (fs : List (Str × D))
  | raw (o : HO)
  | fK (w : Obj) (us : List (Key × V)) (kvs : List (Key × D))
  | fT (w : Obj) (us : List (List Key × V)) (kvs : List (List Key × D))
def KD {κ : Type} (K : PySem.W.Frag) (F : Hp) (kvs : List (κ × V)) (eds : List (κ × D)) : Prop := Paired (fun p q => p.1 = q.1 ∧ DV K F p.2 q.2) kvs eds
def CellR (K : PySem.W.Frag) (F : Hp) (o : HO) : Cell → Prop
  | .lst ds => ∃ vs, o = .lst vs ∧ DVs K F vs ds
  | .dK kvs => ∃ us, o = .dK us ∧ KD K F us kvs
  | .dT kvs => ∃ us, o = .dT us ∧ KD K F us kvs
  | .set S n => o = .set S n
  | .ins C fs => ∃ dx us, o = .ins C dx us ∧ KD K F us fs
  | .xd fs => ∃ us, o = .xd us ∧ KD K F us fs
  | .raw u => o = u ∧ ∃ a b, u = .rng a b
  | .fK w us kvs => o = .frz w (.dK us) ∧ KD K F us kvs
  | .fT w us kvs => o = .frz w (.dT us) ∧ KD K F us kvs
abbrev CMap := Addr → Option Cell
def updc (c : CMap) (a : Addr) (k : Cell) : CMap := fun b => if b = a then some k else c b
def delc (c : CMap) (a : Addr) : CMap := fun b => if b = a then none else c b
section
variable {c : CMap} {a b : Addr} {k k' : Cell}
theorem updc_same : updc c a k a = some k := by unfold updc; rw [if_pos rfl]
theorem updc_ne (h : b ≠ a) : updc c a k b = c b := by unfold updc; rw [if_neg h]
theorem updc_updc : updc (updc c a k) a k' = updc c a k' := by funext b; unfold updc; split <;> rfl
theorem delc_same : delc c a a = none := by unfold delc; rw [if_pos rfl]
theorem delc_ne (h : b ≠ a) : delc c a b = c b := by unfold delc; rw [if_neg h]
theorem ne_some_none (h : c a = some k) (h' : c b = none) : a ≠ b := by intro e; subst e; rw [h] at h'; cases h'
theorem ne_none_some (h : c a = none) (h' : c b = some k) : a ≠ b := by intro e; subst e; rw [h] at h'; cases h'
end
abbrev SubC (c c' : CMap) : Prop := ∀ a k, c a = some k → c' a = some k
theorem SubC.rfl' {c : CMap} : SubC c c := fun _ _ h => h
theorem SubC.trans' {a b c : CMap} (p : SubC a b) (q : SubC b c) : SubC a c := fun x k h => q x k (p x k h)
theorem SubC.new {c : CMap} {a : Addr} {k : Cell} (h : c a = none) : SubC c (updc c a k) := fun b u e => by
  rw [updc_ne (ne_some_none e h)]; exact e
theorem SubC.newr {c c' : CMap} {a : Addr} {k : Cell} (s : SubC c c') (h : c a = none) : SubC c (updc c' a k) := fun b u e => by
  rw [updc_ne (ne_some_none e h)]; exact s _ _ e
theorem SubC.del {c c' : CMap} {a : Addr} (s : SubC c c') (h : c a = none) : SubC c (delc c' a) := fun b u e => by
  rw [delc_ne (ne_some_none e h)]; exact s _ _ e
theorem SubC.upd {c c' : CMap} {a : Addr} {k : Cell} (s : SubC c c') : SubC (updc c a k) (updc c' a k) := fun b u e => by
  unfold updc at e ⊢
  split
  · rename_i q; rw [if_pos q] at e; exact e
  · rename_i q; rw [if_neg q] at e; exact s _ _ e

/-- what a write may change -/
def MutC : Option HO → Prop
  | some (.lst _) => True
  | some (.dK _) => True
  | some (.dT _) => True
  | some (.set _ _) => True
  | some (.ins _ _ _) => True
  | some (.frz _ (.dK _)) => True
  | some (.frz _ (.dT _)) => True
  | _ => False
/-- what the heap keeps for ever: a fact that new and changed objects leave as it is -/
structure Glob (GI : Hp → Hp → Prop) : Prop where
  new : ∀ F H p o, GI F H → H p = none → GI F (upd H p o)
  newF : ∀ F H p o, GI F H → F p = none → H p = none → (∀ ps, o ≠ .tbl ps) → GI (upd F p o) (upd H p o)
  wr : ∀ F H p o, GI F H → MutC (H p) → GI F (upd H p o)
  frz : ∀ F H p o, GI F H → F p = none → H p = some o → (∀ ps, o ≠ .tbl ps) → GI (upd F p o) H
theorem glob_true : Glob (fun _ _ => True) := ⟨fun _ _ _ _ _ _ => trivial, fun _ _ _ _ _ _ _ _ => trivial, fun _ _ _ _ _ _ => trivial, fun _ _ _ _ _ _ _ _ => trivial⟩

structure Rep (K : PySem.W.Frag) (GI : Hp → Hp → Prop) (F : Hp) (c : CMap) (H : Hp) : Prop where
  sub : Le F H
  cel : ∀ a k, c a = some k → F a = none ∧ ∃ o, H a = some o ∧ CellR K F o k
  gi : GI F H
  gg : Glob GI
section
variable {K : PySem.W.Frag} {GI : Hp → Hp → Prop} {F F' H : Hp} {c c' : CMap} {p : Addr} {o : HO} {k : Cell} {vs : List V} {ds : List D}
theorem KD.le {κ : Type} {kvs : List (κ × V)} {eds : List (κ × D)} (l : Le F F') (h : KD K F kvs eds) : KD K F' kvs eds := Paired.mapP h fun _ _ q => ⟨q.1, q.2.le l⟩
theorem CellR.le (l : Le F F') (h : CellR K F o k) : CellR K F' o k := by
  cases k with
  | lst ds => obtain ⟨vs, e, q⟩ := h; exact ⟨vs, e, q.le l⟩
  | dK kvs => obtain ⟨vs, e, q⟩ := h; exact ⟨vs, e, KD.le l q⟩
  | dT kvs => obtain ⟨vs, e, q⟩ := h; exact ⟨vs, e, KD.le l q⟩
  | set S n => exact h
  | ins C fs => obtain ⟨dx, vs, e, q⟩ := h; exact ⟨dx, vs, e, KD.le l q⟩
  | xd fs => obtain ⟨vs, e, q⟩ := h; exact ⟨vs, e, KD.le l q⟩
  | raw u => exact h
  | fK w us kvs => exact ⟨h.1, KD.le l h.2⟩
  | fT w us kvs => exact ⟨h.1, KD.le l h.2⟩
theorem Rep.fr (r : Rep K GI F c H) (h : H p = none) : F p = none := by
  cases e : F p with
  | none => rfl
  | some o => rw [r.sub _ _ e] at h; cases h
theorem Rep.frc (r : Rep K GI F c H) (h : H p = none) : c p = none := by
  cases e : c p with
  | none => rfl
  | some k => obtain ⟨_, o, q, _⟩ := r.cel _ _ e; rw [q] at h; cases h
theorem Rep.sub' (r : Rep K GI F c H) (s : SubC c' c) : Rep K GI F c' H := ⟨r.sub, fun a k e => r.cel a k (s a k e), r.gi, r.gg⟩
/-- a new thing that stays -/
theorem Rep.newF (r : Rep K GI F c H) (h : H p = none) (hn : ∀ ps, o ≠ .tbl ps := by intro _ z; cases z) : Rep K GI (upd F p o) c (upd H p o) := by
  have fp := r.fr h
  refine ⟨fun a u e => ?_, fun a k e => ?_, r.gg.newF _ _ _ _ r.gi fp h hn, r.gg⟩
  · by_cases q : a = p
    · subst q; rw [upd_same] at e ⊢; exact e
    · rw [upd_ne q] at e ⊢; exact r.sub _ _ e
  · obtain ⟨e1, u, e2, e3⟩ := r.cel a k e
    have q : a ≠ p := ne_of_none e2 h
    exact ⟨by rw [upd_ne q]; exact e1, u, by rw [upd_ne q]; exact e2, e3.le (Le.new fp)⟩
/-- a new thing that is nobody's -/
theorem Rep.newN (r : Rep K GI F c H) (h : H p = none) : Rep K GI F c (upd H p o) := by
  refine ⟨fun a u e => by rw [upd_ne (ne_of_none (r.sub _ _ e) h)]; exact r.sub _ _ e, fun a k e => ?_, r.gg.new _ _ _ _ r.gi h, r.gg⟩
  obtain ⟨e1, u, e2, e3⟩ := r.cel a k e
  exact ⟨e1, u, by rw [upd_ne (ne_of_none e2 h)]; exact e2, e3⟩
/-- a new cell -/
theorem Rep.newC (r : Rep K GI F c H) (h : H p = none) (q : CellR K F o k) : Rep K GI F (updc c p k) (upd H p o) := by
  have s := r.newN (o := o) h
  refine ⟨s.sub, fun a u e => ?_, s.gi, s.gg⟩
  by_cases z : a = p
  · subst z; rw [updc_same] at e; cases e; exact ⟨r.fr h, o, upd_same, q⟩
  · rw [updc_ne z] at e; exact s.cel a u e
theorem mutC_of {k : Cell} (q : CellR K F o k) (m : Mut (some o)) : MutC (some o) := by
  cases k with
  | lst ds => obtain ⟨vs, rfl, _⟩ := q; trivial
  | dK kvs => obtain ⟨vs, rfl, _⟩ := q; trivial
  | dT kvs => obtain ⟨vs, rfl, _⟩ := q; trivial
  | set S n => obtain rfl := q; trivial
  | ins C fs => obtain ⟨dx, vs, rfl, _⟩ := q; trivial
  | xd fs => obtain ⟨vs, rfl, _⟩ := q; exact m.elim
  | raw u => obtain ⟨rfl, a, b, rfl⟩ := q; exact m.elim
  | fK w us kvs => obtain ⟨rfl, _⟩ := q; exact m.elim
  | fT w us kvs => obtain ⟨rfl, _⟩ := q; exact m.elim
/-- a cell written -/
theorem Rep.wr (r : Rep K GI F c H) {k0 : Cell} (e : c p = some k0) (m : Mut (H p)) (q : CellR K F o k) : Rep K GI F (updc c p k) (upd H p o) := by
  obtain ⟨f0, o0, h0, hc0⟩ := r.cel _ _ e
  refine ⟨fun a u z => ?_, fun a u z => ?_, r.gg.wr _ _ _ _ r.gi (by rw [h0] at m ⊢; exact mutC_of hc0 m), r.gg⟩
  · have n : a ≠ p := ne_of_none z f0
    rw [upd_ne n]; exact r.sub _ _ z
  · by_cases n : a = p
    · subst n; rw [updc_same] at z; cases z; exact ⟨f0, o, upd_same, q⟩
    · rw [updc_ne n] at z
      obtain ⟨e1, u', e2, e3⟩ := r.cel a u z
      exact ⟨e1, u', by rw [upd_ne n]; exact e2, e3⟩
theorem Rep.lst (r : Rep K GI F c H) (e : c p = some (.lst ds)) : ∃ vs, H p = some (.lst vs) ∧ DVs K F vs ds := by
  obtain ⟨_, o, h, vs, e1, e2⟩ := r.cel _ _ e
  exact ⟨vs, by rw [h, e1], e2⟩
theorem Rep.frz (r : Rep K GI F c H) (e : c p = some (.lst ds)) : ∃ F', Le F F' ∧ Rep K GI F' (delc c p) H ∧ DV K F' (.ref p) (.lst ds) := by
  obtain ⟨f0, o, h, vs, e1, e2⟩ := r.cel _ _ e
  subst e1
  have l : Le F (upd F p (.lst vs)) := Le.new f0
  refine ⟨upd F p (.lst vs), l, ⟨fun a u z => ?_, fun a u z => ?_, r.gg.frz _ _ _ _ r.gi f0 h (fun _ z => by cases z), r.gg⟩, .lst upd_same (e2.le l)⟩
  · by_cases n : a = p
    · subst n; rw [upd_same] at z; rw [← z]; exact h
    · rw [upd_ne n] at z; exact r.sub _ _ z
  · by_cases n : a = p
    · subst n; rw [delc_same] at z; cases z
    · rw [delc_ne n] at z
      obtain ⟨g1, u', g2, g3⟩ := r.cel a u z
      exact ⟨by rw [upd_ne n]; exact g1, u', g2, g3.le l⟩
end

section
variable {K : PySem.W.Frag} {GI : Hp → Hp → Prop} {F H : Hp} {c : CMap} {p : Addr} {o : HO} {k k0 : Cell}
/-- a locked dict is let go -/
theorem Rep.unl (r : Rep K GI F c H) (e : c p = some k0) (m : MutC (H p)) (q : CellR K F o k) : Rep K GI F (updc c p k) (upd H p o) := by
  obtain ⟨f0, o0, h0, hc0⟩ := r.cel _ _ e
  refine ⟨fun a u z => ?_, fun a u z => ?_, r.gg.wr _ _ _ _ r.gi m, r.gg⟩
  · have n : a ≠ p := ne_of_none z f0
    rw [upd_ne n]; exact r.sub _ _ z
  · by_cases n : a = p
    · subst n; rw [updc_same] at z; cases z; exact ⟨f0, o, upd_same, q⟩
    · rw [updc_ne n] at z
      obtain ⟨e1, u', e2, e3⟩ := r.cel a u z
      exact ⟨e1, u', by rw [upd_ne n]; exact e2, e3⟩
theorem cell_ntup {vs : List V} (h : CellR K F o k) : o ≠ .tup vs := by
  cases k with
  | lst ds => obtain ⟨_, rfl, _⟩ := h; intro z; cases z
  | dK kvs => obtain ⟨_, rfl, _⟩ := h; intro z; cases z
  | dT kvs => obtain ⟨_, rfl, _⟩ := h; intro z; cases z
  | set S n => obtain rfl := h; intro z; cases z
  | ins C fs => obtain ⟨_, _, rfl, _⟩ := h; intro z; cases z
  | xd fs => obtain ⟨_, rfl, _⟩ := h; intro z; cases z
  | raw u => obtain ⟨rfl, a, b, rfl⟩ := h; intro z; cases z
  | fK w us kvs => obtain ⟨rfl, _⟩ := h; intro z; cases z
  | fT w us kvs => obtain ⟨rfl, _⟩ := h; intro z; cases z
/-- a tuple that stands is known from now on -/
theorem Rep.tupF {vs : List V} (r : Rep K GI F c H) (h : H p = some (.tup vs)) : ∃ F', Le F F' ∧ Rep K GI F' c H ∧ F' p = some (.tup vs) := by
  cases e : F p with
  | some u =>
    have := r.sub _ _ e
    rw [h] at this
    cases this
    exact ⟨F, Le.rfl', r, e⟩
  | none =>
    refine ⟨upd F p (.tup vs), Le.new e, ⟨fun a u z => ?_, fun a u z => ?_, r.gg.frz _ _ _ _ r.gi e h (fun _ z => by cases z), r.gg⟩, upd_same⟩
    · by_cases n : a = p
      · subst n; rw [upd_same] at z; rw [← z]; exact h
      · rw [upd_ne n] at z; exact r.sub _ _ z
    · obtain ⟨g1, u', g2, g3⟩ := r.cel a u z
      have n : a ≠ p := by
        intro y
        subst y
        rw [h] at g2
        cases g2
        exact cell_ntup g3 rfl
      exact ⟨by rw [upd_ne n]; exact g1, u', g2, g3.le (Le.new e)⟩
end
/-! ### the names' values -/
abbrev DEnv := List (Option D)
structure RepE (K : PySem.W.Frag) (F : Hp) (env : DEnv) (σ : St) : Prop where
  len : env.length = σ.length
  val : ∀ (i : Nat) (d : D), env[i]? = some (some d) → ∃ v, σ[i]? = some (some v) ∧ DV K F v d
section
variable {K : PySem.W.Frag} {GI : Hp → Hp → Prop} {F F' H : Hp} {env : DEnv} {σ : St}
theorem RepE.le (l : Le F F') (r : RepE K F env σ) : RepE K F' env σ := ⟨r.len, fun i d e => let ⟨v, h, q⟩ := r.val i d e; ⟨v, h, q.le l⟩⟩
theorem RepE.set (r : RepE K F env σ) {v : V} {d : D} (i : Nat) (q : DV K F v d) : RepE K F (env.set i (some d)) (σ.set i (some v)) := by
  refine ⟨by simpa using r.len, fun j e h => ?_⟩
  by_cases n : i = j
  · subst n
    by_cases l : i < env.length
    · rw [List.getElem?_set_self l] at h
      cases h
      exact ⟨v, by rw [List.getElem?_set_self (by rw [← r.len]; exact l)], q⟩
    · rw [List.set_eq_of_length_le (by omega)] at h
      rw [List.getElem?_eq_none (by omega)] at h
      cases h
  · rw [List.getElem?_set_ne n] at h
    obtain ⟨v', h1, h2⟩ := r.val j e h
    exact ⟨v', by rw [List.getElem?_set_ne n]; exact h1, h2⟩
theorem RepE.clear (r : RepE K F env σ) (i : Nat) {x : Option V} : RepE K F (env.set i none) (σ.set i x) := by
  refine ⟨by simpa using r.len, fun j e h => ?_⟩
  by_cases n : i = j
  · subst n
    by_cases l : i < env.length
    · rw [List.getElem?_set_self l] at h; cases h
    · rw [List.set_eq_of_length_le (by omega)] at h
      rw [List.getElem?_eq_none (by omega)] at h
      cases h
  · rw [List.getElem?_set_ne n] at h
    obtain ⟨v', h1, h2⟩ := r.val j e h
    exact ⟨v', by rw [List.getElem?_set_ne n]; exact h1, h2⟩
def wipeE (env : DEnv) : List Nat → DEnv
  | [] => env
  | v :: vs => (wipeE env vs).set v none
theorem RepE.wipe (r : RepE K F env σ) : ∀ vs : List Nat, RepE K F (wipeE env vs) (wipe σ vs)
  | [] => r
  | v :: vs => (RepE.wipe r vs).clear v
def startE (n : Nat) (ds : List D) : DEnv := ds.map some ++ List.replicate (n - ds.length) none
theorem RepE.start {N : List Str} {vs : List V} {ds : List D} (h : DVs K F vs ds) : RepE K F (startE N.length ds) (start N vs) := by
  have hl := h.length
  unfold startE L2.start
  refine ⟨by simp [hl], fun i d e => ?_⟩
  by_cases q : i < ds.length
  · rw [List.getElem?_append_left (by simpa using q)] at e
    rw [List.getElem?_append_left (by simp [hl]; exact q)]
    simp only [List.getElem?_map] at e ⊢
    cases z : ds[i]? with
    | none => rw [z] at e; cases e
    | some d' =>
      rw [z] at e
      simp at e; subst e
      obtain ⟨v, h1, h2⟩ := h.at i z
      exact ⟨v, by rw [h1]; rfl, h2⟩
  · rw [List.getElem?_append_right (by simpa using q)] at e
    rw [List.getElem?_replicate] at e
    split at e <;> simp at e
end
end DL
/-! the data layer: judgements; expressions -/
namespace DL
open PySem PySem.Spec L2
open PyProof.Rows hiding St

abbrev DK := D → CMap → Prop
abbrev XD := Value → Option Addr → CMap → Prop
abbrev WE := XD → DEnv → CMap → DK → Prop
abbrev WT := XD → DEnv → CMap → (Bool → CMap → Prop) → Prop
abbrev WA := XD → DEnv → CMap → (List D → CMap → Prop) → Prop
structure DEnds where
  nx : DEnv → CMap → Prop
  rt : DK
  bk : DEnv → CMap → Prop := fun _ _ => False
  ct : DEnv → CMap → Prop := fun _ _ => False
  ex : Value → Option Addr → DEnv → CMap → Prop := fun _ _ _ _ => False
abbrev WS := DEnds → DEnv → CMap → Prop

structure XOk (X : Cx) (W : WX) : Prop where
  nd : X.N.Nodup
  tk : Takes X W
  own : PassesOwn (model X.prog X.w) X.A X.env X.xe

section
variable (K : PySem.W.Frag) (GI : Hp → Hp → Prop)
def LX (W : WX) (F : Hp) (σ : St) (E : XD) : Prop := ∀ F' c' H' cls od, Le F F' → Rep K GI F' c' H' → E cls od c' → W cls od σ H'
def LQ (F : Hp) (Qd : DK) (Q : VK) : Prop := ∀ F' c' H' v d, Le F F' → Rep K GI F' c' H' → DV K F' v d → Qd d c' → Q v H'
def lowE (W : WX) (we : WE) : TE := fun σ H Q => ∃ F env c E Qd, RepE K F env σ ∧ Rep K GI F c H ∧ LX K GI W F σ E ∧ we E env c Qd ∧ LQ K GI F Qd Q
def lowT (W : WX) (wt : WT) : TT := fun σ H Q => ∃ F env c E Qd, RepE K F env σ ∧ Rep K GI F c H ∧ LX K GI W F σ E ∧ wt E env c Qd ∧ ∀ F' c' H' b, Le F F' → Rep K GI F' c' H' → Qd b c' → Q b H'
def lowA (W : WX) (wa : WA) : TA := fun σ H Q => ∃ F env c E Qd, RepE K F env σ ∧ Rep K GI F c H ∧ LX K GI W F σ E ∧ wa E env c Qd ∧ ∀ F' c' H' vs ds, Le F F' → Rep K GI F' c' H' → DVs K F' vs ds → Qd ds c' → Q vs H'
structure LS (W : WX) (F : Hp) (DD : DEnds) (Dn : Ends) : Prop where
  nx : ∀ F' env' c' σ' H', Le F F' → RepE K F' env' σ' → Rep K GI F' c' H' → DD.nx env' c' → Dn.nx σ' H'
  rt : ∀ F' c' H' v d, Le F F' → Rep K GI F' c' H' → DV K F' v d → DD.rt d c' → Dn.rt v H'
  bk : ∀ F' env' c' σ' H', Le F F' → RepE K F' env' σ' → Rep K GI F' c' H' → DD.bk env' c' → Dn.bk σ' H'
  ct : ∀ F' env' c' σ' H', Le F F' → RepE K F' env' σ' → Rep K GI F' c' H' → DD.ct env' c' → Dn.ct σ' H'
  ex : ∀ F' env' c' σ' H' cls od, Le F F' → RepE K F' env' σ' → Rep K GI F' c' H' → DD.ex cls od env' c' → W cls od σ' H'
def lowS (W : WX) (ws : WS) : TS := fun Dn σ H => ∃ F env c DD, RepE K F env σ ∧ Rep K GI F c H ∧ ws DD env c ∧ LS K GI W F DD Dn
end
def CE (GI : Hp → Hp → Prop) (X : Cx) (e : Expr) (we : WE) : Prop := ∀ W, XOk X W → PE X e (lowE X.K GI W we)
def CT (GI : Hp → Hp → Prop) (X : Cx) (e : Expr) (wt : WT) : Prop := ∀ W, XOk X W → PT X e (lowT X.K GI W wt)
def CA (GI : Hp → Hp → Prop) (X : Cx) (es : List Expr) (wa : WA) : Prop := ∀ W, XOk X W → PA X es (lowA X.K GI W wa)
def CS (GI : Hp → Hp → Prop) (X : Cx) (st : Stmt) (ws : WS) : Prop := ∀ W, XOk X W → PS X st (lowS X.K GI W ws)
def CSs (GI : Hp → Hp → Prop) (X : Cx) (st : List Stmt) (ws : WS) : Prop := ∀ W, XOk X W → PSs X st (lowS X.K GI W ws)

section
variable {K : PySem.W.Frag} {GI : Hp → Hp → Prop} {W : WX} {F F' H : Hp} {σ : St} {E : XD} {env : DEnv} {c : CMap}
theorem LX.le (l : Le F F') (h : LX K GI W F σ E) : LX K GI W F' σ E := fun G c' H' cls od l' => h G c' H' cls od (l.trans' l')
theorem LQ.le {Qd : DK} {Q : VK} (l : Le F F') (h : LQ K GI F Qd Q) : LQ K GI F' Qd Q := fun G c' H' v d l' => h G c' H' v d (l.trans' l')
theorem LS.le {DD : DEnds} {Dn : Ends} (l : Le F F') (h : LS K GI W F DD Dn) : LS K GI W F' DD Dn :=
  ⟨fun G e' c' s' H' l' => h.nx G e' c' s' H' (l.trans' l'), fun G c' H' v d l' => h.rt G c' H' v d (l.trans' l'), fun G e' c' s' H' l' => h.bk G e' c' s' H' (l.trans' l'),
    fun G e' c' s' H' l' => h.ct G e' c' s' H' (l.trans' l'), fun G e' c' s' H' cls od l' => h.ex G e' c' s' H' cls od (l.trans' l')⟩
/-- a statement's wish of exceptions, for its expressions -/
abbrev exE (DD : DEnds) (env : DEnv) : XD := fun cls od c' => DD.ex cls od env c'
theorem LS.lx {DD : DEnds} {Dn : Ends} (h : LS K GI W F DD Dn) (e : RepE K F env σ) : LX K GI W F σ (exE DD env) := fun G c' H' cls od l r q => h.ex G env c' σ H' cls od l (e.le l) r q
theorem pe_imp {X : Cx} {e : Expr} {t t' : TE} (h : PE X e t) (k : ∀ σ H Q, t' σ H Q → t σ H Q) : PE X e t' := ⟨fun pins s σ H Q I q => h.run pins s σ H Q I (k _ _ _ q)⟩
theorem pt_imp {X : Cx} {e : Expr} {t t' : TT} (h : PT X e t) (k : ∀ σ H Q, t' σ H Q → t σ H Q) : PT X e t' := ⟨fun pins s σ H Q I q => h.run pins s σ H Q I (k _ _ _ q)⟩
theorem pa_imp {X : Cx} {e : List Expr} {t t' : TA} (h : PA X e t) (k : ∀ σ H Q, t' σ H Q → t σ H Q) : PA X e t' := ⟨fun p pins s σ H Q I q => h.run p pins s σ H Q I (k _ _ _ q)⟩
theorem ps_imp {X : Cx} {e : Stmt} {t t' : TS} (h : PS X e t) (k : ∀ Dn σ H, t' Dn σ H → t Dn σ H) : PS X e t' := ⟨fun pins s σ H Dn I q => h.run pins s σ H Dn I (k _ _ _ q)⟩
theorem pss_imp {X : Cx} {e : List Stmt} {t t' : TS} (h : PSs X e t) (k : ∀ Dn σ H, t' Dn σ H → t Dn σ H) : PSs X e t' := ⟨fun pins s σ H Dn I q => h.run pins s σ H Dn I (k _ _ _ q)⟩
end

/-! ### names, constants -/
def getE : DEnv → Nat → Option D
  | [], _ => none
  | x :: _, 0 => x
  | _ :: r, n + 1 => getE r n
theorem getE_at : ∀ {env : DEnv} {i : Nat} {d : D}, getE env i = some d → env[i]? = some (some d)
  | [], _, _, h => by cases h
  | x :: _, 0, d, h => by simp only [getE] at h; simp [h]
  | _ :: r, n + 1, d, h => by simp only [getE] at h; simpa using getE_at h
def wVar (i : Nat) : WE := fun _ env c Q => ∃ d, getE env i = some d ∧ Q d c
def wC (d : D) : WE := fun _ _ c Q => Q d c
section
variable {GI : Hp → Hp → Prop} {X : Cx} {pos : Pos}
theorem ce_var (i : Nat) {x : Str} (hN : X.N[i]? = some x := by rfl) (hv : Vis X.env.scope x := by first | exact Or.inl rfl | exact Or.inr (Or.inl rfl) | exact Or.inr (Or.inr rfl)) (hd : (x == ("__debug__" : Str)) = false := by decide)
    (hcd : (x == ("__classdict__" : Str)) = false := by decide) : CE GI X (.Name x pos) (wVar i) := fun W _ => by
  refine pe_imp (pe_var hN hv hd hcd) ?_
  rintro σ H Q ⟨F, env, c, E, Qd, re, r, lx, ⟨d, h, q⟩, k⟩
  obtain ⟨v, h1, h2⟩ := re.val i d (getE_at h)
  exact ⟨v, h1, k F c H v d Le.rfl' r h2 q⟩
theorem ce_tC {e : Expr} {v : V} {d : D} (h : PE X e (tC v)) (hd : ∀ F, DV X.K F v d) : CE GI X e (wC d) := fun W _ => by
  refine pe_imp h ?_
  rintro σ H Q ⟨F, env, c, E, Qd, re, r, lx, q, k⟩
  exact k F c H v d Le.rfl' r (hd F) q
theorem ce_int {i : Int} {j : Nat} : CE GI X (.Constant (.int i) j pos) (wC (.int i)) := ce_tC pe_int fun _ => .int i
theorem ce_bl {b : Bool} {j : Nat} : CE GI X (.Constant (.bool b) j pos) (wC (.bl b)) := ce_tC pe_bl fun _ => .bl b
theorem ce_non {j : Nat} : CE GI X (.Constant .none j pos) (wC .non) := ce_tC pe_non fun _ => .non
theorem ce_str {x : Str} {j : Nat} : CE GI X (.Constant (.str x) j pos) (wC (.str x)) := ce_tC pe_str fun _ => .str x
/-- a module's constant -/
structure GlD (K : PySem.W.Frag) (mg : Str → Option Value) (x : Str) (d : D) : Prop where
  ex : ∃ v u, mg x = some u ∧ RelV v u ∧ ∀ F, DV K F v d
theorem ce_glob {x : Str} {d : D} (h : GlD X.K X.mg x d) (hg : Gl X x := by rfl) (hd : (x == ("__debug__" : Str)) = false := by decide) : CE GI X (.Name x pos) (wC d) := by
  obtain ⟨v, u, h1, h2, h3⟩ := h.ex
  exact ce_tC (pe_glob hg h1 h2 hd) h3
theorem ce_bty {x : Str} {n : String} (hm : X.mg x = none) (hv : bootBuiltins x = some (.type n) := by decide +kernel) (hg : Gl X x := by rfl) (hn : x ≠ "__name__" := by decide) (hd : (x == ("__debug__" : Str)) = false := by decide) : CE GI X (.Name x pos) (wC (.ty n)) :=
  ce_tC (pe_bltn hg hm hv (v := .ty n) rfl hn hd) fun _ => .ty n
end

/-! ### operators by values -/
abbrev RD2 := CMap → D → D → DK → Prop
def Snd2 (K : PySem.W.Frag) (GI : Hp → Hp → Prop) (r : R2) (R : RD2) : Prop := ∀ (F H : Hp) (c : CMap) (v1 v2 : V) (d1 d2 : D) (Qd : DK) (Q : VK), Rep K GI F c H → DV K F v1 d1 → DV K F v2 d2 → R c d1 d2 Qd → LQ K GI F Qd Q → r v1 v2 H Q
def wOp (R : RD2) (a b : WE) : WE := fun E env c Q => a E env c fun d c1 => b E env c1 fun e c2 => R c2 d e Q
section
variable {GI : Hp → Hp → Prop} {X : Cx} {pos : Pos} {a b : Expr} {wa wb : WE} {r : R2} {R : RD2}
theorem low_op {W : WX} (s : Snd2 X.K GI r R) : ∀ σ H Q, lowE X.K GI W (wOp R wa wb) σ H Q → tOp r (lowE X.K GI W wa) (lowE X.K GI W wb) σ H Q := by
  rintro σ H Q ⟨F, env, c, E, Qd, re, rp, lx, q, k⟩
  refine ⟨F, env, c, E, _, re, rp, lx, q, ?_⟩
  intro F1 c1 H1 v1 d1 l1 r1 h1 q1
  refine ⟨F1, env, c1, E, _, re.le l1, r1, lx.le l1, q1, ?_⟩
  intro F2 c2 H2 v2 d2 l2 r2 h2 q2
  exact s F2 H2 c2 v1 v2 d1 d2 Qd Q r2 (h1.le l2) h2 q2 (LQ.le (l1.trans' l2) k)
theorem ce_op {op : Operator} (ho : OpR X (binaryOp op) r) (s : Snd2 X.K GI r R) (ha : CE GI X a wa) (hb : CE GI X b wb) : CE GI X (.BinOp a op b pos) (wOp R wa wb) := fun W x =>
  pe_imp (pe_op ho (ha W x) (hb W x)) (low_op s)
theorem ce_cmp {op : CmpOp} (ho : OpR X (compareOp op) r) (s : Snd2 X.K GI r R) (ha : CE GI X a wa) (hb : CE GI X b wb) (hm : behindInMarks op b = false := by first | exact nomark _ | rfl) : CE GI X (.Compare a [op] [b] pos) (wOp R wa wb) := fun W x =>
  pe_imp (pe_cmpR ho (ha W x) (hb W x) hm) (low_op s)
end
/-- a value that is True or False -/
def asB : D → CMap → (Bool → CMap → Prop) → Prop
  | .bl b, c, k => k b c
  | _, _, _ => False
def wTst (a : WE) : WT := fun E env c Q => a E env c fun d c' => asB d c' Q
section
variable {GI : Hp → Hp → Prop} {X : Cx} {pos : Pos} {a b : Expr} {wa wb : WE} {r : R2} {R : RD2}
theorem asB_bl {d : D} {c : CMap} {k : Bool → CMap → Prop} (h : asB d c k) : ∃ b, d = .bl b ∧ k b c := by
  cases d <;> first | exact ⟨_, rfl, h⟩ | exact h.elim
theorem low_tst {W : WX} {t : TE} (ht : ∀ σ H Q, lowE X.K GI W wa σ H Q → t σ H Q) : ∀ σ H Q, lowT X.K GI W (wTst wa) σ H Q → (t σ H fun x H' => ∃ k, x = .bl k ∧ Q k H') := by
  rintro σ H Q ⟨F, env, c, E, Qd, re, rp, lx, q, k⟩
  refine ht _ _ _ ⟨F, env, c, E, _, re, rp, lx, q, ?_⟩
  intro F1 c1 H1 v1 d1 l1 r1 h1 q1
  obtain ⟨b, rfl, q2⟩ := asB_bl q1
  cases h1
  exact ⟨b, rfl, k F1 c1 H1 b l1 r1 q2⟩
theorem ct_cmp {op : CmpOp} (ho : OpR X (compareOp op) r) (s : Snd2 X.K GI r R) (ha : CE GI X a wa) (hb : CE GI X b wb) (hm : behindInMarks op b = false := by first | exact nomark _ | rfl) : CT GI X (.Compare a [op] [b] pos) (wTst (wOp R wa wb)) := fun W x =>
  pt_imp (pt_cmpR ho (ha W x) (hb W x) hm) (low_tst (low_op s))
theorem ct_val (ha : CE GI X a wa) (he : ∀ whole, isTrue a X.env whole = (do let v ← whole; standAt a.pos; holding [v] (truthy v)) := by intro _; rfl) : CT GI X a (wTst wa) := fun W x =>
  pt_imp (pt_val (ha W x) he) (low_tst fun _ _ _ h => h)
end
/-! ### and, or, not, if-else -/
def wAnd (s t : WT) : WT := fun E env c Q => s E env c fun b c1 => if b = true then t E env c1 Q else Q false c1
def wOr (s t : WT) : WT := fun E env c Q => s E env c fun b c1 => if b = true then Q true c1 else t E env c1 Q
def wNot (s : WT) : WT := fun E env c Q => s E env c fun b c1 => Q (!b) c1
def wIfE (t : WT) (a b : WE) : WE := fun E env c Q => t E env c fun k c1 => if k = true then a E env c1 Q else b E env c1 Q
def CW (GI : Hp → Hp → Prop) (X : Cx) (e : Expr) (wt : WT) : Prop := ∀ W, XOk X W → PW X e (lowT X.K GI W wt)
section
variable {GI : Hp → Hp → Prop} {X : Cx} {pos : Pos} {a b e : Expr} {rest : List Expr} {s t : WT} {wa wb : WE}
theorem pw_imp {X : Cx} {e : Expr} {t t' : TT} (h : PW X e t) (k : ∀ σ H Q, t' σ H Q → t σ H Q) : PW X e t' := ⟨fun w pins s σ H Q I q => h.run w pins s σ H Q I (k _ _ _ q)⟩
theorem CW.ct (h : CW GI X e t) : CT GI X e t := fun W x => (h W x).pt
theorem cw_and1 (h : CT GI X a t) : CW GI X (.BoolOp .And [a] pos) t := fun W x => pw_and1 (h W x)
theorem cw_or1 (h : CT GI X a t) : CW GI X (.BoolOp .Or [a] pos) t := fun W x => pw_or1 (h W x)
theorem cw_and (h : CT GI X a s) (h2 : CW GI X (.BoolOp .And (b :: rest) pos) t) : CW GI X (.BoolOp .And (a :: b :: rest) pos) (wAnd s t) := fun W x => by
  refine pw_imp (pw_and (h W x) (h2 W x)) ?_
  rintro σ H Q ⟨F, env, c, E, Qd, re, rp, lx, q, k⟩
  refine ⟨F, env, c, E, _, re, rp, lx, q, ?_⟩
  intro F1 c1 H1 b1 l1 r1 q1
  cases b1 with
  | true => rw [if_pos rfl] at q1 ⊢; exact ⟨F1, env, c1, E, Qd, re.le l1, r1, lx.le l1, q1, fun F2 c2 H2 b2 l2 => k F2 c2 H2 b2 (l1.trans' l2)⟩
  | false => rw [if_neg (by decide)] at q1 ⊢; exact k F1 c1 H1 false l1 r1 q1
theorem cw_or (h : CT GI X a s) (h2 : CW GI X (.BoolOp .Or (b :: rest) pos) t) : CW GI X (.BoolOp .Or (a :: b :: rest) pos) (wOr s t) := fun W x => by
  refine pw_imp (pw_or (h W x) (h2 W x)) ?_
  rintro σ H Q ⟨F, env, c, E, Qd, re, rp, lx, q, k⟩
  refine ⟨F, env, c, E, _, re, rp, lx, q, ?_⟩
  intro F1 c1 H1 b1 l1 r1 q1
  cases b1 with
  | false => rw [if_neg (by decide)] at q1 ⊢; exact ⟨F1, env, c1, E, Qd, re.le l1, r1, lx.le l1, q1, fun F2 c2 H2 b2 l2 => k F2 c2 H2 b2 (l1.trans' l2)⟩
  | true => rw [if_pos rfl] at q1 ⊢; exact k F1 c1 H1 true l1 r1 q1
theorem ct_not (h : CT GI X a s) : CT GI X (.UnaryOp .Not a pos) (wNot s) := fun W x => by
  refine pt_imp (pt_not (h W x)) ?_
  rintro σ H Q ⟨F, env, c, E, Qd, re, rp, lx, q, k⟩
  exact ⟨F, env, c, E, _, re, rp, lx, q, fun F1 c1 H1 b1 l1 r1 q1 => k F1 c1 H1 _ l1 r1 q1⟩
theorem ce_if (h : CT GI X e t) (ha : CE GI X a wa) (hb : CE GI X b wb) : CE GI X (.IfExp e a b pos) (wIfE t wa wb) := fun W x => by
  refine pe_imp (pe_ifExp (h W x) (ha W x) (hb W x)) ?_
  rintro σ H Q ⟨F, env, c, E, Qd, re, rp, lx, q, k⟩
  refine ⟨F, env, c, E, _, re, rp, lx, q, ?_⟩
  intro F1 c1 H1 b1 l1 r1 q1
  cases b1 with
  | true => rw [if_pos rfl] at q1 ⊢; exact ⟨F1, env, c1, E, Qd, re.le l1, r1, lx.le l1, q1, k.le l1⟩
  | false => rw [if_neg (by decide)] at q1 ⊢; exact ⟨F1, env, c1, E, Qd, re.le l1, r1, lx.le l1, q1, k.le l1⟩
/-- .. as values -/
def wAndV (a b : WE) : WE := fun E env c Q => a E env c fun d c1 => asB d c1 fun k c2 => if k = true then b E env c2 Q else Q (.bl false) c2
def wOrV (a b : WE) : WE := fun E env c Q => a E env c fun d c1 => asB d c1 fun k c2 => if k = true then Q (.bl true) c2 else b E env c2 Q
def wNotV (a : WE) : WE := fun E env c Q => a E env c fun d c1 => asB d c1 fun k c2 => Q (.bl (!k)) c2
theorem ce_bone {op : BoolOp} (h : CE GI X a wa) : CE GI X (.BoolOp op [a] pos) wa := fun W x => pe_one (h W x)
theorem ce_and (h : CE GI X a wa) (h2 : CE GI X (.BoolOp .And (b :: rest) pos) wb) : CE GI X (.BoolOp .And (a :: b :: rest) pos) (wAndV wa wb) := fun W x => by
  refine pe_imp (pe_and (h W x) (h2 W x)) ?_
  rintro σ H Q ⟨F, env, c, E, Qd, re, rp, lx, q, k⟩
  refine ⟨F, env, c, E, _, re, rp, lx, q, ?_⟩
  intro F1 c1 H1 v1 d1 l1 r1 h1 q1
  obtain ⟨b, rfl, q2⟩ := asB_bl q1
  cases h1
  refine ⟨b, rfl, ?_⟩
  cases b with
  | true => rw [if_pos rfl] at q2 ⊢; exact ⟨F1, env, c1, E, Qd, re.le l1, r1, lx.le l1, q2, k.le l1⟩
  | false => rw [if_neg (by decide)] at q2 ⊢; exact k F1 c1 H1 _ _ l1 r1 (.bl false) q2
theorem ce_or (h : CE GI X a wa) (h2 : CE GI X (.BoolOp .Or (b :: rest) pos) wb) : CE GI X (.BoolOp .Or (a :: b :: rest) pos) (wOrV wa wb) := fun W x => by
  refine pe_imp (pe_or (h W x) (h2 W x)) ?_
  rintro σ H Q ⟨F, env, c, E, Qd, re, rp, lx, q, k⟩
  refine ⟨F, env, c, E, _, re, rp, lx, q, ?_⟩
  intro F1 c1 H1 v1 d1 l1 r1 h1 q1
  obtain ⟨b, rfl, q2⟩ := asB_bl q1
  cases h1
  refine ⟨b, rfl, ?_⟩
  cases b with
  | false => rw [if_neg (by decide)] at q2 ⊢; exact ⟨F1, env, c1, E, Qd, re.le l1, r1, lx.le l1, q2, k.le l1⟩
  | true => rw [if_pos rfl] at q2 ⊢; exact k F1 c1 H1 _ _ l1 r1 (.bl true) q2
theorem ce_not (h : CE GI X a wa) : CE GI X (.UnaryOp .Not a pos) (wNotV wa) := fun W x => by
  refine pe_imp (pe_not (h W x)) ?_
  rintro σ H Q ⟨F, env, c, E, Qd, re, rp, lx, q, k⟩
  refine ⟨F, env, c, E, _, re, rp, lx, q, ?_⟩
  intro F1 c1 H1 v1 d1 l1 r1 h1 q1
  obtain ⟨b, rfl, q2⟩ := asB_bl q1
  cases h1
  exact ⟨b, rfl, k F1 c1 H1 _ _ l1 r1 (.bl _) q2⟩
end
/-! ### arguments, displays, calls by values -/
def wNil : WA := fun _ _ c Q => Q [] c
def wCons (a : WE) (r : WA) : WA := fun E env c Q => a E env c fun d c1 => r E env c1 fun ds c2 => Q (d :: ds) c2
def newL (m : Bool) (c : CMap) (ds : List D) (Q : DK) : Prop := if m = true then ∀ p, c p = none → Q (.ref p) (updc c p (.lst ds)) else Q (.lst ds) c
def wTup (r : WA) : WE := fun E env c Q => r E env c fun ds c1 => ds.length ≤ sizeLine ∧ Q (.tup ds) c1
def wLst (m : Bool) (r : WA) : WE := fun E env c Q => r E env c fun ds c1 => ds.length ≤ sizeLine ∧ newL m c1 ds Q
theorem newL_snd {K : PySem.W.Frag} {GI : Hp → Hp → Prop} {F H : Hp} {c : CMap} {vs : List V} {ds : List D} {m : Bool} {Qd : DK} {Q : VK} (r : Rep K GI F c H) (h : DVs K F vs ds) (q : newL m c ds Qd) (k : LQ K GI F Qd Q) : ∀ p, H p = none → Q (.ref p) (upd H p (.lst vs)) := by
  intro p hp
  unfold newL at q
  cases m with
  | true =>
    rw [if_pos rfl] at q
    exact k F _ _ _ _ Le.rfl' (r.newC (k := .lst ds) hp ⟨vs, rfl, h⟩) (.ref p) (q p (r.frc hp))
  | false =>
    rw [if_neg (by decide)] at q
    have l : Le F (upd F p (.lst vs)) := Le.new (r.fr hp)
    exact k _ _ _ _ _ l (r.newF hp) (.lst upd_same (h.le l)) q
theorem newT_snd {K : PySem.W.Frag} {GI : Hp → Hp → Prop} {F H : Hp} {c : CMap} {vs : List V} {ds : List D} {Qd : DK} {Q : VK} (r : Rep K GI F c H) (h : DVs K F vs ds) (q : Qd (.tup ds) c) (k : LQ K GI F Qd Q) : ∀ p, H p = none → Q (.ref p) (upd H p (.tup vs)) := by
  intro p hp
  have l : Le F (upd F p (.tup vs)) := Le.new (r.fr hp)
  exact k _ _ _ _ _ l (r.newF hp) (.tup upd_same (h.le l)) q
section
variable {GI : Hp → Hp → Prop} {X : Cx} {pos : Pos} {e : Expr} {es : List Expr} {wa : WE} {wr : WA}
theorem ca_nil : CA GI X [] wNil := fun W x => by
  refine pa_imp pa_nil ?_
  rintro σ H Q ⟨F, env, c, E, Qd, re, rp, lx, q, k⟩
  exact k F c H [] [] Le.rfl' rp .nil q
theorem ca_cons (ha : CE GI X e wa) (hr : CA GI X es wr) (hs : starEach (e :: es) X.env = (false, eval e X.env) :: starEach es X.env := by rfl) : CA GI X (e :: es) (wCons wa wr) := fun W x => by
  refine pa_imp (pa_cons (ha W x) (hr W x) hs) ?_
  rintro σ H Q ⟨F, env, c, E, Qd, re, rp, lx, q, k⟩
  refine ⟨F, env, c, E, _, re, rp, lx, q, ?_⟩
  intro F1 c1 H1 v1 d1 l1 r1 h1 q1
  refine ⟨F1, env, c1, E, _, re.le l1, r1, lx.le l1, q1, ?_⟩
  intro F2 c2 H2 vs ds l2 r2 h2 q2
  exact k F2 c2 H2 _ _ (l1.trans' l2) r2 (.cons (h1.le l2) h2) q2
theorem ce_tup {x1 : Nat} (h : CA GI X es wr) : CE GI X (.Tuple es x1 pos) (wTup wr) := fun W x => by
  refine pe_imp (pe_tup (h W x)) ?_
  rintro σ H Q ⟨F, env, c, E, Qd, re, rp, lx, q, k⟩
  refine ⟨F, env, c, E, _, re, rp, lx, q, ?_⟩
  intro F1 c1 H1 vs ds l1 r1 h1 ⟨q1, q2⟩
  exact ⟨by rw [h1.length]; exact q1, newT_snd r1 h1 q2 (k.le l1)⟩
theorem ce_lst (m : Bool) (h : CA GI X es wr) : CE GI X (.List es pos) (wLst m wr) := fun W x => by
  refine pe_imp (pe_lst (h W x)) ?_
  rintro σ H Q ⟨F, env, c, E, Qd, re, rp, lx, q, k⟩
  refine ⟨F, env, c, E, _, re, rp, lx, q, ?_⟩
  intro F1 c1 H1 vs ds l1 r1 h1 ⟨q1, q2⟩
  exact ⟨by rw [h1.length]; exact q1, newL_snd r1 h1 q2 (k.le l1)⟩
end
abbrev RDn := CMap → List D → DK → Prop
def SndN (K : PySem.W.Frag) (GI : Hp → Hp → Prop) (r : List V → Hp → VK → Prop) (R : RDn) : Prop := ∀ (F H : Hp) (c : CMap) (vs : List V) (ds : List D) (Qd : DK) (Q : VK), Rep K GI F c H → DVs K F vs ds → R c ds Qd → LQ K GI F Qd Q → r vs H Q
def wFn (R : RDn) (r : WA) : WE := fun E env c Q => r E env c fun ds c1 => R c1 ds Q
section
variable {GI : Hp → Hp → Prop} {X : Cx} {x : Str} {p pos : Pos} {e : Expr} {es : List Expr} {wr : WA} {id T : String} {r : List V → Hp → VK → Prop} {R : RDn}
theorem low_fn {W : WX} (s : SndN X.K GI r R) : ∀ σ H Q, lowE X.K GI W (wFn R wr) σ H Q → tCB r (lowA X.K GI W wr) σ H Q := by
  rintro σ H Q ⟨F, env, c, E, Qd, re, rp, lx, q, k⟩
  refine ⟨F, env, c, E, _, re, rp, lx, q, ?_⟩
  intro F1 c1 H1 vs ds l1 r1 h1 q1
  exact s F1 H1 c1 vs ds Qd Q r1 h1 q1 (k.le l1)
/-- a built-in function -/
theorem ce_bfn (hc : CallR X (.builtin id) r) (s : SndN X.K GI r R) (hm : X.mg x = none) (ha : CA GI X (e :: es) wr) (hv : bootBuiltins x = some (.builtin id) := by decide +kernel) (hg : Gl X x := by rfl) (hn : x ≠ "__name__" := by decide) (hdb : (x == ("__debug__" : Str)) = false := by decide)
    (he : starEach (e :: es) X.env = (false, eval e X.env) :: starEach es X.env := by rfl) (hpl : (backTo pos (starEach es X.env)).any (·.1) = false := by rfl) : CE GI X (.Call (.Name x p) (e :: es) [] pos) (wFn R wr) := fun W xo =>
  pe_imp (pe_callB hc hg hm hv (ha W xo) hn hdb he hpl) (low_fn s)
/-- a built-in type -/
theorem ce_bcl (hc : CallR X (.type T) r) (s : SndN X.K GI r R) (hm : X.mg x = none) (ha : CA GI X (e :: es) wr) (hv : bootBuiltins x = some (.type T) := by decide +kernel) (hg : Gl X x := by rfl) (hn : x ≠ "__name__" := by decide) (hdb : (x == ("__debug__" : Str)) = false := by decide)
    (he : starEach (e :: es) X.env = (false, eval e X.env) :: starEach es X.env := by rfl) (hpl : (backTo pos (starEach es X.env)).any (·.1) = false := by rfl) : CE GI X (.Call (.Name x p) (e :: es) [] pos) (wFn R wr) := fun W xo =>
  pe_imp (pe_callTy hc hg hm hv (ha W xo) hn hdb he hpl) (low_fn s)
end
/-! ### defs of the text -/
abbrev DSpec := List D → CMap → XD → DK → Prop
def lowSp (K : PySem.W.Frag) (GI : Hp → Hp → Prop) (sp : DSpec) : Sp := fun vs H Q Ex => ∃ F ds c E Qd, DVs K F vs ds ∧ Rep K GI F c H ∧ sp ds c E Qd ∧ LQ K GI F Qd Q ∧ ∀ F' c' H' cls od, Le F F' → Rep K GI F' c' H' → E cls od c' → Ex cls od H'
/-- a def that keeps its promise -/
structure FnD (GI : Hp → Hp → Prop) (P : Program) (w : World) (K : PySem.W.Frag) (mg : Str → Option Value) (base : Heap) (k : Nat) (f : Addr) (n : Nat) (sp : DSpec) : Prop where
  ex : ∃ fd ps, ps.length = n ∧ PySem.W.keepIn K (.ref f) = true ∧ Binds K fd ps [] ∧ FnOk P w K mg base (L2.CX P w) k f fd ps (lowSp K GI sp)
abbrev HasF (GI : Hp → Hp → Prop) (X : Cx) (k : Nat) (x : Str) (n : Nat) (sp : DSpec) : Prop := ∃ f, X.mg x = some (.ref f) ∧ FnD GI X.prog X.w X.K X.mg X.base k f n sp
def wCall (sp : DSpec) (r : WA) : WE := fun E env c Q => r E env c fun ds c1 => sp ds c1 E Q
section
variable {GI : Hp → Hp → Prop} {X : Cx} {x : Str} {p pos : Pos} {e : Expr} {es : List Expr} {wr : WA} {sp : DSpec} {k n : Nat}
theorem ce_call (h : HasF GI X k x n sp) (hr : Room k X.A) (ha : CA GI X (e :: es) wr) (hg : Gl X x := by rfl) (hdb : (x == ("__debug__" : Str)) = false := by decide)
    (he : starEach (e :: es) X.env = (false, eval e X.env) :: starEach es X.env := by rfl) (hpl : (backTo pos (starEach es X.env)).any (·.1) = false := by rfl) : CE GI X (.Call (.Name x p) (e :: es) [] pos) (wCall sp wr) := fun W xo => by
  obtain ⟨f, hm, ⟨fd, ps, hl, kp, b, F⟩⟩ := h
  refine pe_imp (pe_callS F hr hg hm kp b (fun σ => passAt xo.tk σ) (ha W xo) hdb he hpl) ?_
  rintro σ H Q ⟨F, env, c, E, Qd, re, rp, lx, q, k⟩
  refine ⟨F, env, c, E, _, re, rp, lx, q, ?_⟩
  intro F1 c1 H1 vs ds l1 r1 h1 q1
  exact ⟨F1, ds, c1, E, Qd, h1, r1, q1, k.le l1, lx.le l1⟩
end
end DL
/-! the data layer: operators, subscripts, built-ins by values -/
namespace DL
open PySem PySem.Spec L2
open PyProof.Rows hiding St

/-- a list that is a cell, as its items -/
def resAt : Option Cell → Addr → D
  | some (.lst ds), _ => .lst ds
  | _, p => .ref p
def res (c : CMap) : D → D
  | .ref p => resAt (c p) p
  | d => d
section
variable {K : PySem.W.Frag} {GI : Hp → Hp → Prop} {F H : Hp} {c : CMap} {v : V} {d : D}
theorem resAt_cases (o : Option Cell) (p : Addr) : (∃ ds, o = some (.lst ds) ∧ resAt o p = .lst ds) ∨ resAt o p = .ref p := by
  unfold resAt
  split
  · exact .inl ⟨_, rfl, rfl⟩
  · exact .inr rfl
theorem res_oth {d' : D} (e : res c d = d') (h : ∀ ds, d' ≠ .lst ds) : d = d' := by
  cases d with
  | ref p =>
    rcases resAt_cases (c p) p with ⟨ds, _, e2⟩ | e2
    · exact absurd (e.symm.trans e2) (h ds)
    · exact e2.symm.trans e
  | _ => exact e
theorem res_lst (r : Rep K GI F c H) (h : DV K F v d) {ds : List D} (e : res c d = .lst ds) : ∃ a xs, v = .ref a ∧ H a = some (.lst xs) ∧ DVs K F xs ds := by
  cases d with
  | ref p =>
    rcases resAt_cases (c p) p with ⟨es, e1, e2⟩ | e2
    · have q : D.lst es = .lst ds := e2.symm.trans e
      injection q with q
      subst q
      obtain ⟨vs, h1, h2⟩ := r.lst e1
      cases h
      exact ⟨p, vs, rfl, h1, h2⟩
    · have q : D.ref p = .lst ds := e2.symm.trans e
      cases q
  | lst es =>
    have q : D.lst es = .lst ds := e
    injection q with q
    subst q
    cases h with
    | lst h1 h2 => exact ⟨_, _, rfl, r.sub _ _ h1, h2⟩
  | non => have q : D.non = .lst ds := e; cases q
  | bl _ => have q : D.bl _ = .lst ds := e; cases q
  | int _ => have q : D.int _ = .lst ds := e; cases q
  | str _ => have q : D.str _ = .lst ds := e; cases q
  | tup _ => have q : D.tup _ = .lst ds := e; cases q
  | kt _ => have q : D.kt _ = .lst ds := e; cases q
  | scr _ => have q : D.scr _ = .lst ds := e; cases q
  | ty _ => have q : D.ty _ = .lst ds := e; cases q
end
/-- closers for a split over resolved values -/
theorem DV.int_inv {K : PySem.W.Frag} {F : Hp} {v : V} {i : Int} (h : DV K F v (.int i)) : v = .int i := by cases h; rfl
theorem DV.str_inv {K : PySem.W.Frag} {F : Hp} {v : V} {i : Str} (h : DV K F v (.str i)) : v = .str i := by cases h; rfl
theorem DV.bl_inv {K : PySem.W.Frag} {F : Hp} {v : V} {i : Bool} (h : DV K F v (.bl i)) : v = .bl i := by cases h; rfl
theorem DV.non_inv {K : PySem.W.Frag} {F : Hp} {v : V} (h : DV K F v .non) : v = .non := by cases h; rfl
theorem DV.ref_inv {K : PySem.W.Frag} {F : Hp} {v : V} {a : Addr} (h : DV K F v (.ref a)) : v = .ref a := by cases h; rfl
theorem DV.tup_inv {K : PySem.W.Frag} {F : Hp} {v : V} {ds : List D} (h : DV K F v (.tup ds)) : ∃ a xs, v = .ref a ∧ F a = some (.tup xs) ∧ DVs K F xs ds := by
  cases h with
  | tup h1 h2 => exact ⟨_, _, rfl, h1, h2⟩
theorem DV.kt_inv {K : PySem.W.Frag} {F : Hp} {v : V} {ds : List D} (h : DV K F v (.kt ds)) : ∃ a xs, v = .ref a ∧ SqT K F a xs ∧ DVs K F xs ds := by
  cases h with
  | kt h1 h2 => exact ⟨_, _, rfl, h1, h2⟩
theorem DV.scr_inv {K : PySem.W.Frag} {F : Hp} {v : V} {ns : List Int} (h : DV K F v (.scr ns)) : ∃ a, v = .ref a ∧ SqL K F a (ns.map V.int) := by
  cases h with
  | scr h1 => exact ⟨_, rfl, h1⟩

/-! ### arithmetic -/
def addR (m : Bool) : RD2 := fun c d e Q => match res c d, res c e with
  | .int i, .int j => Q (.int (i + j)) c
  | .str x, .str y => x.length + y.length ≤ sizeLine ∧ Q (.str (x ++ y)) c
  | .lst a, .lst b => a.length + b.length ≤ sizeLine ∧ newL m c (a ++ b) Q
  | .tup a, .tup b => a ≠ [] ∧ b ≠ [] ∧ a.length + b.length ≤ sizeLine ∧ Q (.tup (a ++ b)) c
  | _, _ => False
def subR : RD2 := fun c d e Q => match d, e with
  | .int i, .int j => Q (.int (i - j)) c
  | _, _ => False
def mulR (m : Bool) : RD2 := fun c d e Q => match res c d, res c e with
  | .int i, .int j => (CMul i j ∨ CMulW i j) ∧ Q (.int (i * j)) c
  | .lst a, .int k => -(2 ^ 63) ≤ k ∧ k < 2 ^ 63 ∧ a.length * k.toNat ≤ sizeLine ∧ newL m c (List.replicate k.toNat a).flatten Q
  | _, _ => False
def fdivR : RD2 := fun c d e Q => match d, e with
  | .int i, .int j => (CDiv i j ∨ CDivW i j) ∧ Q (.int (i / j)) c
  | _, _ => False
def modR : RD2 := fun c d e Q => match d, e with
  | .int i, .int j => 0 < j ∧ Q (.int (i % j)) c
  | _, _ => False
def powR : RD2 := fun c d e Q => match d, e with
  | .int i, .int j => CPow i j ∧ Q (.int (i ^ j.toNat)) c
  | _, _ => False
def shlR : RD2 := fun c d e Q => match d, e with
  | .int i, .int j => CPow i j ∧ Q (.int (i * 2 ^ j.toNat)) c
  | _, _ => False
def shrR : RD2 := fun c d e Q => match d, e with
  | .int i, .int j => 0 ≤ j ∧ Q (.int (i / 2 ^ j.toNat)) c
  | _, _ => False
def bandR : RD2 := fun c d e Q => match d, e with
  | .int i, .int j => Q (.int (Builtin.bitAnd i j)) c
  | _, _ => False
section
variable {GI : Hp → Hp → Prop} {X : Cx} {pos : Pos} {a b : Expr} {wa wb : WE}
def rAddA : R2 := fun x y H Q => (∃ i j, x = .int i ∧ y = .int j ∧ Q (.int (i + j)) H) ∨ (∃ i j, x = .str i ∧ y = .str j ∧ i.length + j.length ≤ sizeLine ∧ Q (.str (i ++ j)) H) ∨ rCat x y H Q ∨ rCatT X.K x y H Q
theorem op_addA : OpR X (binaryOp .Add) (rAddA (X := X)) := op_add.or (op_add_str.or (op_cat.or op_catT))
theorem add_snd (m : Bool) : Snd2 X.K GI (rAddA (X := X)) (addR m) := by
  intro F H c v1 v2 d1 d2 Qd Q r h1 h2 q k
  unfold addR at q
  split at q
  · rename_i e1 e2
    obtain rfl := res_oth e1 (by intro _ z; cases z)
    obtain rfl := res_oth e2 (by intro _ z; cases z)
    exact .inl ⟨_, _, h1.int_inv, h2.int_inv, k F c H _ _ Le.rfl' r (.int _) q⟩
  · rename_i e1 e2
    obtain rfl := res_oth e1 (by intro _ z; cases z)
    obtain rfl := res_oth e2 (by intro _ z; cases z)
    exact .inr (.inl ⟨_, _, h1.str_inv, h2.str_inv, q.1, k F c H _ _ Le.rfl' r (.str _) q.2⟩)
  · rename_i e1 e2
    obtain ⟨a1, xs, rfl, g1, k1⟩ := res_lst r h1 e1
    obtain ⟨a2, ys, rfl, g2, k2⟩ := res_lst r h2 e2
    exact .inr (.inr (.inl ⟨a1, a2, xs, ys, rfl, rfl, g1, g2, by rw [k1.length, k2.length]; exact q.1, newL_snd r (k1.app k2) q.2 k⟩))
  · rename_i e1 e2
    obtain rfl := res_oth e1 (by intro _ z; cases z)
    obtain rfl := res_oth e2 (by intro _ z; cases z)
    obtain ⟨a1, xs, rfl, g1, k1⟩ := h1.tup_inv
    obtain ⟨a2, ys, rfl, g2, k2⟩ := h2.tup_inv
    have n1 : xs ≠ [] := fun z => by subst z; cases k1; exact q.1 rfl
    have n2 : ys ≠ [] := fun z => by subst z; cases k2; exact q.2.1 rfl
    exact .inr (.inr (.inr ⟨a1, a2, xs, ys, rfl, rfl, .inl (.inl (r.sub _ _ g1)), .inl (.inl (r.sub _ _ g2)), n1, by rw [k1.length, k2.length]; exact q.2.2.1, fun z => absurd z n2, fun _ => newT_snd r (k1.app k2) q.2.2.2 k⟩))
  · exact q.elim
theorem ce_add (m : Bool) (ha : CE GI X a wa) (hb : CE GI X b wb) : CE GI X (.BinOp a .Add b pos) (wOp (addR m) wa wb) := ce_op op_addA (add_snd m) ha hb
theorem int2_snd {C : Int → Int → Prop} {g : Int → Int → Int} {R : RD2} (hR : ∀ c d e Q, R c d e Q → ∃ i j, d = .int i ∧ e = .int j ∧ C i j ∧ Q (.int (g i j)) c) : Snd2 X.K GI (rI C fun i j => .int (g i j)) R := by
  intro F H c v1 v2 d1 d2 Qd Q r h1 h2 q k
  obtain ⟨i, j, rfl, rfl, hc, q⟩ := hR _ _ _ _ q
  exact ⟨i, j, h1.int_inv, h2.int_inv, hc, k F c H _ _ Le.rfl' r (.int _) q⟩
theorem ce_sub (ha : CE GI X a wa) (hb : CE GI X b wb) : CE GI X (.BinOp a .Sub b pos) (wOp subR wa wb) := ce_op op_sub (fun F H c v1 v2 d1 d2 Qd Q r h1 h2 q k => by
  unfold subR at q
  split at q
  · exact ⟨_, _, h1.int_inv, h2.int_inv, k F c H _ _ Le.rfl' r (.int _) q⟩
  · exact q.elim) ha hb
theorem ce_mul (m : Bool) (ha : CE GI X a wa) (hb : CE GI X b wb) : CE GI X (.BinOp a .Mult b pos) (wOp (mulR m) wa wb) := ce_op (op_mul.or (op_mulW.or op_rep)) (fun F H c v1 v2 d1 d2 Qd Q r h1 h2 q k => by
  unfold mulR at q
  split at q
  · rename_i e1 e2
    obtain rfl := res_oth e1 (by intro _ z; cases z)
    obtain rfl := res_oth e2 (by intro _ z; cases z)
    rcases q.1 with g | g
    · exact .inl ⟨_, _, h1.int_inv, h2.int_inv, g, k F c H _ _ Le.rfl' r (.int _) q.2⟩
    · exact .inr (.inl ⟨_, _, h1.int_inv, h2.int_inv, g, k F c H _ _ Le.rfl' r (.int _) q.2⟩)
  · rename_i e1 e2
    obtain ⟨a1, xs, rfl, g1, k1⟩ := res_lst r h1 e1
    obtain rfl := res_oth e2 (by intro _ z; cases z)
    exact .inr (.inr ⟨a1, _, xs, rfl, h2.int_inv, g1, q.1, q.2.1, by rw [k1.length]; exact q.2.2.1, newL_snd r (k1.rep _) q.2.2.2 k⟩)
  · exact q.elim) ha hb
theorem ce_fdiv (ha : CE GI X a wa) (hb : CE GI X b wb) : CE GI X (.BinOp a .FloorDiv b pos) (wOp fdivR wa wb) := ce_op (op_fdiv.or op_fdivW) (fun F H c v1 v2 d1 d2 Qd Q r h1 h2 q k => by
  unfold fdivR at q
  split at q
  · rcases q.1 with g | g
    · exact .inl ⟨_, _, h1.int_inv, h2.int_inv, g, k F c H _ _ Le.rfl' r (.int _) q.2⟩
    · exact .inr ⟨_, _, h1.int_inv, h2.int_inv, g, k F c H _ _ Le.rfl' r (.int _) q.2⟩
  · exact q.elim) ha hb
theorem ce_mod (ha : CE GI X a wa) (hb : CE GI X b wb) : CE GI X (.BinOp a .Mod b pos) (wOp modR wa wb) := ce_op op_mod (int2_snd fun c d e Q q => by
  unfold modR at q
  split at q
  · exact ⟨_, _, rfl, rfl, q.1, q.2⟩
  · exact q.elim) ha hb
theorem ce_pow (ha : CE GI X a wa) (hb : CE GI X b wb) : CE GI X (.BinOp a .Pow b pos) (wOp powR wa wb) := ce_op op_pow (int2_snd fun c d e Q q => by
  unfold powR at q
  split at q
  · exact ⟨_, _, rfl, rfl, q.1, q.2⟩
  · exact q.elim) ha hb
theorem ce_shl (ha : CE GI X a wa) (hb : CE GI X b wb) : CE GI X (.BinOp a .LShift b pos) (wOp shlR wa wb) := ce_op op_shl (int2_snd fun c d e Q q => by
  unfold shlR at q
  split at q
  · exact ⟨_, _, rfl, rfl, q.1, q.2⟩
  · exact q.elim) ha hb
theorem ce_shr (ha : CE GI X a wa) (hb : CE GI X b wb) : CE GI X (.BinOp a .RShift b pos) (wOp shrR wa wb) := ce_op op_shr (int2_snd fun c d e Q q => by
  unfold shrR at q
  split at q
  · exact ⟨_, _, rfl, rfl, q.1, q.2⟩
  · exact q.elim) ha hb
theorem ce_band (ha : CE GI X a wa) (hb : CE GI X b wb) : CE GI X (.BinOp a .BitAnd b pos) (wOp bandR wa wb) := ce_op op_and (fun F H c v1 v2 d1 d2 Qd Q r h1 h2 q k => by
  unfold bandR at q
  split at q
  · exact ⟨_, _, h1.int_inv, h2.int_inv, k F c H _ _ Le.rfl' r (.int _) q⟩
  · exact q.elim) ha hb
/-- -a -/
def negR (d : D) (c : CMap) (Q : DK) : Prop := match d with
  | .int i => Q (.int (-i)) c
  | _ => False
def wNeg (a : WE) : WE := fun E env c Q => a E env c fun d c1 => negR d c1 Q
theorem ce_neg (ha : CE GI X a wa) : CE GI X (.UnaryOp .USub a pos) (wNeg wa) := fun W x => by
  refine pe_imp (pe_un un_neg (ha W x)) ?_
  rintro σ H Q ⟨F, env, c, E, Qd, re, rp, lx, q, k⟩
  refine ⟨F, env, c, E, _, re, rp, lx, q, ?_⟩
  intro F1 c1 H1 v1 d1 l1 r1 h1 q1
  unfold negR at q1
  split at q1
  · exact ⟨_, h1.int_inv, k F1 c1 H1 _ _ l1 r1 (.int _) q1⟩
  · exact q1.elim
end

/-! ### comparisons -/
mutual
def toPy : D → PyData
  | .non => .none
  | .bl b => .bool b
  | .int i => .int i
  | .str x => .str x
  | .tup ds => .tuple (toPys ds)
  | .kt ds => .tuple (toPys ds)
  | .lst ds => .list (toPys ds)
  | .scr ns => .list (ns.map .int)
  | .ref _ => .dict []
  | .ty _ => .dict []
def toPys : List D → List PyData
  | [] => []
  | d :: ds => toPy d :: toPys ds
end
mutual
/-- data that == tells apart as it stands: no bools, no refs -/
def okD : D → Bool
  | .non => true
  | .int _ => true
  | .str x => PyData.strOk x
  | .tup ds => okDs ds
  | .lst ds => okDs ds
  | _ => false
def okDs : List D → Bool
  | [] => true
  | d :: ds => okD d && okDs ds
end
mutual
def dep : D → Nat
  | .tup ds => deps ds + 1
  | .lst ds => deps ds + 1
  | _ => 0
def deps : List D → Nat
  | [] => 0
  | d :: ds => max (dep d) (deps ds)
end
def eqOk (d : D) : Prop := okD d = true ∧ dep d ≤ 64
mutual
theorem okD_can : ∀ d : D, okD d = true → (toPy d).canLay0 = true
  | .non, _ => rfl
  | .int _, _ => rfl
  | .str _, h => h
  | .tup ds, h => okDs_can ds h
  | .lst ds, h => okDs_can ds h
  | .bl _, h => by simp [okD] at h
  | .kt _, h => by simp [okD] at h
  | .scr _, h => by simp [okD] at h
  | .ref _, h => by simp [okD] at h
  | .ty _, h => by simp [okD] at h
theorem okDs_can : ∀ ds : List D, okDs ds = true → PyData.canLayAll0 (toPys ds) = true
  | [], _ => rfl
  | d :: ds, h => by
    simp only [okDs, Bool.and_eq_true] at h
    simp only [toPys, PyData.canLayAll0, Bool.and_eq_true]
    exact ⟨okD_can d h.1, okDs_can ds h.2⟩
end
mutual
theorem dep_py : ∀ d : D, okD d = true → (toPy d).depth = dep d
  | .non, _ => rfl
  | .int _, _ => rfl
  | .str _, h => rfl
  | .tup ds, h => by simp only [toPy, PyData.depth, dep, deps_py ds h]
  | .lst ds, h => by simp only [toPy, PyData.depth, dep, deps_py ds h]
  | .bl _, h => by simp [okD] at h
  | .kt _, h => by simp [okD] at h
  | .scr _, h => by simp [okD] at h
  | .ref _, h => by simp [okD] at h
  | .ty _, h => by simp [okD] at h
theorem deps_py : ∀ ds : List D, okDs ds = true → PyData.depthAll (toPys ds) = deps ds
  | [], _ => rfl
  | d :: ds, h => by
    simp only [okDs, Bool.and_eq_true] at h
    simp only [toPys, PyData.depthAll, deps, dep_py d h.1, deps_py ds h.2]
end
mutual
theorem eqv_py : ∀ d e : D, okD d = true → okD e = true → (PyData.eqv (toPy d) (toPy e) = true ↔ d = e)
  | .non, e, _, h => by cases e <;> simp_all [toPy, PyData.eqv, okD]
  | .int _, e, _, h => by cases e <;> simp_all [toPy, PyData.eqv, okD]
  | .str _, e, _, h => by cases e <;> simp_all [toPy, PyData.eqv, okD]
  | .tup ds, .tup es, h, h' => by
    simp only [toPy, PyData.eqv]
    rw [eqvs_py ds es h h']
    exact ⟨fun q => by rw [q], fun q => by injection q⟩
  | .lst ds, .lst es, h, h' => by
    simp only [toPy, PyData.eqv]
    rw [eqvs_py ds es h h']
    exact ⟨fun q => by rw [q], fun q => by injection q⟩
  | .tup ds, .lst es, h, h' => by simp [toPy, PyData.eqv]
  | .lst ds, .tup es, h, h' => by simp [toPy, PyData.eqv]
  | .tup ds, .non, h, h' => by simp [toPy, PyData.eqv]
  | .lst ds, .non, h, h' => by simp [toPy, PyData.eqv]
  | .tup ds, .int _, h, h' => by simp [toPy, PyData.eqv]
  | .lst ds, .int _, h, h' => by simp [toPy, PyData.eqv]
  | .tup ds, .str _, h, h' => by simp [toPy, PyData.eqv]
  | .lst ds, .str _, h, h' => by simp [toPy, PyData.eqv]
  | .bl _, _, h, _ => by simp [okD] at h
  | .kt _, _, h, _ => by simp [okD] at h
  | .scr _, _, h, _ => by simp [okD] at h
  | .ref _, _, h, _ => by simp [okD] at h
  | .ty _, _, h, _ => by simp [okD] at h
  | .tup _, .bl _, _, h => by simp [okD] at h
  | .tup _, .kt _, _, h => by simp [okD] at h
  | .tup _, .scr _, _, h => by simp [okD] at h
  | .tup _, .ref _, _, h => by simp [okD] at h
  | .tup _, .ty _, _, h => by simp [okD] at h
  | .lst _, .bl _, _, h => by simp [okD] at h
  | .lst _, .kt _, _, h => by simp [okD] at h
  | .lst _, .scr _, _, h => by simp [okD] at h
  | .lst _, .ref _, _, h => by simp [okD] at h
  | .lst _, .ty _, _, h => by simp [okD] at h
theorem eqvs_py : ∀ ds es : List D, okDs ds = true → okDs es = true → (PyData.eqvAll (toPys ds) (toPys es) = true ↔ ds = es)
  | [], [], _, _ => by simp [toPys, PyData.eqvAll]
  | [], _ :: _, _, _ => by simp [toPys, PyData.eqvAll]
  | _ :: _, [], _, _ => by simp [toPys, PyData.eqvAll]
  | d :: ds, e :: es, h, h' => by
    simp only [okDs, Bool.and_eq_true] at h h'
    simp only [toPys, PyData.eqvAll, Bool.and_eq_true, eqv_py d e h.1 h'.1, eqvs_py ds es h.2 h'.2, List.cons.injEq]
end
mutual
theorem DV.dp {K : PySem.W.Frag} {F H : Hp} (l : Le F H) : ∀ {v : V} {d : D}, DV K F v d → okD d = true → Dp K H v (toPy d)
  | _, _, .non, _ => .non
  | _, _, .bl b, h => by simp [okD] at h
  | _, _, .int i, _ => .int i
  | _, _, .str x, _ => .str x
  | _, _, .ref _, h => by simp [okD] at h
  | _, _, .ty _, h => by simp [okD] at h
  | _, _, .lst e k, h => .lst (SqL.of (l _ _ e)) (DVs.dp l k h)
  | _, _, .tup e k, h => .tup (SqT.of (l _ _ e)) (DVs.dp l k h)
  | _, _, .kt e k, h => by simp [okD] at h
  | _, _, .scr e, h => by simp [okD] at h
theorem DVs.dp {K : PySem.W.Frag} {F H : Hp} (l : Le F H) : ∀ {v : List V} {d : List D}, DVs K F v d → okDs d = true → DpAll K H v (toPys d)
  | _, _, .nil, _ => .nil
  | _, _, .cons e k, h => by
    simp only [okDs, Bool.and_eq_true] at h
    exact .cons (DV.dp l e h.1) (DVs.dp l k h.2)
end
theorem res_dp {K : PySem.W.Frag} {GI : Hp → Hp → Prop} {F H : Hp} {c : CMap} {v : V} {d d' : D} (r : Rep K GI F c H) (h : DV K F v d) (e : res c d = d') (o : okD d' = true) : Dp K H v (toPy d') := by
  by_cases q : ∃ ds, d' = .lst ds
  · obtain ⟨ds, rfl⟩ := q
    obtain ⟨a, xs, rfl, h1, h2⟩ := res_lst r h e
    exact .lst (SqL.of h1) (DVs.dp r.sub h2 o)
  · obtain rfl := res_oth e (fun ds z => q ⟨ds, z⟩)
    exact h.dp r.sub o
theorem shaped_of {d : D} (h : eqOk d) : SeqAt.shaped (toPy d) = true := by
  unfold SeqAt.shaped
  rw [okD_can d h.1, dep_py d h.1]
  simpa using h.2
/-- ==: bools with bools, the rest as data -/
def eqR (neg : Bool) : RD2 := fun c d e Q => match res c d, res c e with
  | .bl a, .bl b => Q (.bl (neg ^^ decide (a = b))) c
  | d', e' => eqOk d' ∧ eqOk e' ∧ Q (.bl (neg ^^ decide (d' = e'))) c
theorem eqv_dec {d e : D} (h : okD d = true) (h' : okD e = true) : PyData.eqv (toPy d) (toPy e) = decide (d = e) := by
  by_cases q : d = e
  · rw [decide_eq_true q]; exact (eqv_py d e h h').mpr q
  · rw [decide_eq_false q]
    cases z : PyData.eqv (toPy d) (toPy e) with
    | true => exact absurd ((eqv_py d e h h').mp z) q
    | false => rfl
def ltR (f : Int → Int → Bool) (g : Str → Str → Bool) : RD2 := fun c d e Q => match d, e with
  | .int i, .int j => Q (.bl (f i j)) c
  | .str i, .str j => Q (.bl (g i j)) c
  | _, _ => False
def flatD : D → Bool
  | .non => true
  | .int _ => true
  | .str _ => true
  | _ => false
def valD {κ : Type} [DecidableEq κ] (kvs : List (κ × D)) (k : κ) : Option D := (kvs.find? fun kv => decide (kv.1 = k)).map (·.2)
def keyD : D → Option Key
  | .int i => some (.inl i)
  | .str x => some (.inr x)
  | _ => none
def keysD : List D → Option (List Key)
  | [] => some []
  | d :: ds => match keyD d, keysD ds with
    | some k, some ks => some (k :: ks)
    | _, _ => none
/-- what a dict holds at a key -/
def dictAt (c : CMap) (p : Addr) (e : D) (k : Option D → Prop) : Prop := match c p with
  | some (.dK kvs) => match keyD e with
    | some x => k (valD kvs x)
    | none => False
  | some (.dT kvs) => match e with
    | .tup es => match keysD es with
      | some x => k (valD kvs x)
      | none => False
    | _ => False
  | some (.fK _ _ kvs) => match keyD e with
    | some x => k (valD kvs x)
    | none => False
  | some (.fT _ _ kvs) => match e with
    | .tup es => match keysD es with
      | some x => k (valD kvs x)
      | none => False
    | _ => False
  | _ => False
/-- d in e -/
def inR (neg : Bool) : RD2 := fun c d e Q => match res c e with
  | .lst ds => flatD d = true ∧ ds.all flatD = true ∧ Q (.bl (neg ^^ decide (d ∈ ds))) c
  | .tup ds => flatD d = true ∧ ds.all flatD = true ∧ Q (.bl (neg ^^ decide (d ∈ ds))) c
  | .kt ds => flatD d = true ∧ ds.all flatD = true ∧ Q (.bl (neg ^^ decide (d ∈ ds))) c
  | .str z => match d with
    | .str x => ∃ k, x = ⟨#[k]⟩ ∧ Q (.bl (neg ^^ decide (k ∈ z.cps.toList))) c
    | _ => False
  | .ref p => dictAt c p d fun o => Q (.bl (neg ^^ o.isSome)) c
  | _ => False
theorem keyD_kV {K : PySem.W.Frag} {F : Hp} {v : V} {d : D} {k : Key} (h : DV K F v d) (e : keyD d = some k) : v = kV k := by
  cases d <;> simp only [keyD, Option.some.injEq, reduceCtorEq] at e
  · subst e; exact h.int_inv
  · subst e; exact h.str_inv
theorem keysD_kV {K : PySem.W.Frag} {F : Hp} : ∀ {vs : List V} {ds : List D} {ks : List Key}, DVs K F vs ds → keysD ds = some ks → vs = ks.map kV
  | _, _, _, .nil, e => by simp only [keysD, Option.some.injEq] at e; subst e; rfl
  | _, _, _, .cons (d := d) (ds := ds) h k, e => by
    simp only [keysD] at e
    split at e
    · rename_i k1 ks1 e1 e2
      simp only [Option.some.injEq] at e
      subst e
      rw [List.map_cons, ← keyD_kV h e1, ← keysD_kV k e2]
    · cases e
theorem KD.val {κ : Type} [DecidableEq κ] {K : PySem.W.Frag} {F : Hp} {us : List (κ × V)} {kvs : List (κ × D)} (h : KD K F us kvs) (k : κ) :
    (valV us k = none ∧ valD kvs k = none) ∨ ∃ v d, valV us k = some v ∧ valD kvs k = some d ∧ DV K F v d := by
  induction h with
  | nil => exact .inl ⟨rfl, rfl⟩
  | @cons a b l1 l2 q t ih =>
    by_cases e : a.1 = k
    · refine .inr ⟨a.2, b.2, valV_pos e, ?_, q.2⟩
      simp [valD, List.find?_cons, ← q.1, e]
    · have e2 : ¬ b.1 = k := by rw [← q.1]; exact e
      rw [valV_neg e]
      simpa [valD, List.find?_cons, e2] using ih
theorem dict_snd {K : PySem.W.Frag} {GI : Hp → Hp → Prop} {F H : Hp} {c : CMap} {v : V} {d : D} {p : Addr} {k : Option D → Prop} (r : Rep K GI F c H) (h : DV K F v d) (q : dictAt c p d k) :
    ∃ o od, DGet H p v o ∧ k od ∧ ((o = none ∧ od = none) ∨ ∃ x y, o = some x ∧ od = some y ∧ DV K F x y) := by
  unfold dictAt at q
  split at q
  · rename_i kvs e
    obtain ⟨f0, o, h0, us, rfl, h1⟩ := r.cel _ _ e
    split at q
    · rename_i x ex
      obtain rfl := keyD_kV h ex
      refine ⟨_, _, DGet.k h0, q, ?_⟩
      rcases KD.val h1 x with ⟨z1, z2⟩ | ⟨a, b, z1, z2, z3⟩
      · exact .inl ⟨z1, z2⟩
      · exact .inr ⟨a, b, z1, z2, z3⟩
    · exact q.elim
  · rename_i kvs e
    obtain ⟨f0, o, h0, us, rfl, h1⟩ := r.cel _ _ e
    split at q
    · rename_i es
      split at q
      · rename_i x ex
        obtain ⟨b, xs, rfl, g1, g2⟩ := h.tup_inv
        obtain rfl := keysD_kV g2 ex
        refine ⟨_, _, DGet.t h0 (r.sub _ _ g1), q, ?_⟩
        rcases KD.val h1 x with ⟨z1, z2⟩ | ⟨a, b, z1, z2, z3⟩
        · exact .inl ⟨z1, z2⟩
        · exact .inr ⟨a, b, z1, z2, z3⟩
      · exact q.elim
    · exact q.elim
  · rename_i w us kvs e
    obtain ⟨f0, o, h0, rfl, h1⟩ := r.cel _ _ e
    split at q
    · rename_i x ex
      obtain rfl := keyD_kV h ex
      refine ⟨_, _, .inl ⟨us, x, .inr ⟨_, h0⟩, rfl, rfl⟩, q, ?_⟩
      rcases KD.val h1 x with ⟨z1, z2⟩ | ⟨a, b, z1, z2, z3⟩
      · exact .inl ⟨z1, z2⟩
      · exact .inr ⟨a, b, z1, z2, z3⟩
    · exact q.elim
  · rename_i w us kvs e
    obtain ⟨f0, o, h0, rfl, h1⟩ := r.cel _ _ e
    split at q
    · rename_i es
      split at q
      · rename_i x ex
        obtain ⟨b, xs, rfl, g1, g2⟩ := h.tup_inv
        obtain rfl := keysD_kV g2 ex
        refine ⟨_, _, .inr ⟨us, x, b, .inr ⟨_, h0⟩, rfl, r.sub _ _ g1, rfl⟩, q, ?_⟩
        rcases KD.val h1 x with ⟨z1, z2⟩ | ⟨a, b, z1, z2, z3⟩
        · exact .inl ⟨z1, z2⟩
        · exact .inr ⟨a, b, z1, z2, z3⟩
      · exact q.elim
    · exact q.elim
  · exact q.elim
theorem flat_V {K : PySem.W.Frag} {F : Hp} {v : V} {d : D} (h : DV K F v d) (f : flatD d = true) : flatV v = true := by
  cases d <;> simp [flatD] at f
  · rw [h.non_inv]; rfl
  · rw [h.int_inv]; rfl
  · rw [h.str_inv]; rfl
theorem flat_eq {K : PySem.W.Frag} {F : Hp} {v u : V} {d e : D} (h : DV K F v d) (h' : DV K F u e) (f : flatD d = true) (f' : flatD e = true) : eqV v u = decide (d = e) := by
  cases d <;> simp [flatD] at f <;> cases e <;> simp [flatD] at f'
  · rw [h.non_inv, h'.non_inv]; simp [eqV]
  · rw [h.non_inv, h'.int_inv]; simp [eqV]
  · rw [h.non_inv, h'.str_inv]; simp [eqV]
  · rw [h.int_inv, h'.non_inv]; simp [eqV]
  · rw [h.int_inv, h'.int_inv, Bool.eq_iff_iff]; simp [eqV]
  · rw [h.int_inv, h'.str_inv]; simp [eqV]
  · rw [h.str_inv, h'.non_inv]; simp [eqV]
  · rw [h.str_inv, h'.int_inv]; simp [eqV]
  · rw [h.str_inv, h'.str_inv, Bool.eq_iff_iff]; simp [eqV]
theorem flat_all {K : PySem.W.Frag} {F : Hp} : ∀ {vs : List V} {ds : List D}, DVs K F vs ds → ds.all flatD = true → vs.all flatV = true
  | _, _, .nil, _ => rfl
  | _, _, .cons h k, f => by
    simp only [List.all_cons, Bool.and_eq_true] at f ⊢
    exact ⟨flat_V h f.1, flat_all k f.2⟩
theorem flat_in {K : PySem.W.Frag} {F : Hp} {v : V} {d : D} (h : DV K F v d) (f : flatD d = true) : ∀ {vs : List V} {ds : List D}, DVs K F vs ds → ds.all flatD = true → inV v vs = decide (d ∈ ds)
  | _, _, .nil, _ => by simp [inV]
  | _, _, .cons (d := e) (ds := es) h' k, g => by
    simp only [List.all_cons, Bool.and_eq_true] at g
    have ih := flat_in h f k g.2
    unfold inV at ih ⊢
    rw [List.any_cons, ih, flat_eq h' h g.1 f]
    by_cases z : e = d
    · simp [z]
    · have z2 : ¬ d = e := fun q => z q.symm
      simp [z, z2]
section
variable {GI : Hp → Hp → Prop} {X : Cx} {pos : Pos} {a b : Expr} {wa wb : WE}
theorem eq_snd : Snd2 X.K GI (fun x y H Q => rEq x y H Q ∨ rEqD X.K x y H Q) (eqR false) := by
  intro F H c v1 v2 d1 d2 Qd Q r h1 h2 q k
  unfold eqR at q
  split at q
  · rename_i e1 e2
    obtain rfl := res_oth e1 (by intro _ z; cases z)
    obtain rfl := res_oth e2 (by intro _ z; cases z)
    rename_i p1 p2
    rw [h1.bl_inv, h2.bl_inv]
    refine .inl ⟨rfl, ?_⟩
    have : decide (V.bl p1 = V.bl p2) = (false ^^ decide (p1 = p2)) := by simp
    rw [this]
    exact k F c H _ _ Le.rfl' r (.bl _) q
  · obtain ⟨o1, o2, q⟩ := q
    refine .inr ⟨_, _, res_dp r h1 rfl o1.1, res_dp r h2 rfl o2.1, shaped_of o1, shaped_of o2, ?_⟩
    rw [eqv_dec o1.1 o2.1]
    rw [Bool.false_xor] at q
    exact k F c H _ _ Le.rfl' r (.bl _) q
theorem ne_snd : Snd2 X.K GI (fun x y H Q => rNe x y H Q ∨ rNeD X.K x y H Q) (eqR true) := by
  intro F H c v1 v2 d1 d2 Qd Q r h1 h2 q k
  unfold eqR at q
  split at q
  · rename_i e1 e2
    obtain rfl := res_oth e1 (by intro _ z; cases z)
    obtain rfl := res_oth e2 (by intro _ z; cases z)
    rename_i p1 p2
    rw [h1.bl_inv, h2.bl_inv]
    refine .inl ⟨rfl, ?_⟩
    have : (!decide (V.bl p1 = V.bl p2)) = (true ^^ decide (p1 = p2)) := by simp
    rw [this]
    exact k F c H _ _ Le.rfl' r (.bl _) q
  · obtain ⟨o1, o2, q⟩ := q
    refine .inr ⟨_, _, res_dp r h1 rfl o1.1, res_dp r h2 rfl o2.1, shaped_of o1, shaped_of o2, ?_⟩
    rw [eqv_dec o1.1 o2.1]
    rw [Bool.true_xor] at q
    exact k F c H _ _ Le.rfl' r (.bl _) q
theorem op_eqA (hu : X.A.units + 64 < cLine) : OpR X (compareOp .Eq) (fun x y H Q => rEq x y H Q ∨ rEqD X.K x y H Q) := op_eq.or (op_eqD hu)
theorem op_neA (hu : X.A.units + 64 < cLine) : OpR X (compareOp .NotEq) (fun x y H Q => rNe x y H Q ∨ rNeD X.K x y H Q) := op_ne.or (op_neD hu)
theorem lt_snd {f : Int → Int → Bool} {g : Str → Str → Bool} : Snd2 X.K GI (fun x y H Q => rI0 (fun i j => .bl (f i j)) x y H Q ∨ ∃ i j, x = .str i ∧ y = .str j ∧ Q (.bl (g i j)) H) (ltR f g) := by
  intro F H c v1 v2 d1 d2 Qd Q r h1 h2 q k
  unfold ltR at q
  split at q
  · exact .inl ⟨_, _, h1.int_inv, h2.int_inv, k F c H _ _ Le.rfl' r (.bl _) q⟩
  · exact .inr ⟨_, _, h1.str_inv, h2.str_inv, k F c H _ _ Le.rfl' r (.bl _) q⟩
  · exact q.elim
abbrev ltA : RD2 := ltR (fun i j => decide (i < j)) (fun i j => decide (i.cps.toList < j.cps.toList))
theorem op_ltA : OpR X (compareOp .Lt) (fun x y H Q => rI0 (fun i j => .bl (decide (i < j))) x y H Q ∨ ∃ i j, x = .str i ∧ y = .str j ∧ Q (.bl (decide (i.cps.toList < j.cps.toList))) H) := op_lt.or op_lt_str
/-- int comparisons alone -/
def ltI (f : Int → Int → Bool) : RD2 := fun c d e Q => match d, e with
  | .int i, .int j => Q (.bl (f i j)) c
  | _, _ => False
theorem ltI_snd {f : Int → Int → Bool} : Snd2 X.K GI (rI0 (fun i j => .bl (f i j))) (ltI f) := by
  intro F H c v1 v2 d1 d2 Qd Q r h1 h2 q k
  unfold ltI at q
  split at q
  · exact ⟨_, _, h1.int_inv, h2.int_inv, k F c H _ _ Le.rfl' r (.bl _) q⟩
  · exact q.elim
abbrev leA : RD2 := ltI fun i j => decide (i ≤ j)
abbrev gtA : RD2 := ltI fun i j => decide (j < i)
abbrev geA : RD2 := ltI fun i j => decide (j ≤ i)
def isNR (neg : Bool) : RD2 := fun c d e Q => match e with
  | .non => Q (.bl (neg ^^ decide (d = .non))) c
  | _ => False
theorem non_iff {K : PySem.W.Frag} {F : Hp} {v : V} {d : D} (h : DV K F v d) : decide (v = .non) = decide (d = .non) := by
  cases h <;> simp
theorem isN_snd : Snd2 X.K GI (fun x y H Q => y = .non ∧ Q (.bl (decide (x = .non))) H) (isNR false) := by
  intro F H c v1 v2 d1 d2 Qd Q r h1 h2 q k
  unfold isNR at q
  split at q
  · refine ⟨h2.non_inv, ?_⟩
    rw [non_iff h1]
    rw [Bool.false_xor] at q
    exact k F c H _ _ Le.rfl' r (.bl _) q
  · exact q.elim
theorem notN_snd : Snd2 X.K GI (fun x y H Q => y = .non ∧ Q (.bl (!decide (x = .non))) H) (isNR true) := by
  intro F H c v1 v2 d1 d2 Qd Q r h1 h2 q k
  unfold isNR at q
  split at q
  · refine ⟨h2.non_inv, ?_⟩
    rw [non_iff h1]
    rw [Bool.true_xor] at q
    exact k F c H _ _ Le.rfl' r (.bl _) q
  · exact q.elim
theorem op_inD (hu : X.A.units + 1 < cLine) : OpR X (compareOp .In) (fun x y H Q => ∃ a o, y = .ref a ∧ DGet H a x o ∧ Q (.bl o.isSome) H) := by
  intro pins s σ H x y v u Q I rx ry h
  obtain ⟨p, o, rfl, g, q⟩ := h
  cases ry
  exact d_in hu I g rx fun s' I' => ⟨.bl o.isSome, H, I', rfl, q⟩
theorem op_notInD (hu : X.A.units + 1 < cLine) : OpR X (compareOp .NotIn) (fun x y H Q => ∃ a o, y = .ref a ∧ DGet H a x o ∧ Q (.bl (!o.isSome)) H) := by
  intro pins s σ H x y v u Q I rx ry h
  obtain ⟨p, o, rfl, g, q⟩ := h
  cases ry
  exact d_notIn hu I g rx fun s' I' => ⟨.bl (!o.isSome), H, I', rfl, q⟩
end
end DL
/-! the data layer: in, subscripts, slices, built-ins -/
namespace DL
open PySem PySem.Spec L2
open PyProof.Rows hiding St

section
variable {GI : Hp → Hp → Prop} {X : Cx} {pos : Pos} {a b : Expr} {wa wb : WE}
def rInA (K : PySem.W.Frag) : R2 := fun x y H Q => rIn K false x y H Q ∨ (∃ (c : Nat) (z : Str), x = .str ⟨#[c]⟩ ∧ y = .str z ∧ Q (.bl (decide (c ∈ z.cps.toList))) H) ∨ ∃ a o, y = .ref a ∧ DGet H a x o ∧ Q (.bl o.isSome) H
def rNiA (K : PySem.W.Frag) : R2 := fun x y H Q => rIn K true x y H Q ∨ (∃ (c : Nat) (z : Str), x = .str ⟨#[c]⟩ ∧ y = .str z ∧ Q (.bl (!decide (c ∈ z.cps.toList))) H) ∨ ∃ a o, y = .ref a ∧ DGet H a x o ∧ Q (.bl (!o.isSome)) H
theorem op_inA (hu : X.A.units + 1 < cLine) : OpR X (compareOp .In) (rInA X.K) := op_in_seq.or (op_in_sign.or (op_inD hu))
theorem op_niA (hu : X.A.units + 1 < cLine) : OpR X (compareOp .NotIn) (rNiA X.K) := op_notIn_seq.or (op_notIn_sign.or (op_notInD hu))
theorem in_snd : Snd2 X.K GI (rInA X.K) (inR false) := by
  intro F H c v1 v2 d1 d2 Qd Q r h1 h2 q k
  unfold inR at q
  split at q
  · rename_i e2
    obtain ⟨p, xs, rfl, g1, k1⟩ := res_lst r h2 e2
    refine .inl ⟨p, xs, rfl, .inl (SqL.of g1), flat_V h1 q.1, flat_all k1 q.2.1, ?_⟩
    rw [flat_in h1 q.1 k1 q.2.1]
    have q := q.2.2; rw [Bool.false_xor] at q
    exact k F c H _ _ Le.rfl' r (.bl _) q
  · rename_i e2
    obtain rfl := res_oth e2 (by intro _ z; cases z)
    obtain ⟨p, xs, rfl, g1, k1⟩ := h2.tup_inv
    refine .inl ⟨p, xs, rfl, .inr (SqT.of (r.sub _ _ g1)), flat_V h1 q.1, flat_all k1 q.2.1, ?_⟩
    rw [flat_in h1 q.1 k1 q.2.1]
    have q := q.2.2; rw [Bool.false_xor] at q
    exact k F c H _ _ Le.rfl' r (.bl _) q
  · rename_i e2
    obtain rfl := res_oth e2 (by intro _ z; cases z)
    obtain ⟨p, xs, rfl, g1, k1⟩ := h2.kt_inv
    refine .inl ⟨p, xs, rfl, .inr (sqT_le r.sub g1), flat_V h1 q.1, flat_all k1 q.2.1, ?_⟩
    rw [flat_in h1 q.1 k1 q.2.1]
    have q := q.2.2; rw [Bool.false_xor] at q
    exact k F c H _ _ Le.rfl' r (.bl _) q
  · rename_i e2
    obtain rfl := res_oth e2 (by intro _ z; cases z)
    split at q
    · obtain ⟨n, rfl, q⟩ := q
      rw [Bool.false_xor] at q
      exact .inr (.inl ⟨n, _, h1.str_inv, h2.str_inv, k F c H _ _ Le.rfl' r (.bl _) q⟩)
    · exact q.elim
  · rename_i e2
    obtain rfl := res_oth e2 (by intro _ z; cases z)
    obtain ⟨o, od, g, q, z⟩ := dict_snd r h1 q
    refine .inr (.inr ⟨_, o, h2.ref_inv, g, ?_⟩)
    rw [Bool.false_xor] at q
    rcases z with ⟨rfl, rfl⟩ | ⟨x, y, rfl, rfl, _⟩
    · exact k F c H _ _ Le.rfl' r (.bl _) q
    · exact k F c H _ _ Le.rfl' r (.bl _) q
  · exact q.elim
theorem ni_snd : Snd2 X.K GI (rNiA X.K) (inR true) := by
  intro F H c v1 v2 d1 d2 Qd Q r h1 h2 q k
  unfold inR at q
  split at q
  · rename_i e2
    obtain ⟨p, xs, rfl, g1, k1⟩ := res_lst r h2 e2
    refine .inl ⟨p, xs, rfl, .inl (SqL.of g1), flat_V h1 q.1, flat_all k1 q.2.1, ?_⟩
    rw [flat_in h1 q.1 k1 q.2.1]
    have q := q.2.2; rw [Bool.true_xor] at q
    exact k F c H _ _ Le.rfl' r (.bl _) q
  · rename_i e2
    obtain rfl := res_oth e2 (by intro _ z; cases z)
    obtain ⟨p, xs, rfl, g1, k1⟩ := h2.tup_inv
    refine .inl ⟨p, xs, rfl, .inr (SqT.of (r.sub _ _ g1)), flat_V h1 q.1, flat_all k1 q.2.1, ?_⟩
    rw [flat_in h1 q.1 k1 q.2.1]
    have q := q.2.2; rw [Bool.true_xor] at q
    exact k F c H _ _ Le.rfl' r (.bl _) q
  · rename_i e2
    obtain rfl := res_oth e2 (by intro _ z; cases z)
    obtain ⟨p, xs, rfl, g1, k1⟩ := h2.kt_inv
    refine .inl ⟨p, xs, rfl, .inr (sqT_le r.sub g1), flat_V h1 q.1, flat_all k1 q.2.1, ?_⟩
    rw [flat_in h1 q.1 k1 q.2.1]
    have q := q.2.2; rw [Bool.true_xor] at q
    exact k F c H _ _ Le.rfl' r (.bl _) q
  · rename_i e2
    obtain rfl := res_oth e2 (by intro _ z; cases z)
    split at q
    · obtain ⟨n, rfl, q⟩ := q
      rw [Bool.true_xor] at q
      exact .inr (.inl ⟨n, _, h1.str_inv, h2.str_inv, k F c H _ _ Le.rfl' r (.bl _) q⟩)
    · exact q.elim
  · rename_i e2
    obtain rfl := res_oth e2 (by intro _ z; cases z)
    obtain ⟨o, od, g, q, z⟩ := dict_snd r h1 q
    refine .inr (.inr ⟨_, o, h2.ref_inv, g, ?_⟩)
    rw [Bool.true_xor] at q
    rcases z with ⟨rfl, rfl⟩ | ⟨x, y, rfl, rfl, _⟩
    · exact k F c H _ _ Le.rfl' r (.bl _) q
    · exact k F c H _ _ Le.rfl' r (.bl _) q
  · exact q.elim
end

/-! ### subscripts -/
def idxR : RD2 := fun c d e Q => match res c d, e with
  | .lst ds, .int i => ∃ x, atI ds i = some x ∧ Q x c
  | .tup ds, .int i => ∃ x, atI ds i = some x ∧ Q x c
  | .kt ds, .int i => ∃ x, atI ds i = some x ∧ Q x c
  | .scr ns, .int i => ∃ x, atI ns i = some x ∧ Q (.int x) c
  | .str z, .int i => z.length ≤ sizeLine ∧ ∃ k, atI z.cps.toList i = some k ∧ Q (.str ⟨#[k]⟩) c
  | .ref p, e' => dictAt c p e' fun o => ∃ x, o = some x ∧ Q x c
  | _, _ => False
theorem atI_le {α : Type} {xs : List α} {i : Int} {v : α} (h : atI xs i = some v) : ∃ j, ixN xs.length i = some j ∧ xs[j]? = some v := by
  unfold atI at h
  cases e : ixN xs.length i with
  | none => rw [e] at h; cases h
  | some j => rw [e] at h; exact ⟨j, rfl, h⟩
theorem atI_D {K : PySem.W.Frag} {F : Hp} {vs : List V} {ds : List D} {i : Int} {x : D} (h : DVs K F vs ds) (e : atI ds i = some x) : ∃ v, atI vs i = some v ∧ DV K F v x := by
  obtain ⟨j, e1, e2⟩ := atI_le e
  obtain ⟨v, h1, h2⟩ := h.at j e2
  refine ⟨v, ?_, h2⟩
  unfold atI
  rw [h.length, e1]
  exact h1
theorem atI_map {ns : List Int} {i x : Int} (e : atI ns i = some x) : atI (ns.map V.int) i = some (.int x) := by
  obtain ⟨j, e1, e2⟩ := atI_le e
  unfold atI
  rw [List.length_map, e1]
  show (ns.map V.int)[j]? = _
  rw [List.getElem?_map, e2]; rfl
theorem ix_dict {X : Cx} (hu : X.A.units + 1 < cLine) : IxR X (fun x y H Q => ∃ a v, x = .ref a ∧ DGet H a y (some v) ∧ Q v H) := by
  intro value slice pins s σ H x y v u Q I rx ry h hs
  obtain ⟨a, z, rfl, g, q⟩ := h
  cases rx
  exact tail_any (ops := [.ref a, u]) (dict_typeIs I g) PySem.F.slot_dict_getitem.lookup (d_getItem hu I g ry fun w' s' I' r' => ⟨z, H, I', r', q⟩) hs
section
variable {GI : Hp → Hp → Prop} {X : Cx} {pos : Pos} {a b : Expr} {wa wb : WE}
theorem idx_snd : Snd2 X.K GI (fun x y H Q => rIx X.K x y H Q ∨ ∃ a v, x = .ref a ∧ DGet H a y (some v) ∧ Q v H) idxR := by
  intro F H c v1 v2 d1 d2 Qd Q r h1 h2 q k
  unfold idxR at q
  split at q
  · rename_i e1
    obtain ⟨p, xs, rfl, g1, k1⟩ := res_lst r h1 e1
    obtain ⟨x, e, q⟩ := q
    obtain ⟨v, h3, h4⟩ := atI_D k1 e
    exact .inl (.inl ⟨p, xs, _, v, rfl, h2.int_inv, SqL.of g1, h3, k F c H _ _ Le.rfl' r h4 q⟩)
  · rename_i e1
    obtain rfl := res_oth e1 (by intro _ z; cases z)
    obtain ⟨p, xs, rfl, g1, k1⟩ := h1.tup_inv
    obtain ⟨x, e, q⟩ := q
    obtain ⟨v, h3, h4⟩ := atI_D k1 e
    exact .inl (.inr (.inl ⟨p, xs, _, v, rfl, h2.int_inv, SqT.of (r.sub _ _ g1), h3, k F c H _ _ Le.rfl' r h4 q⟩))
  · rename_i e1
    obtain rfl := res_oth e1 (by intro _ z; cases z)
    obtain ⟨p, xs, rfl, g1, k1⟩ := h1.kt_inv
    obtain ⟨x, e, q⟩ := q
    obtain ⟨v, h3, h4⟩ := atI_D k1 e
    exact .inl (.inr (.inl ⟨p, xs, _, v, rfl, h2.int_inv, sqT_le r.sub g1, h3, k F c H _ _ Le.rfl' r h4 q⟩))
  · rename_i e1
    obtain rfl := res_oth e1 (by intro _ z; cases z)
    obtain ⟨p, rfl, g1⟩ := h1.scr_inv
    obtain ⟨x, e, q⟩ := q
    exact .inl (.inl ⟨p, _, _, _, rfl, h2.int_inv, sqL_le r.sub g1, atI_map e, k F c H _ _ Le.rfl' r (.int _) q⟩)
  · rename_i e1
    obtain rfl := res_oth e1 (by intro _ z; cases z)
    obtain ⟨q1, x, e, q⟩ := q
    exact .inl (.inr (.inr ⟨_, _, x, h1.str_inv, h2.int_inv, q1, e, k F c H _ _ Le.rfl' r (.str _) q⟩))
  · rename_i e1
    obtain rfl := res_oth e1 (by intro _ z; cases z)
    obtain ⟨o, od, g, ⟨x, e3, q⟩, z⟩ := dict_snd r h2 q
    rcases z with ⟨rfl, rfl⟩ | ⟨y, y2, rfl, rfl, h3⟩
    · cases e3
    · cases e3
      exact .inr ⟨_, y, h1.ref_inv, g, k F c H _ _ Le.rfl' r h3 q⟩
  · exact q.elim
theorem ce_idx (hr : Room 0 X.A) (ha : CE GI X a wa) (hb : CE GI X b wb) (hs : PlainIx b := by exact fun _ _ => rfl) : CE GI X (.Subscript a b pos) (wOp idxR wa wb) := fun W x =>
  pe_imp (pe_ix (ix_seq.or (ix_dict (hu_of hr))) (ha W x) (hb W x) hs) (low_op idx_snd)
theorem ct_in (hr : Room 0 X.A) (ha : CE GI X a wa) (hb : CE GI X b wb) (hm : behindInMarks .In b = false := by rfl) : CT GI X (.Compare a [.In] [b] pos) (wTst (wOp (inR false) wa wb)) := ct_cmp (op_inA (hu_of hr)) in_snd ha hb hm
theorem ct_ni (hr : Room 0 X.A) (ha : CE GI X a wa) (hb : CE GI X b wb) (hm : behindInMarks .NotIn b = false := by rfl) : CT GI X (.Compare a [.NotIn] [b] pos) (wTst (wOp (inR true) wa wb)) := ct_cmp (op_niA (hu_of hr)) ni_snd ha hb hm
theorem ce_in (hr : Room 0 X.A) (ha : CE GI X a wa) (hb : CE GI X b wb) (hm : behindInMarks .In b = false := by rfl) : CE GI X (.Compare a [.In] [b] pos) (wOp (inR false) wa wb) := ce_cmp (op_inA (hu_of hr)) in_snd ha hb hm
theorem ce_ni (hr : Room 0 X.A) (ha : CE GI X a wa) (hb : CE GI X b wb) (hm : behindInMarks .NotIn b = false := by rfl) : CE GI X (.Compare a [.NotIn] [b] pos) (wOp (inR true) wa wb) := ce_cmp (op_niA (hu_of hr)) ni_snd ha hb hm
theorem ct_eq (hr : Room 0 X.A) (ha : CE GI X a wa) (hb : CE GI X b wb) : CT GI X (.Compare a [.Eq] [b] pos) (wTst (wOp (eqR false) wa wb)) := ct_cmp (op_eqA hr.units) eq_snd ha hb (nomark _)
theorem ct_ne (hr : Room 0 X.A) (ha : CE GI X a wa) (hb : CE GI X b wb) : CT GI X (.Compare a [.NotEq] [b] pos) (wTst (wOp (eqR true) wa wb)) := ct_cmp (op_neA hr.units) ne_snd ha hb (nomark _)
theorem ce_eq (hr : Room 0 X.A) (ha : CE GI X a wa) (hb : CE GI X b wb) : CE GI X (.Compare a [.Eq] [b] pos) (wOp (eqR false) wa wb) := ce_cmp (op_eqA hr.units) eq_snd ha hb (nomark _)
theorem ce_ne (hr : Room 0 X.A) (ha : CE GI X a wa) (hb : CE GI X b wb) : CE GI X (.Compare a [.NotEq] [b] pos) (wOp (eqR true) wa wb) := ce_cmp (op_neA hr.units) ne_snd ha hb (nomark _)
theorem ct_lt (ha : CE GI X a wa) (hb : CE GI X b wb) : CT GI X (.Compare a [.Lt] [b] pos) (wTst (wOp ltA wa wb)) := ct_cmp op_ltA lt_snd ha hb (nomark _)
theorem ce_lt (ha : CE GI X a wa) (hb : CE GI X b wb) : CE GI X (.Compare a [.Lt] [b] pos) (wOp ltA wa wb) := ce_cmp op_ltA lt_snd ha hb (nomark _)
theorem ct_le (ha : CE GI X a wa) (hb : CE GI X b wb) : CT GI X (.Compare a [.LtE] [b] pos) (wTst (wOp leA wa wb)) := ct_cmp op_le ltI_snd ha hb (nomark _)
theorem ce_le (ha : CE GI X a wa) (hb : CE GI X b wb) : CE GI X (.Compare a [.LtE] [b] pos) (wOp leA wa wb) := ce_cmp op_le ltI_snd ha hb (nomark _)
theorem ct_gt (ha : CE GI X a wa) (hb : CE GI X b wb) : CT GI X (.Compare a [.Gt] [b] pos) (wTst (wOp gtA wa wb)) := ct_cmp op_gt ltI_snd ha hb (nomark _)
theorem ce_gt (ha : CE GI X a wa) (hb : CE GI X b wb) : CE GI X (.Compare a [.Gt] [b] pos) (wOp gtA wa wb) := ce_cmp op_gt ltI_snd ha hb (nomark _)
theorem ct_ge (ha : CE GI X a wa) (hb : CE GI X b wb) : CT GI X (.Compare a [.GtE] [b] pos) (wTst (wOp geA wa wb)) := ct_cmp op_ge ltI_snd ha hb (nomark _)
theorem ce_ge (ha : CE GI X a wa) (hb : CE GI X b wb) : CE GI X (.Compare a [.GtE] [b] pos) (wOp geA wa wb) := ce_cmp op_ge ltI_snd ha hb (nomark _)
theorem ct_is (ha : CE GI X a wa) (hb : CE GI X b wb) : CT GI X (.Compare a [.Is] [b] pos) (wTst (wOp (isNR false) wa wb)) := ct_cmp op_isN isN_snd ha hb (nomark _)
theorem ce_is (ha : CE GI X a wa) (hb : CE GI X b wb) : CE GI X (.Compare a [.Is] [b] pos) (wOp (isNR false) wa wb) := ce_cmp op_isN isN_snd ha hb (nomark _)
theorem ct_isnot (ha : CE GI X a wa) (hb : CE GI X b wb) : CT GI X (.Compare a [.IsNot] [b] pos) (wTst (wOp (isNR true) wa wb)) := ct_cmp op_notN notN_snd ha hb (nomark _)
theorem ce_isnot (ha : CE GI X a wa) (hb : CE GI X b wb) : CE GI X (.Compare a [.IsNot] [b] pos) (wOp (isNR true) wa wb) := ce_cmp op_notN notN_snd ha hb (nomark _)
end

/-! ### slices -/
abbrev WO := XD → DEnv → CMap → (Option Int → CMap → Prop) → Prop
def lowO (K : PySem.W.Frag) (GI : Hp → Hp → Prop) (W : WX) (wo : WO) : TO := fun σ H Q => ∃ F env c E Qd, RepE K F env σ ∧ Rep K GI F c H ∧ LX K GI W F σ E ∧ wo E env c Qd ∧ ∀ F' c' H' b, Le F F' → Rep K GI F' c' H' → Qd b c' → Q b H'
def CO (GI : Hp → Hp → Prop) (X : Cx) (e : Option Expr) (wo : WO) : Prop := ∀ W, XOk X W → PO X e (lowO X.K GI W wo)
def wNo : WO := fun _ _ c Q => Q none c
def asI : D → CMap → (Int → CMap → Prop) → Prop
  | .int i, c, k => k i c
  | _, _, _ => False
theorem asI_int {d : D} {c : CMap} {k : Int → CMap → Prop} (h : asI d c k) : ∃ i, d = .int i ∧ k i c := by
  cases d <;> first | exact ⟨_, rfl, h⟩ | exact h.elim
def wSome (a : WE) : WO := fun E env c Q => a E env c fun d c1 => asI d c1 fun i c2 => Q (some i) c2
def cutG {α : Type} (xs : List α) (lo hi : Option Int) : List α := (xs.drop (HT.sIx xs.length 0 lo)).take (HT.sIx xs.length xs.length hi - HT.sIx xs.length 0 lo)
def sliceR (m : Bool) (c : CMap) (d : D) (lo hi : Option Int) (Q : DK) : Prop := match res c d with
  | .lst ds => newL m c (cutG ds lo hi) Q
  | .scr ns => newL m c ((cutG ns lo hi).map D.int) Q
  | .str z => z.length ≤ sizeLine ∧ Q (.str (cutS z lo hi)) c
  | .tup ds => ¬ (HT.sIx ds.length 0 lo = 0 ∧ HT.sIx ds.length ds.length hi = ds.length) ∧ Q (.tup (cutG ds lo hi)) c
  | _ => False
def wSl (m : Bool) (a : WE) (lo hi : WO) : WE := fun E env c Q => a E env c fun d c1 => lo E env c1 fun l c2 => hi E env c2 fun h c3 => sliceR m c3 d l h Q
theorem po_imp {X : Cx} {e : Option Expr} {t t' : TO} (h : PO X e t) (k : ∀ σ H Q, t' σ H Q → t σ H Q) : PO X e t' := ⟨fun pins s σ H Q I q => h.run pins s σ H Q I (k _ _ _ q)⟩
section
variable {GI : Hp → Hp → Prop} {X : Cx} {pos p2 : Pos} {a : Expr} {lo hi : Option Expr} {wa : WE} {wl wh : WO}
theorem co_none : CO GI X none wNo := fun W x => by
  refine po_imp po_none ?_
  rintro σ H Q ⟨F, env, c, E, Qd, re, rp, lx, q, k⟩
  exact k F c H none Le.rfl' rp q
theorem co_some (h : CE GI X a wa) : CO GI X (some a) (wSome wa) := fun W x => by
  refine po_imp (po_some (h W x)) ?_
  rintro σ H Q ⟨F, env, c, E, Qd, re, rp, lx, q, k⟩
  refine ⟨F, env, c, E, _, re, rp, lx, q, ?_⟩
  intro F1 c1 H1 v1 d1 l1 r1 h1 q1
  obtain ⟨i, rfl, q2⟩ := asI_int q1
  exact ⟨i, h1.int_inv, k F1 c1 H1 _ l1 r1 q2⟩
theorem cut_snd {K : PySem.W.Frag} {F : Hp} {vs : List V} {ds : List D} (h : DVs K F vs ds) (l u : Option Int) : DVs K F (cutV vs l u) (cutG ds l u) := by
  unfold cutV cutG
  rw [h.length]
  exact (h.drop _).take _
theorem sl_snd (m : Bool) {F H : Hp} {c : CMap} {v : V} {d : D} {l u : Option Int} {Qd : DK} {Q : VK} (r : Rep X.K GI F c H) (h : DV X.K F v d) (q : sliceR m c d l u Qd) (k : LQ X.K GI F Qd Q) :
    rSlL X.K v l u H Q ∨ rSlT X.K v l u H Q ∨ rSlS v l u H Q := by
  unfold sliceR at q
  split at q
  · rename_i e1
    obtain ⟨p, xs, rfl, g1, k1⟩ := res_lst r h e1
    exact .inl ⟨p, xs, rfl, SqL.of g1, newL_snd r (cut_snd k1 l u) q k⟩
  · rename_i e1
    obtain rfl := res_oth e1 (by intro _ z; cases z)
    obtain ⟨p, rfl, g1⟩ := h.scr_inv
    refine .inl ⟨p, _, rfl, sqL_le r.sub g1, newL_snd r (?_ : DVs X.K F _ _) q k⟩
    rename_i ns
    have e : cutV (ns.map V.int) l u = (cutG ns l u).map V.int := by
      unfold cutV cutG
      rw [List.length_map, List.map_take, List.map_drop]
    rw [e]
    exact DVs.ints
  · rename_i e1
    obtain rfl := res_oth e1 (by intro _ z; cases z)
    exact .inr (.inr ⟨_, h.str_inv, q.1, k F c H _ _ Le.rfl' r (.str _) q.2⟩)
  · rename_i e1
    obtain rfl := res_oth e1 (by intro _ z; cases z)
    obtain ⟨p, xs, rfl, g1, k1⟩ := h.tup_inv
    exact .inr (.inl ⟨p, xs, rfl, SqT.of (r.sub _ _ g1), by rw [k1.length]; exact q.1, newT_snd r (cut_snd k1 l u) q.2 k⟩)
  · exact q.elim
theorem ce_slice (m : Bool) (ha : CE GI X a wa) (hl : CO GI X lo wl) (hh : CO GI X hi wh) : CE GI X (.Subscript a (.Slice lo hi none p2) pos) (wSl m wa wl wh) := fun W x => by
  refine pe_imp (pe_slice (sl_list.or (sl_tup.or sl_str)) (ha W x) (hl W x) (hh W x)) ?_
  rintro σ H Q ⟨F, env, c, E, Qd, re, rp, lx, q, k⟩
  refine ⟨F, env, c, E, _, re, rp, lx, q, ?_⟩
  intro F1 c1 H1 v1 d1 l1 r1 h1 q1
  refine ⟨F1, env, c1, E, _, re.le l1, r1, lx.le l1, q1, ?_⟩
  intro F2 c2 H2 o2 l2 r2 q2
  refine ⟨F2, env, c2, E, _, (re.le l1).le l2, r2, (lx.le l1).le l2, q2, ?_⟩
  intro F3 c3 H3 o3 l3 r3 q3
  exact sl_snd m r3 ((h1.le l2).le l3) q3 (((k.le l1).le l2).le l3)
end

/-! ### built-ins -/
def lenR : RDn := fun c ds Q => match ds with
  | [d] => match res c d with
    | .lst es => Q (.int es.length) c
    | .tup es => Q (.int es.length) c
    | .kt es => Q (.int es.length) c
    | .scr ns => Q (.int ns.length) c
    | .str z => z.length ≤ sizeLine ∧ Q (.int z.length) c
    | _ => False
  | _ => False
theorem DVs.inv1 {K : PySem.W.Frag} {F : Hp} {vs : List V} {d : D} (h : DVs K F vs [d]) : ∃ v, vs = [v] ∧ DV K F v d := by
  cases h with
  | cons h k => cases k; exact ⟨_, rfl, h⟩
theorem DVs.inv2 {K : PySem.W.Frag} {F : Hp} {vs : List V} {d e : D} (h : DVs K F vs [d, e]) : ∃ v u, vs = [v, u] ∧ DV K F v d ∧ DV K F u e := by
  cases h with
  | cons h k =>
    obtain ⟨u, rfl, h2⟩ := k.inv1
    exact ⟨_, u, rfl, h, h2⟩
def intR : RDn := fun c ds Q => match ds with
  | [.int i] => Q (.int i) c
  | [.bl b] => Q (.int (if b then 1 else 0)) c
  | _ => False
def absR : RDn := fun c ds Q => match ds with
  | [.int i] => Q (.int (if i < 0 then -i else i)) c
  | _ => False
def max2R : RDn := fun c ds Q => match ds with
  | [.int i, .int j] => Q (.int (if j > i then j else i)) c
  | _ => False
def min2R : RDn := fun c ds Q => match ds with
  | [.int i, .int j] => Q (.int (if j < i then j else i)) c
  | _ => False
def strR : RDn := fun c ds Q => match ds with
  | [.int i] => i.natAbs.log2 < 1920 ∧ Q (.str (toString i)) c
  | _ => False
def rangeR : RDn := fun c ds Q => match ds with
  | [.int n] => ∀ p, c p = none → Q (.ref p) (updc c p (.raw (.rng 0 n)))
  | [.int a, .int b] => ∀ p, c p = none → Q (.ref p) (updc c p (.raw (.rng a b)))
  | _ => False
def upto (a : Int) (n : Nat) : List Int := (List.range n).map fun (i : Nat) => a + (i : Int)
def listR (m : Bool) : RDn := fun c ds Q => match ds with
  | [d] => match res c d with
    | .lst es => newL m c es Q
    | .tup es => newL m c es Q
    | .kt es => newL m c es Q
    | .scr ns => newL m c (ns.map D.int) Q
    | .ref p => match c p with
      | some (.raw (.rng a b)) => -(2 ^ 62) ≤ a ∧ a < 2 ^ 62 ∧ -(2 ^ 62) ≤ b ∧ b < 2 ^ 62 ∧ (b - a).toNat ≤ 2 ^ 24 ∧ newL m c ((upto a (b - a).toNat).map D.int) Q
      | _ => False
    | _ => False
  | _ => False
def tupleR : RDn := fun c ds Q => match ds with
  | [d] => match res c d with
    | .lst es => Q (.tup es) c
    | .tup es => Q (.tup es) c
    | _ => False
  | _ => False
def blsD : List D → Option (List Bool)
  | [] => some []
  | .bl b :: r => (blsD r).map (b :: ·)
  | _ => none
def allR : RDn := fun c ds Q => match ds with
  | [d] => match res c d with
    | .lst es => ∃ bs, blsD es = some bs ∧ Q (.bl (bs.all id)) c
    | _ => False
  | _ => False
def anyR : RDn := fun c ds Q => match ds with
  | [d] => match res c d with
    | .lst es => ∃ bs, blsD es = some bs ∧ Q (.bl (bs.any id)) c
    | _ => False
  | _ => False
def intsD : List D → Option (List Int)
  | [] => some []
  | .int b :: r => (intsD r).map (b :: ·)
  | _ => none
def sumR : RDn := fun c ds Q => match ds with
  | [d] => match res c d with
    | .lst es => ∃ ns, intsD es = some ns ∧ Q (.int ns.sum) c
    | _ => False
  | _ => False
def maxLR : RDn := fun c ds Q => match ds with
  | [d] => match res c d with
    | .lst es => ∃ ns, intsD es = some ns ∧ 0 < ns.length ∧ ∀ m, m ∈ ns → (∀ y, y ∈ ns → y ≤ m) → Q (.int m) c
    | _ => False
  | _ => False
def minLR : RDn := fun c ds Q => match ds with
  | [d] => match res c d with
    | .lst es => ∃ ns, intsD es = some ns ∧ 0 < ns.length ∧ ∀ m, m ∈ ns → (∀ y, y ∈ ns → m ≤ y) → Q (.int m) c
    | _ => False
  | _ => False
theorem bls_V {K : PySem.W.Frag} {F : Hp} : ∀ {vs : List V} {ds : List D} {bs : List Bool}, DVs K F vs ds → blsD ds = some bs → vs = bs.map V.bl
  | _, _, _, .nil, e => by simp only [blsD, Option.some.injEq] at e; subst e; rfl
  | _, _, _, .cons (d := d) h k, e => by
    cases d <;> simp only [blsD, reduceCtorEq, Option.map_eq_some_iff] at e
    obtain ⟨bs, e1, rfl⟩ := e
    rw [List.map_cons, ← bls_V k e1, h.bl_inv]
theorem ints_V {K : PySem.W.Frag} {F : Hp} : ∀ {vs : List V} {ds : List D} {bs : List Int}, DVs K F vs ds → intsD ds = some bs → vs = bs.map V.int
  | _, _, _, .nil, e => by simp only [intsD, Option.some.injEq] at e; subst e; rfl
  | _, _, _, .cons (d := d) h k, e => by
    cases d <;> simp only [intsD, reduceCtorEq, Option.map_eq_some_iff] at e
    obtain ⟨bs, e1, rfl⟩ := e
    rw [List.map_cons, ← ints_V k e1, h.int_inv]
theorem blsD_map (bs : List Bool) : blsD (bs.map D.bl) = some bs := by
  induction bs with
  | nil => rfl
  | cons b r ih => simp [blsD, ih]
theorem intsD_map (bs : List Int) : intsD (bs.map D.int) = some bs := by
  induction bs with
  | nil => rfl
  | cons b r ih => simp [intsD, ih]
def cellTy : Option Cell → Option String
  | some (.lst _) => some "list"
  | some (.dK _) => some "dict"
  | some (.dT _) => some "dict"
  | _ => none
/-- a value's type's name -/
def tyN (c : CMap) : D → Option String
  | .non => some "NoneType"
  | .bl _ => some "bool"
  | .int _ => some "int"
  | .str _ => some "str"
  | .tup _ => some "tuple"
  | .kt _ => some "tuple"
  | .lst _ => some "list"
  | .scr _ => some "list"
  | .ref p => cellTy (c p)
  | .ty _ => none
def tyNs : List String := ["NoneType", "bool", "int", "str", "tuple", "list", "dict"]
def isiB (t n : String) : Option Bool := if tyNs.contains t && tyNs.contains n then some (t == n || (t == "bool" && n == "int")) else none
theorem isi_kit {K : PySem.W.Frag} {t n : String} {b : Bool} (h : isiB t n = some b) : PySem.W.kitOne K (.type t) (.type n) = some b := by
  unfold isiB at h
  split at h
  · rename_i g
    simp only [tyNs, Bool.and_eq_true, List.contains_eq_mem, List.mem_cons, List.not_mem_nil, or_false, decide_eq_true_eq] at g
    simp only [Option.some.injEq] at h
    subst h
    obtain ⟨g1, g2⟩ := g
    rcases g1 with rfl | rfl | rfl | rfl | rfl | rfl | rfl <;> rcases g2 with rfl | rfl | rfl | rfl | rfl | rfl | rfl <;> rfl
  · cases h
def tysD : List D → Option (List String)
  | [] => some []
  | .ty n :: r => (tysD r).map (n :: ·)
  | _ => none
def isiAny (t : String) : List String → Option Bool
  | [] => some false
  | n :: r => match isiB t n with
    | some true => some true
    | some false => isiAny t r
    | none => none
theorem tysD_cls {K : PySem.W.Frag} {F : Hp} : ∀ {vs : List V} {ds : List D} {ns : List String}, DVs K F vs ds → tysD ds = some ns → Paired ClsV vs (ns.map Value.type)
  | _, _, _, .nil, e => by simp only [tysD, Option.some.injEq] at e; subst e; exact .nil
  | _, _, _, .cons (d := d) h k, e => by
    cases d <;> simp only [tysD, reduceCtorEq, Option.map_eq_some_iff] at e
    obtain ⟨ns, e1, rfl⟩ := e
    cases h
    exact .cons (.ty _) (tysD_cls k e1)
theorem isiAny_kit {K : PySem.W.Frag} {t : String} : ∀ {ns : List String} {b : Bool}, isiAny t ns = some b → PySem.W.kitAny K (.type t) (ns.map Value.type) = some b
  | [], b, e => e
  | n :: r, b, e => by
    simp only [isiAny] at e
    split at e
    · rename_i z
      simp only [Option.some.injEq] at e
      subst e
      exact kitAny_cons (isi_kit z) (fun z => by cases z) fun _ => rfl
    · rename_i z
      exact kitAny_cons (isi_kit z) (fun _ => isiAny_kit e) (fun z => by cases z)
    · cases e
def isiR : RDn := fun c ds Q => match ds with
  | [d, .ty n] => ∃ t b, tyN c d = some t ∧ isiB t n = some b ∧ Q (.bl b) c
  | [d, .tup ts] => ∃ t b ns, tyN c d = some t ∧ tysD ts = some ns ∧ isiAny t ns = some b ∧ Q (.bl b) c
  | _ => False
theorem tyN_snd {K : PySem.W.Frag} {GI : Hp → Hp → Prop} {F H : Hp} {c : CMap} {v : V} {d : D} {t : String} (r : Rep K GI F c H) (h : DV K F v d) (e : tyN c d = some t) : TyX K H v (.type t) := by
  cases d with
  | non => cases e; rw [h.non_inv]; exact .base .non
  | bl b => cases e; rw [h.bl_inv]; exact .base (.bl _)
  | int b => cases e; rw [h.int_inv]; exact .base (.int _)
  | str b => cases e; rw [h.str_inv]; exact .base (.str _)
  | tup ds => cases e; obtain ⟨a, xs, rfl, g, _⟩ := h.tup_inv; exact .base (.tup (r.sub _ _ g))
  | kt ds =>
    cases e
    obtain ⟨a, xs, rfl, g, _⟩ := h.kt_inv
    rcases sqT_le r.sub g with (g | ⟨o, g⟩) | ⟨o, its, n, g1, g2, _⟩
    · exact .base (.tup g)
    · exact .fTuple g
    · exact .kTuple g1 g2
  | lst ds => cases e; cases h with | lst g _ => exact .base (.lst (r.sub _ _ g))
  | scr ns =>
    cases e
    obtain ⟨a, rfl, g⟩ := h.scr_inv
    rcases sqL_le r.sub g with (g | ⟨o, g⟩) | ⟨o, its, n, g1, g2, _⟩
    · exact .base (.lst g)
    · exact .base (.frz g)
    · exact .kList g1 g2
  | ref p =>
    rw [h.ref_inv]
    have e : cellTy (c p) = some t := e
    unfold cellTy at e
    split at e
    · rename_i z
      cases e
      obtain ⟨_, o, h0, us, rfl, h1⟩ := r.cel _ _ z
      exact .base (.lst h0)
    · rename_i z
      cases e
      obtain ⟨_, o, h0, us, rfl, h1⟩ := r.cel _ _ z
      exact .base (.dK h0)
    · rename_i z
      cases e
      obtain ⟨_, o, h0, us, rfl, h1⟩ := r.cel _ _ z
      exact .base (.dT h0)
    · cases e
  | ty n => cases e
section
variable {GI : Hp → Hp → Prop} {X : Cx} {p pos : Pos} {x : Str} {e : Expr} {es : List Expr} {wr : WA}
theorem len_snd : SndN X.K GI (fun xs H Q => (∃ p ys, xs = [.ref p] ∧ (SqL X.K H p ys ∨ SqT X.K H p ys) ∧ Q (.int ys.length) H) ∨ ∃ z, xs = [.str z] ∧ z.length ≤ sizeLine ∧ Q (.int z.length) H) lenR := by
  intro F H c vs ds Qd Q r h q k
  unfold lenR at q
  split at q
  · obtain ⟨v, rfl, h0⟩ := h.inv1; clear h; have h := h0
    split at q
    · rename_i e1
      obtain ⟨p, xs, rfl, g1, k1⟩ := res_lst r h e1
      exact .inl ⟨p, xs, rfl, .inl (SqL.of g1), k F c H _ _ Le.rfl' r (by rw [k1.length]; exact .int _) q⟩
    · rename_i e1
      obtain rfl := res_oth e1 (by intro _ z; cases z)
      obtain ⟨p, xs, rfl, g1, k1⟩ := h.tup_inv
      exact .inl ⟨p, xs, rfl, .inr (SqT.of (r.sub _ _ g1)), k F c H _ _ Le.rfl' r (by rw [k1.length]; exact .int _) q⟩
    · rename_i e1
      obtain rfl := res_oth e1 (by intro _ z; cases z)
      obtain ⟨p, xs, rfl, g1, k1⟩ := h.kt_inv
      exact .inl ⟨p, xs, rfl, .inr (sqT_le r.sub g1), k F c H _ _ Le.rfl' r (by rw [k1.length]; exact .int _) q⟩
    · rename_i e1
      obtain rfl := res_oth e1 (by intro _ z; cases z)
      obtain ⟨p, rfl, g1⟩ := h.scr_inv
      exact .inl ⟨p, _, rfl, .inl (sqL_le r.sub g1), k F c H _ _ Le.rfl' r (by rw [List.length_map]; exact .int _) q⟩
    · rename_i e1
      obtain rfl := res_oth e1 (by intro _ z; cases z)
      exact .inr ⟨_, by rw [h.str_inv], q.1, k F c H _ _ Le.rfl' r (.int _) q.2⟩
    · exact q.elim
  · exact q.elim
theorem ce_len (hm : X.mg "len" = none) (ha : CA GI X [e] wr) (hg : Gl X "len" := by rfl) (he : starEach [e] X.env = (false, eval e X.env) :: starEach [] X.env := by rfl) (hpl : (backTo pos (starEach [] X.env)).any (·.1) = false := by rfl) :
    CE GI X (.Call (.Name "len" p) [e] [] pos) (wFn lenR wr) := ce_bfn (call_len_seq.or call_len_str) len_snd hm ha (hg := hg) (he := he) (hpl := hpl)
theorem int_snd : SndN X.K GI (fun xs H Q => (∃ i, xs = [.int i] ∧ Q (.int i) H) ∨ ∃ k, xs = [.bl k] ∧ Q (.int (if k then 1 else 0)) H) intR := by
  intro F H c vs ds Qd Q r h q k
  unfold intR at q
  split at q
  · obtain ⟨v, rfl, h0⟩ := h.inv1; clear h; have h := h0
    exact .inl ⟨_, by rw [h.int_inv], k F c H _ _ Le.rfl' r (.int _) q⟩
  · obtain ⟨v, rfl, h0⟩ := h.inv1; clear h; have h := h0
    exact .inr ⟨_, by rw [h.bl_inv], k F c H _ _ Le.rfl' r (.int _) q⟩
  · exact q.elim
theorem ce_intc (hm : X.mg "int" = none) (ha : CA GI X [e] wr) (hg : Gl X "int" := by rfl) (he : starEach [e] X.env = (false, eval e X.env) :: starEach [] X.env := by rfl) (hpl : (backTo pos (starEach [] X.env)).any (·.1) = false := by rfl) :
    CE GI X (.Call (.Name "int" p) [e] [] pos) (wFn intR wr) := ce_bcl call_int1 int_snd hm ha (hg := hg) (he := he) (hpl := hpl)
theorem ce_abs (hm : X.mg "abs" = none) (ha : CA GI X [e] wr) (hg : Gl X "abs" := by rfl) (he : starEach [e] X.env = (false, eval e X.env) :: starEach [] X.env := by rfl) (hpl : (backTo pos (starEach [] X.env)).any (·.1) = false := by rfl) :
    CE GI X (.Call (.Name "abs" p) [e] [] pos) (wFn absR wr) := ce_bfn call_abs (fun F H c vs ds Qd Q r h q k => by
  unfold absR at q
  split at q
  · obtain ⟨v, rfl, h0⟩ := h.inv1; clear h; have h := h0
    exact ⟨_, by rw [h.int_inv], k F c H _ _ Le.rfl' r (.int _) q⟩
  · exact q.elim) hm ha (hg := hg) (he := he) (hpl := hpl)
theorem ce_max2 {f : Expr} (hc : X.calm = true) (hm : X.mg "max" = none) (ha : CA GI X [e, f] wr) (hg : Gl X "max" := by rfl) (he : starEach [e, f] X.env = (false, eval e X.env) :: starEach [f] X.env := by rfl) (hpl : (backTo pos (starEach [f] X.env)).any (·.1) = false := by rfl) :
    CE GI X (.Call (.Name "max" p) [e, f] [] pos) (wFn max2R wr) := ce_bfn (call_max2 hc) (fun F H c vs ds Qd Q r h q k => by
  unfold max2R at q
  split at q
  · obtain ⟨v, u, rfl, h0, h'⟩ := h.inv2; clear h; have h := h0
    exact ⟨_, _, by rw [h.int_inv, h'.int_inv], k F c H _ _ Le.rfl' r (.int _) q⟩
  · exact q.elim) hm ha (hg := hg) (he := he) (hpl := hpl)
theorem ce_min2 {f : Expr} (hc : X.calm = true) (hm : X.mg "min" = none) (ha : CA GI X [e, f] wr) (hg : Gl X "min" := by rfl) (he : starEach [e, f] X.env = (false, eval e X.env) :: starEach [f] X.env := by rfl) (hpl : (backTo pos (starEach [f] X.env)).any (·.1) = false := by rfl) :
    CE GI X (.Call (.Name "min" p) [e, f] [] pos) (wFn min2R wr) := ce_bfn (call_min2 hc) (fun F H c vs ds Qd Q r h q k => by
  unfold min2R at q
  split at q
  · obtain ⟨v, u, rfl, h0, h'⟩ := h.inv2; clear h; have h := h0
    exact ⟨_, _, by rw [h.int_inv, h'.int_inv], k F c H _ _ Le.rfl' r (.int _) q⟩
  · exact q.elim) hm ha (hg := hg) (he := he) (hpl := hpl)
theorem ce_strc (hm : X.mg "str" = none) (ha : CA GI X [e] wr) (hg : Gl X "str" := by rfl) (he : starEach [e] X.env = (false, eval e X.env) :: starEach [] X.env := by rfl) (hpl : (backTo pos (starEach [] X.env)).any (·.1) = false := by rfl) :
    CE GI X (.Call (.Name "str" p) [e] [] pos) (wFn strR wr) := ce_bcl call_str_int (fun F H c vs ds Qd Q r h q k => by
  unfold strR at q
  split at q
  · obtain ⟨v, rfl, h0⟩ := h.inv1; clear h; have h := h0
    exact ⟨_, by rw [h.int_inv], q.1, k F c H _ _ Le.rfl' r (.str _) q.2⟩
  · exact q.elim) hm ha (hg := hg) (he := he) (hpl := hpl)
theorem ce_isi {f : Expr} (hm : X.mg "isinstance" = none) (ha : CA GI X [e, f] wr) (hg : Gl X "isinstance" := by rfl) (he : starEach [e, f] X.env = (false, eval e X.env) :: starEach [f] X.env := by rfl) (hpl : (backTo pos (starEach [f] X.env)).any (·.1) = false := by rfl) :
    CE GI X (.Call (.Name "isinstance" p) [e, f] [] pos) (wFn isiR wr) := ce_bfn (call_isi.or call_isiT) (fun F H c vs ds Qd Q r h q k => by
  unfold isiR at q
  split at q
  · obtain ⟨v, u, rfl, h0, h'⟩ := h.inv2; clear h; have h := h0
    obtain ⟨t, b, e1, e2, q⟩ := q
    cases h'
    exact .inl ⟨v, _, _, _, b, rfl, .ty _, tyN_snd r h e1, isi_kit e2, k F c H _ _ Le.rfl' r (.bl _) q⟩
  · obtain ⟨v, u, rfl, h0, h'⟩ := h.inv2; clear h; have h := h0
    obtain ⟨t, b, ns, e1, e2, e3, q⟩ := q
    obtain ⟨a, xs, rfl, g, kk⟩ := h'.tup_inv
    exact .inr ⟨v, a, xs, _, _, b, rfl, r.sub _ _ g, tysD_cls kk e2, tyN_snd r h e1, isiAny_kit e3, k F c H _ _ Le.rfl' r (.bl _) q⟩
  · exact q.elim) hm ha (hg := hg) (he := he) (hpl := hpl)
/-- range(a), range(a, b) as values -/
theorem call_rng : CallR X (.type "range") (fun vs H Q => (∃ n, vs = [.int n] ∧ ∀ p, H p = none → Q (.ref p) (upd H p (.rng 0 n))) ∨ ∃ a b, vs = [.int a, .int b] ∧ ∀ p, H p = none → Q (.ref p) (upd H p (.rng a b))) := by
  intro pins s σ H xs us Q I r h
  rcases h with ⟨n, rfl, q⟩ | ⟨a, b, rfl, q⟩
  · obtain ⟨u, rfl, t, rfl⟩ := vals1 r
    exact call_range_1 ⟨.ref s.heap.objs.size, _, I.laid (o := .rng 0 n) (fun b o e => Heap.get?_push_of_some _ e) (Nat.le_refl _) ⟨_, _, _, Heap.get?_push_size _ rfl⟩, rfl, q _ (I.hok.fresh (Nat.le_refl _))⟩
  · obtain ⟨u, u', rfl, ⟨t, rfl⟩, t', rfl⟩ := vals2 r
    exact call_range_2 ⟨.ref s.heap.objs.size, _, I.laid (o := .rng a b) (fun b o e => Heap.get?_push_of_some _ e) (Nat.le_refl _) ⟨_, _, _, Heap.get?_push_size _ rfl⟩, rfl, q _ (I.hok.fresh (Nat.le_refl _))⟩
theorem ce_range (hm : X.mg "range" = none) (ha : CA GI X (e :: es) wr) (hg : Gl X "range" := by rfl) (he : starEach (e :: es) X.env = (false, eval e X.env) :: starEach es X.env := by rfl) (hpl : (backTo pos (starEach es X.env)).any (·.1) = false := by rfl) :
    CE GI X (.Call (.Name "range" p) (e :: es) [] pos) (wFn rangeR wr) := ce_bcl call_rng (fun F H c vs ds Qd Q r h q k => by
  unfold rangeR at q
  split at q
  · obtain ⟨v, rfl, h0⟩ := h.inv1; clear h; have h := h0
    refine .inl ⟨_, by rw [h.int_inv], fun p hp => k F _ _ _ _ Le.rfl' (r.newC (k := .raw (.rng 0 _)) hp ⟨rfl, _, _, rfl⟩) (.ref p) (q p (r.frc hp))⟩
  · obtain ⟨v, u, rfl, h0, h'⟩ := h.inv2; clear h; have h := h0
    refine .inr ⟨_, _, by rw [h.int_inv, h'.int_inv], fun p hp => k F _ _ _ _ Le.rfl' (r.newC (k := .raw (.rng _ _)) hp ⟨rfl, _, _, rfl⟩) (.ref p) (q p (r.frc hp))⟩
  · exact q.elim) hm ha (hg := hg) (he := he) (hpl := hpl)
end
end DL
/-! the data layer: more built-ins; statements, loops, comprehensions, defs -/
namespace DL
open PySem PySem.Spec L2
open PyProof.Rows hiding St

theorem vals_of_items {a : Int} : ∀ {n : Nat} {us : List Value}, us.length = n → (∀ (j : Nat) v, us[j]? = some v → ∃ t, v = .int (a + (j : Int)) t) → Vals ((upto a n).map V.int) us := by
  intro n us hl h
  have key : ∀ (k : Nat) (us : List Value), (∀ (j : Nat) v, us[j]? = some v → ∃ t, v = .int (a + ((k + j : Nat) : Int)) t) → Vals ((List.range' k us.length).map fun (i : Nat) => V.int (a + (i : Int))) us := by
    intro k us
    induction us generalizing k with
    | nil => intro _; exact .nil
    | cons u r ih =>
      intro h
      rw [List.length_cons, List.range'_succ, List.map_cons]
      refine .cons ?_ (ih (k + 1) fun j v e => ?_)
      · obtain ⟨t, e⟩ := h 0 u (by simp)
        exact ⟨t, by simpa using e⟩
      · obtain ⟨t, e'⟩ := h (j + 1) v (by simpa using e)
        refine ⟨t, ?_⟩
        rw [e', show k + (j + 1) = k + 1 + j by omega]
  have := key 0 us (fun j v e => by simpa using h j v e)
  unfold upto
  rw [List.range_eq_range', ← hl, List.map_map]
  exact this
section
variable {GI : Hp → Hp → Prop} {X : Cx} {p pos : Pos} {x : Str} {e : Expr} {es : List Expr} {wr : WA}
theorem call_list_rng (hc : X.calm = true) : CallR X (.type "list") (fun vs H Q => ∃ p a b, vs = [.ref p] ∧ H p = some (.rng a b) ∧ -(2 ^ 62) ≤ a ∧ a < 2 ^ 62 ∧ -(2 ^ 62) ≤ b ∧ b < 2 ^ 62 ∧ (b - a).toNat ≤ 2 ^ 24 ∧
    ∀ l, H l = none → Q (.ref l) (upd H l (.lst ((upto a (b - a).toNat).map V.int)))) := by
  intro pins s σ H xs us Q I r h
  obtain ⟨p, a, b, rfl, hH, h1, h2, h3, h4, h5, q⟩ := h
  obtain ⟨u, rfl, ru⟩ := vals1 r
  cases (show u = Value.ref p from ru)
  obtain ⟨t, t2, t3, e⟩ := (show ObjOk X.prog X.w H s.heap p (.rng a b) from I.hok p _ hH)
  have hn : Builtin.Range.rangeSize a b 1 = (((b - a).toNat : Nat) : Int) := by rw [rangeSize_one]; split <;> omega
  refine call_list_range (I.ok.hd hc) e (small_one h1 h2 h3 h4) hn h5 fun h' tk acc' c' k hS it => ?_
  have hv : Vals ((upto a (b - a).toNat).map V.int) acc'.toList := vals_of_items (by simpa using it.1) fun j v ev => by
    obtain ⟨t, e⟩ := it.2 j v (by simpa using ev)
    exact ⟨t, by rw [e]; simp⟩
  have hz : ((upto a (b - a).toNat).map V.int).length ≤ sizeLine := by
    rw [hv.length, sizeLine_eq]
    have := it.1
    simp only [Array.length_toList]
    omega
  exact ⟨.ref s.heap.objs.size, _, I.laid (o := .lst ((upto a (b - a).toNat).map V.int)) k (Nat.le_refl _) ⟨hz, acc'.toList, c', hv, by simpa using hS⟩, rfl, q _ (I.hok.fresh (Nat.le_refl _))⟩
theorem list_snd (m : Bool) : SndN X.K GI (fun xs H Q => (∃ p ys, xs = [.ref p] ∧ (SqL X.K H p ys ∨ SqT X.K H p ys) ∧ ∀ l, H l = none → Q (.ref l) (upd H l (.lst ys))) ∨
    (∃ p a b, xs = [.ref p] ∧ H p = some (.rng a b) ∧ -(2 ^ 62) ≤ a ∧ a < 2 ^ 62 ∧ -(2 ^ 62) ≤ b ∧ b < 2 ^ 62 ∧ (b - a).toNat ≤ 2 ^ 24 ∧ ∀ l, H l = none → Q (.ref l) (upd H l (.lst ((upto a (b - a).toNat).map V.int))))) (listR m) := by
  intro F H c vs ds Qd Q r h q k
  unfold listR at q
  split at q
  · obtain ⟨v, rfl, h0⟩ := h.inv1; clear h; have h := h0
    split at q
    · rename_i e1
      obtain ⟨p, xs, rfl, g1, k1⟩ := res_lst r h e1
      exact .inl ⟨p, xs, rfl, .inl (SqL.of g1), newL_snd r k1 q k⟩
    · rename_i e1
      obtain rfl := res_oth e1 (by intro _ z; cases z)
      obtain ⟨p, xs, rfl, g1, k1⟩ := h.tup_inv
      exact .inl ⟨p, xs, rfl, .inr (SqT.of (r.sub _ _ g1)), newL_snd r k1 q k⟩
    · rename_i e1
      obtain rfl := res_oth e1 (by intro _ z; cases z)
      obtain ⟨p, xs, rfl, g1, k1⟩ := h.kt_inv
      exact .inl ⟨p, xs, rfl, .inr (sqT_le r.sub g1), newL_snd r k1 q k⟩
    · rename_i e1
      obtain rfl := res_oth e1 (by intro _ z; cases z)
      obtain ⟨p, rfl, g1⟩ := h.scr_inv
      exact .inl ⟨p, _, rfl, .inl (sqL_le r.sub g1), newL_snd r DVs.ints q k⟩
    · rename_i e1
      obtain rfl := res_oth e1 (by intro _ z; cases z)
      split at q
      · rename_i z
        obtain ⟨_, o, h0, rfl, _⟩ := r.cel _ _ z
        exact .inr ⟨_, _, _, by rw [h.ref_inv], h0, q.1, q.2.1, q.2.2.1, q.2.2.2.1, q.2.2.2.2.1, newL_snd r DVs.ints q.2.2.2.2.2 k⟩
      · exact q.elim
    · exact q.elim
  · exact q.elim
theorem ce_listc (m : Bool) (hc : X.calm = true) (hm : X.mg "list" = none) (ha : CA GI X [e] wr) (hg : Gl X "list" := by rfl) (he : starEach [e] X.env = (false, eval e X.env) :: starEach [] X.env := by rfl) (hpl : (backTo pos (starEach [] X.env)).any (·.1) = false := by rfl) :
    CE GI X (.Call (.Name "list" p) [e] [] pos) (wFn (listR m) wr) := ce_bcl (call_list_of.or (call_list_rng hc)) (list_snd m) hm ha (hg := hg) (he := he) (hpl := hpl)
theorem ce_tuplec (hm : X.mg "tuple" = none) (ha : CA GI X [e] wr) (hg : Gl X "tuple" := by rfl) (he : starEach [e] X.env = (false, eval e X.env) :: starEach [] X.env := by rfl) (hpl : (backTo pos (starEach [] X.env)).any (·.1) = false := by rfl) :
    CE GI X (.Call (.Name "tuple" p) [e] [] pos) (wFn tupleR wr) := ce_bcl call_tuple_of (fun F H c vs ds Qd Q r h q k => by
  unfold tupleR at q
  split at q
  · obtain ⟨v, rfl, h0⟩ := h.inv1; clear h; have h := h0
    split at q
    · rename_i e1
      obtain ⟨p, xs, rfl, g1, k1⟩ := res_lst r h e1
      exact ⟨p, xs, rfl, .inl ⟨SqL.of g1, newT_snd r k1 q k⟩⟩
    · rename_i e1
      obtain rfl := res_oth e1 (by intro _ z; cases z)
      obtain ⟨p, xs, rfl, g1, k1⟩ := h.tup_inv
      exact ⟨p, xs, rfl, .inr ⟨SqT.of (r.sub _ _ g1), k F c H _ _ Le.rfl' r (.tup g1 k1) q⟩⟩
    · exact q.elim
  · exact q.elim) hm ha (hg := hg) (he := he) (hpl := hpl)
theorem lst1_snd {r : List V → Hp → VK → Prop} {R : CMap → List D → DK → Prop} (hR : ∀ F H c a vs es Qd Q, Rep X.K GI F c H → SqL X.K H a vs → DVs X.K F vs es → R c es Qd → LQ X.K GI F Qd Q → r [.ref a] H Q) :
    SndN X.K GI r (fun c ds Q => match ds with
      | [d] => match res c d with
        | .lst es => R c es Q
        | _ => False
      | _ => False) := by
  intro F H c vs ds Qd Q rp h q k
  split at q
  · obtain ⟨v, rfl, h0⟩ := h.inv1; clear h; have h := h0
    split at q
    · rename_i e1
      obtain ⟨p, xs, rfl, g1, k1⟩ := res_lst rp h e1
      exact hR F H c p xs _ Qd Q rp (SqL.of g1) k1 q k
    · exact q.elim
  · exact q.elim
theorem ce_all (hc : X.calm = true) (hm : X.mg "all" = none) (ha : CA GI X [e] wr) (hg : Gl X "all" := by rfl) (he : starEach [e] X.env = (false, eval e X.env) :: starEach [] X.env := by rfl) (hpl : (backTo pos (starEach [] X.env)).any (·.1) = false := by rfl) :
    CE GI X (.Call (.Name "all" p) [e] [] pos) (wFn allR wr) := ce_bfn (cr_all hc) (lst1_snd (R := fun c es Q => ∃ bs, blsD es = some bs ∧ Q (.bl (bs.all id)) c) fun F H c a vs es Qd Q r s h q k => by
  obtain ⟨bs, e, q⟩ := q
  obtain rfl := bls_V h e
  exact ⟨a, bs, rfl, s, k F c H _ _ Le.rfl' r (.bl _) q⟩) hm ha (hg := hg) (he := he) (hpl := hpl)
theorem ce_any (hc : X.calm = true) (hm : X.mg "any" = none) (ha : CA GI X [e] wr) (hg : Gl X "any" := by rfl) (he : starEach [e] X.env = (false, eval e X.env) :: starEach [] X.env := by rfl) (hpl : (backTo pos (starEach [] X.env)).any (·.1) = false := by rfl) :
    CE GI X (.Call (.Name "any" p) [e] [] pos) (wFn anyR wr) := ce_bfn (cr_any hc) (lst1_snd (R := fun c es Q => ∃ bs, blsD es = some bs ∧ Q (.bl (bs.any id)) c) fun F H c a vs es Qd Q r s h q k => by
  obtain ⟨bs, e, q⟩ := q
  obtain rfl := bls_V h e
  exact ⟨a, bs, rfl, s, k F c H _ _ Le.rfl' r (.bl _) q⟩) hm ha (hg := hg) (he := he) (hpl := hpl)
theorem ce_sum (hc : X.calm = true) (hm : X.mg "sum" = none) (ha : CA GI X [e] wr) (hg : Gl X "sum" := by rfl) (he : starEach [e] X.env = (false, eval e X.env) :: starEach [] X.env := by rfl) (hpl : (backTo pos (starEach [] X.env)).any (·.1) = false := by rfl) :
    CE GI X (.Call (.Name "sum" p) [e] [] pos) (wFn sumR wr) := ce_bfn (cr_sum hc) (lst1_snd (R := fun c es Q => ∃ ns, intsD es = some ns ∧ Q (.int ns.sum) c) fun F H c a vs es Qd Q r s h q k => by
  obtain ⟨bs, e, q⟩ := q
  obtain rfl := ints_V h e
  exact ⟨a, bs, rfl, s, k F c H _ _ Le.rfl' r (.int _) q⟩) hm ha (hg := hg) (he := he) (hpl := hpl)
theorem ce_maxL (hc : X.calm = true) (hm : X.mg "max" = none) (ha : CA GI X [e] wr) (hg : Gl X "max" := by rfl) (he : starEach [e] X.env = (false, eval e X.env) :: starEach [] X.env := by rfl) (hpl : (backTo pos (starEach [] X.env)).any (·.1) = false := by rfl) :
    CE GI X (.Call (.Name "max" p) [e] [] pos) (wFn maxLR wr) := ce_bfn (cr_max hc) (lst1_snd (R := fun c es Q => ∃ ns, intsD es = some ns ∧ 0 < ns.length ∧ ∀ m, m ∈ ns → (∀ y, y ∈ ns → y ≤ m) → Q (.int m) c) fun F H c a vs es Qd Q r s h q k => by
  obtain ⟨bs, e, q0, q⟩ := q
  obtain rfl := ints_V h e
  exact ⟨a, bs, rfl, s, q0, fun m hm1 hm2 => k F c H _ _ Le.rfl' r (.int _) (q m hm1 hm2)⟩) hm ha (hg := hg) (he := he) (hpl := hpl)
theorem ce_minL (hc : X.calm = true) (hm : X.mg "min" = none) (ha : CA GI X [e] wr) (hg : Gl X "min" := by rfl) (he : starEach [e] X.env = (false, eval e X.env) :: starEach [] X.env := by rfl) (hpl : (backTo pos (starEach [] X.env)).any (·.1) = false := by rfl) :
    CE GI X (.Call (.Name "min" p) [e] [] pos) (wFn minLR wr) := ce_bfn (cr_min hc) (lst1_snd (R := fun c es Q => ∃ ns, intsD es = some ns ∧ 0 < ns.length ∧ ∀ m, m ∈ ns → (∀ y, y ∈ ns → m ≤ y) → Q (.int m) c) fun F H c a vs es Qd Q r s h q k => by
  obtain ⟨bs, e, q0, q⟩ := q
  obtain rfl := ints_V h e
  exact ⟨a, bs, rfl, s, q0, fun m hm1 hm2 => k F c H _ _ Le.rfl' r (.int _) (q m hm1 hm2)⟩) hm ha (hg := hg) (he := he) (hpl := hpl)
end
/-! ### sorted -/
def strsD : List D → Option (List Str)
  | [] => some []
  | .str b :: r => (strsD r).map (b :: ·)
  | _ => none
theorem strs_V2 {K : PySem.W.Frag} {F : Hp} : ∀ {vs : List V} {ds : List D} {bs : List Str}, DVs K F vs ds → strsD ds = some bs → vs = bs.map V.str
  | _, _, _, .nil, e => by simp only [strsD, Option.some.injEq] at e; subst e; rfl
  | _, _, _, .cons (d := d) h k, e => by
    cases d <;> simp only [strsD, reduceCtorEq, Option.map_eq_some_iff] at e
    obtain ⟨bs, e1, rfl⟩ := e
    rw [List.map_cons, ← strs_V2 k e1, h.str_inv]
theorem strsD_map (bs : List Str) : strsD (bs.map D.str) = some bs := by
  induction bs with
  | nil => rfl
  | cons b r ih => simp [strsD, ih]
theorem DVs.strs {K : PySem.W.Frag} {F : Hp} : ∀ {ns : List Str}, DVs K F (ns.map V.str) (ns.map D.str)
  | [] => .nil
  | n :: r => .cons (.str n) DVs.strs
def sortR (m : Bool) : RDn := fun c ds Q => match ds with
  | [d] => match res c d with
    | .lst es => (∃ ns, intsD es = some ns ∧ ∀ ns' : List Int, ns'.Perm ns → ns'.Pairwise (· ≤ ·) → newL m c (ns'.map D.int) Q) ∨ ∃ ss, strsD es = some ss ∧ ss.length < 64 ∧ ∀ ys : List Str, ys.Perm ss → PyProof.Rows.sortedS ys = true → newL m c (ys.map D.str) Q
    | _ => False
  | _ => False
theorem ce_sorted {GI : Hp → Hp → Prop} {X : Cx} {p pos : Pos} {e : Expr} {wr : WA} (m : Bool) (hm : X.mg "sorted" = none) (ha : CA GI X [e] wr) (hg : Gl X "sorted" := by rfl) (he : starEach [e] X.env = (false, eval e X.env) :: starEach [] X.env := by rfl) (hpl : (backTo pos (starEach [] X.env)).any (·.1) = false := by rfl) :
    CE GI X (.Call (.Name "sorted" p) [e] [] pos) (wFn (sortR m) wr) := ce_bfn (cr_sortedI.or cr_sortedS) (lst1_snd (R := fun c es Q => (∃ ns, intsD es = some ns ∧ ∀ ns' : List Int, ns'.Perm ns → ns'.Pairwise (· ≤ ·) → newL m c (ns'.map D.int) Q) ∨ ∃ ss, strsD es = some ss ∧ ss.length < 64 ∧ ∀ ys : List Str, ys.Perm ss → PyProof.Rows.sortedS ys = true → newL m c (ys.map D.str) Q) fun F H c a vs es Qd Q r s h q k => by
  rcases q with ⟨ns, e, q⟩ | ⟨ss, e, hl, q⟩
  · obtain rfl := ints_V h e
    exact .inl ⟨a, ns, rfl, s, fun ns' p g1 g2 hp => newL_snd r DVs.ints (q ns' g1 g2) k p hp⟩
  · obtain rfl := strs_V2 h e
    exact .inr ⟨a, ss, rfl, s, hl, fun ys p g1 g2 hp => newL_snd r DVs.strs (q ys g1 g2) k p hp⟩) hm ha (hg := hg) (he := he) (hpl := hpl)
/-- a cell's list laid by for ever -/
def frzR (d : D) (c1 : CMap) (Q : DK) : Prop := ∃ p ds, d = .ref p ∧ c1 p = some (.lst ds) ∧ Q (.lst ds) (delc c1 p)
def wFrz (a : WE) : WE := fun E env c Q => a E env c fun d c1 => frzR d c1 Q
theorem ce_frz {GI : Hp → Hp → Prop} {X : Cx} {e : Expr} {wa : WE} (h : CE GI X e wa) : CE GI X e (wFrz wa) := fun W x => by
  refine pe_imp (h W x) ?_
  rintro σ H Q ⟨F, env, c, E, Qd, re, rp, lx, q, k⟩
  refine ⟨F, env, c, E, _, re, rp, lx, q, ?_⟩
  rintro F1 c1 H1 v1 d1 l1 r1 h1 ⟨p, ds, rfl, e1, q1⟩
  obtain ⟨F2, l2, r2, h2⟩ := r1.frz e1
  rw [h1.ref_inv]
  exact k F2 _ H1 _ _ (l1.trans' l2) r2 h2 q1

/-- cells that nobody asks for any more may be left out -/
def wkQ (Q : DK) : DK := fun d c' => ∃ c2, SubC c2 c' ∧ Q d c2
def wWk (a : WE) : WE := fun E env c Q => a E env c (wkQ Q)
theorem ce_wk {GI : Hp → Hp → Prop} {X : Cx} {e : Expr} {wa : WE} (h : CE GI X e wa) : CE GI X e (wWk wa) := fun W x => by
  refine pe_imp (h W x) ?_
  rintro σ H Q ⟨F, env, c, E, Qd, re, rp, lx, q, k⟩
  refine ⟨F, env, c, E, _, re, rp, lx, q, ?_⟩
  rintro F1 c1 H1 v1 d1 l1 r1 h1 ⟨c2, s2, q1⟩
  exact k F1 c2 H1 _ _ l1 (r1.sub' s2) h1 q1

/-! ### statements -/
def wSeq (a b : WS) : WS := fun DD env c => a { DD with nx := fun env' c' => b DD env' c' } env c
def wSkip : WS := fun DD env c => DD.nx env c
def wBrk : WS := fun DD env c => DD.bk env c
def wCnt : WS := fun DD env c => DD.ct env c
def wDrop (a : WE) : WS := fun DD env c => a (exE DD env) env c fun _ c1 => DD.nx env c1
def wRet (a : WE) : WS := fun DD env c => a (exE DD env) env c DD.rt
def wRetN : WS := fun DD _ c => DD.rt .non c
def wIf (t : WT) (a b : WS) : WS := fun DD env c => t (exE DD env) env c fun k c1 => if k = true then a DD env c1 else b DD env c1
def wAsg (i : Nat) (a : WE) : WS := fun DD env c => a (exE DD env) env c fun d c1 => DD.nx (env.set i (some d)) c1
section
variable {GI : Hp → Hp → Prop} {X : Cx} {st : Stmt} {rest sa sb : List Stmt} {ws ws2 : WS} {e : Expr} {wa : WE} {wt : WT} {pos : Pos}
theorem css_nil : CSs GI X [] wSkip := fun W x => by
  refine pss_imp pss_nil ?_
  rintro Dn σ H ⟨F, env, c, DD, re, r, q, l⟩
  exact l.nx F env c σ H Le.rfl' re r q
theorem css_cons (h : CS GI X st ws) (h2 : CSs GI X rest ws2) : CSs GI X (st :: rest) (wSeq ws ws2) := fun W x => by
  refine pss_imp (pss_cons (h W x) (h2 W x)) ?_
  rintro Dn σ H ⟨F, env, c, DD, re, r, q, l⟩
  refine ⟨F, env, c, _, re, r, q, ⟨fun F1 env1 c1 σ1 H1 l1 re1 r1 q1 => ?_, l.rt, l.bk, l.ct, l.ex⟩⟩
  exact ⟨F1, env1, c1, DD, re1, r1, q1, l.le l1⟩
theorem css_one (h : CS GI X st ws) : CSs GI X [st] ws := fun W x => pss_one (h W x)
theorem cs_pass : CS GI X (.Pass pos) wSkip := fun W x => by
  refine ps_imp ps_pass ?_
  rintro Dn σ H ⟨F, env, c, DD, re, r, q, l⟩
  exact l.nx F env c σ H Le.rfl' re r q
theorem cs_break : CS GI X (.Break pos) wBrk := fun W x => by
  refine ps_imp ps_break ?_
  rintro Dn σ H ⟨F, env, c, DD, re, r, q, l⟩
  exact l.bk F env c σ H Le.rfl' re r q
theorem cs_continue : CS GI X (.Continue pos) wCnt := fun W x => by
  refine ps_imp ps_continue ?_
  rintro Dn σ H ⟨F, env, c, DD, re, r, q, l⟩
  exact l.ct F env c σ H Le.rfl' re r q
theorem cs_expr (h : CE GI X e wa) (hs : swapsWith e none pos.line X.env = pure false := by rfl) : CS GI X (.Expr e pos) (wDrop wa) := fun W x => by
  refine ps_imp (ps_expr (h W x) hs) ?_
  rintro Dn σ H ⟨F, env, c, DD, re, r, q, l⟩
  refine ⟨F, env, c, _, _, re, r, l.lx re, q, ?_⟩
  intro F1 c1 H1 v d l1 r1 h1 q1
  exact l.nx F1 env c1 σ H1 l1 (re.le l1) r1 q1
theorem cs_ret (h : CE GI X e wa) : CS GI X (.Return (some e) pos) (wRet wa) := fun W x => by
  refine ps_imp (ps_ret (h W x)) ?_
  rintro Dn σ H ⟨F, env, c, DD, re, r, q, l⟩
  exact ⟨F, env, c, _, _, re, r, l.lx re, q, fun F1 c1 H1 v d l1 r1 h1 q1 => l.rt F1 c1 H1 v d l1 r1 h1 q1⟩
theorem cs_retN : CS GI X (.Return none pos) wRetN := fun W x => by
  refine ps_imp ps_retN ?_
  rintro Dn σ H ⟨F, env, c, DD, re, r, q, l⟩
  exact l.rt F c H _ _ Le.rfl' r .non q
theorem cs_if (h : CT GI X e wt) (ha : CSs GI X sa ws) (hb : CSs GI X sb ws2) : CS GI X (.If e sa sb pos) (wIf wt ws ws2) := fun W x => by
  refine ps_imp (ps_if (h W x) (ha W x) (hb W x)) ?_
  rintro Dn σ H ⟨F, env, c, DD, re, r, q, l⟩
  refine ⟨F, env, c, _, _, re, r, l.lx re, q, ?_⟩
  intro F1 c1 H1 b l1 r1 q1
  cases b with
  | true => rw [if_pos rfl] at q1 ⊢; exact ⟨F1, env, c1, DD, re.le l1, r1, q1, l.le l1⟩
  | false => rw [if_neg (by decide)] at q1 ⊢; exact ⟨F1, env, c1, DD, re.le l1, r1, q1, l.le l1⟩
theorem cs_asg (i : Nat) {x : Str} {pos' : Pos} (he : CE GI X e wa) (hi : X.N[i]? = some x := by rfl) (hx : Loc X.env.scope x := by first | exact Or.inl rfl | exact Or.inr rfl) (hs : swapsWith e (some (.Name x pos')) pos.line X.env = pure false := by rfl)
    (hf : X.fn x = true ∨ X.env.scope.names.lookup x = some .local := by first | exact .inl rfl | exact .inr rfl) : CS GI X (.Assign [.Name x pos'] e pos) (wAsg i wa) := fun W xo => by
  refine ps_imp (ps_set xo.nd hi hx (he W xo) hs hf) ?_
  rintro Dn σ H ⟨F, env, c, DD, re, r, q, l⟩
  refine ⟨F, env, c, _, _, re, r, l.lx re, q, ?_⟩
  intro F1 c1 H1 v d l1 r1 h1 q1
  exact l.nx F1 _ c1 _ H1 l1 ((re.le l1).set i h1) r1 q1
end
/-! ### targets -/
abbrev WG := D → DEnv → CMap → (DEnv → CMap → Prop) → Prop
abbrev WGs := List D → DEnv → CMap → (DEnv → CMap → Prop) → Prop
def lowG (K : PySem.W.Frag) (GI : Hp → Hp → Prop) (vs : List Nat) (wg : WG) : TG := fun v σ H Q => ∃ F env c d Qd, RepE K F env σ ∧ Rep K GI F c H ∧ DV K F v d ∧ wg d env c Qd ∧ ∀ F' env' c' σ' H', Le F F' → RepE K F' env' σ' → Rep K GI F' c' H' → wipe σ' vs = wipe σ vs → Qd env' c' → Q σ' H'
def lowGs (K : PySem.W.Frag) (GI : Hp → Hp → Prop) (vs : List Nat) (wg : WGs) : TGs := fun us σ H Q => ∃ F env c ds Qd, RepE K F env σ ∧ Rep K GI F c H ∧ DVs K F us ds ∧ wg ds env c Qd ∧ ∀ F' env' c' σ' H', Le F F' → RepE K F' env' σ' → Rep K GI F' c' H' → wipe σ' vs = wipe σ vs → Qd env' c' → Q σ' H'
def CG (GI : Hp → Hp → Prop) (X : Cx) (vs : List Nat) (tg : Expr) (wg : WG) : Prop := X.N.Nodup → PG X tg (lowG X.K GI vs wg)
def CGs (GI : Hp → Hp → Prop) (X : Cx) (vs : List Nat) (tg : List Expr) (wg : WGs) : Prop := X.N.Nodup → PGs X tg (lowGs X.K GI vs wg)
theorem pg_imp {X : Cx} {e : Expr} {t t' : TG} (h : PG X e t) (k : ∀ v σ H Q, t' v σ H Q → t v σ H Q) : PG X e t' := ⟨fun pins s σ H v u Q I r q => h.run pins s σ H v u Q I r (k _ _ _ _ q)⟩
theorem pgs_imp {X : Cx} {e : List Expr} {t t' : TGs} (h : PGs X e t) (k : ∀ v σ H Q, t' v σ H Q → t v σ H Q) : PGs X e t' := ⟨fun pins s σ H v u Q I r q => h.run pins s σ H v u Q I r (k _ _ _ _ q)⟩
theorem wipe_set {i : Nat} {x : Option V} : ∀ {vs : List Nat} {σ : St}, i ∈ vs → wipe (σ.set i x) vs = wipe σ vs
  | v :: vs, σ, h => by
    have key : ∀ (ws : List Nat) (τ : St), (wipe (τ.set i x) ws).set i none = (wipe τ ws).set i none := by
      intro ws
      induction ws with
      | nil => intro τ; show (τ.set i x).set i none = τ.set i none; rw [List.set_set]
      | cons w ws ih =>
        intro τ
        show ((wipe (τ.set i x) ws).set w none).set i none = ((wipe τ ws).set w none).set i none
        by_cases hw : w = i
        · subst hw; rw [List.set_set, List.set_set, ih]
        · rw [List.set_comm _ _ hw, ih, List.set_comm _ _ (Ne.symm hw)]
    rcases List.mem_cons.mp h with rfl | h
    · exact key vs σ
    · show (wipe (σ.set i x) vs).set v none = (wipe σ vs).set v none
      rw [wipe_set h]
def gNm (i : Nat) : WG := fun d env c Q => Q (env.set i (some d)) c
def gNl : WGs := fun ds env c Q => ds = [] ∧ Q env c
def gCn (g : WG) (gs : WGs) : WGs := fun ds env c Q => ∃ d r, ds = d :: r ∧ g d env c fun env' c' => gs r env' c' Q
def gTp (n : Nat) (gs : WGs) : WG := fun d env c Q => ∃ ds, (d = .tup ds ∨ d = .kt ds) ∧ ds.length = n ∧ gs ds env c Q
section
variable {GI : Hp → Hp → Prop} {X : Cx} {pos : Pos} {vs : List Nat} {es : List Expr} {g : WG} {gs : WGs} {e : Expr}
theorem cg_name (i : Nat) {x : Str} (hv : i ∈ vs := by decide) (hi : X.N[i]? = some x := by rfl) (hx : Loc X.env.scope x := by first | exact Or.inl rfl | exact Or.inr rfl) (hf : X.fn x = true ∨ X.env.scope.names.lookup x = some .local := by first | exact .inl rfl | exact .inr rfl) : CG GI X vs (.Name x pos) (gNm i) := fun nd => by
  refine pg_imp (pg_name nd hi hx hf) ?_
  rintro v σ H Q ⟨F, env, c, d, Qd, re, r, h, q, k⟩
  exact k F _ c _ H Le.rfl' (re.set i h) r (wipe_set hv) q
theorem cgs_nil : CGs GI X vs [] gNl := fun nd => by
  refine pgs_imp pgs_nil ?_
  rintro v σ H Q ⟨F, env, c, ds, Qd, re, r, h, ⟨rfl, q⟩, k⟩
  cases h
  exact ⟨rfl, k F _ c _ H Le.rfl' re r rfl q⟩
theorem cgs_cons (h1 : CG GI X vs e g) (h2 : CGs GI X vs es gs) (hs : (assignEach (e :: es) X.env).map (·.2) = assign e X.env :: (assignEach es X.env).map (·.2) := by rfl) : CGs GI X vs (e :: es) (gCn g gs) := fun nd => by
  refine pgs_imp (pgs_cons (h1 nd) (h2 nd) hs) ?_
  rintro us σ H Q ⟨F, env, c, ds, Qd, re, r, h, ⟨d, dr, rfl, q⟩, k⟩
  cases h with
  | cons ha hb =>
    refine ⟨_, _, rfl, F, env, c, d, _, re, r, ha, q, ?_⟩
    intro F1 env1 c1 σ1 H1 l1 re1 r1 w1 q1
    refine ⟨F1, env1, c1, dr, Qd, re1, r1, hb.le l1, q1, ?_⟩
    intro F2 env2 c2 σ2 H2 l2 re2 r2 w2 q2
    exact k F2 env2 c2 σ2 H2 (l1.trans' l2) re2 r2 (w2.trans w1) q2
theorem cg_tup (n : Nat) {k : Nat} (hc : X.calm = true) (h : CGs GI X vs es gs) (hn : (assignEach es X.env).length = n := by rfl) (hst : (assignEach es X.env).findIdx? (·.1) = none := by rfl) : CG GI X vs (.Tuple es k pos) (gTp n gs) := fun nd => by
  refine pg_imp (pg_tup hc (h nd) hn hst) ?_
  rintro v σ H Q ⟨F, env, c, d, Qd, re, r, h, ⟨ds, hd, hl, q⟩, kk⟩
  rcases hd with rfl | rfl
  · obtain ⟨a, xs, rfl, g1, k1⟩ := h.tup_inv
    exact ⟨a, xs, rfl, SqT.of (r.sub _ _ g1), by rw [k1.length]; exact hl, F, env, c, ds, Qd, re, r, k1, q, kk⟩
  · obtain ⟨a, xs, rfl, g1, k1⟩ := h.kt_inv
    exact ⟨a, xs, rfl, sqT_le r.sub g1, by rw [k1.length]; exact hl, F, env, c, ds, Qd, re, r, k1, q, kk⟩
end
def wAsgG (g : WG) (a : WE) : WS := fun DD env c => a (exE DD env) env c fun d c1 => g d env c1 DD.nx
theorem cs_asgG {GI : Hp → Hp → Prop} {X : Cx} {pos : Pos} (vs : List Nat) {tg e : Expr} {wa : WE} {g : WG} (he : CE GI X e wa) (hg : CG GI X vs tg g) (hs : swapsWithSole [tg] e pos.line X.env = pure false := by rfl) (hw : swappedStores [tg] e X.env = pure none := by rfl)
    (h1 : (assignEach [tg] X.env).map (·.2) = [assign tg X.env] := by rfl) : CS GI X (.Assign [tg] e pos) (wAsgG g wa) := fun W x => by
  refine ps_imp (ps_asg (he W x) (hg x.nd) hs hw h1) ?_
  rintro Dn σ H ⟨F, env, c, DD, re, r, q, l⟩
  refine ⟨F, env, c, _, _, re, r, l.lx re, q, ?_⟩
  intro F1 c1 H1 v d l1 r1 h1 q1
  exact ⟨F1, env, c1, d, _, re.le l1, r1, h1, q1, fun F2 env2 c2 σ2 H2 l2 re2 r2 _ q2 => l.nx F2 env2 c2 σ2 H2 (l1.trans' l2) re2 r2 q2⟩
/-- o[i] = e -/
def putKD {κ : Type} [DecidableEq κ] (kvs : List (κ × D)) (k : κ) (v : D) : List (κ × D) :=
  if (kvs.any fun kv => decide (kv.1 = k)) = true then kvs.map (fun kv => if kv.1 = k then (kv.1, v) else kv) else kvs ++ [(k, v)]
def setR (c : CMap) (o i v : D) (Q : CMap → Prop) : Prop := ∃ p, o = .ref p ∧ match c p with
  | some (.lst ds) => ∃ k j, i = .int k ∧ ixN ds.length k = some j ∧ Q (updc c p (.lst (ds.set j v)))
  | some (.dK kvs) => ∃ k, keyD i = some k ∧ kvs.length < sizeLine ∧ Q (updc c p (.dK (putKD kvs k v)))
  | some (.dT kvs) => ∃ es k, i = .tup es ∧ keysD es = some k ∧ kvs.length < sizeLine ∧ Q (updc c p (.dT (putKD kvs k v)))
  | _ => False
def wSet (o i a : WE) : WS := fun DD env c => a (exE DD env) env c fun d c1 => o (exE DD env) env c1 fun x c2 => i (exE DD env) env c2 fun y c3 => setR c3 x y d fun c4 => DD.nx env c4
theorem set_dict {X : Cx} (hu : X.A.units + 1 < cLine) : PSet X (fun o i v H Q => ∃ a H4, o = .ref a ∧ DPut H a i v H4 ∧ Q H4) := by
  intro pins s σ H o i v ov iv u Q I ro ri rv h
  obtain ⟨a, H4, rfl, g, q⟩ := h
  cases ro
  exact d_setItem hu I g ri rv fun s' I' => ⟨H4, I', q⟩
theorem pset_or {X : Cx} {t t' : TSet} (h : PSet X t) (h' : PSet X t') : PSet X (fun o i v H Q => t o i v H Q ∨ t' o i v H Q) := by
  intro pins s σ H o i v ov iv u Q I ro ri rv q
  rcases q with q | q
  · exact h pins s σ H o i v ov iv u Q I ro ri rv q
  · exact h' pins s σ H o i v ov iv u Q I ro ri rv q
theorem KD.length {κ : Type} {K : PySem.W.Frag} {F : Hp} {us : List (κ × V)} {kvs : List (κ × D)} (h : KD K F us kvs) : us.length = kvs.length := Paired.length h
theorem KD.repl {κ : Type} [DecidableEq κ] {K : PySem.W.Frag} {F : Hp} {us : List (κ × V)} {kvs : List (κ × D)} (h : KD K F us kvs) (k : κ) {v : V} {d : D} (q : DV K F v d) :
    KD K F (us.map fun kv => if kv.1 = k then (kv.1, v) else kv) (kvs.map fun kv => if kv.1 = k then (kv.1, d) else kv) := by
  induction h with
  | nil => exact .nil
  | @cons a b l1 l2 z t ih =>
    rw [List.map_cons, List.map_cons]
    refine .cons ?_ ih
    obtain ⟨z1, z2⟩ := z
    by_cases e : a.1 = k
    · rw [if_pos e, if_pos (by rw [← z1]; exact e)]; exact ⟨z1, q⟩
    · rw [if_neg e, if_neg (by rw [← z1]; exact e)]; exact ⟨z1, z2⟩
theorem KD.put {κ : Type} [DecidableEq κ] {K : PySem.W.Frag} {F : Hp} {us : List (κ × V)} {kvs : List (κ × D)} (h : KD K F us kvs) (k : κ) {v : V} {d : D} (q : DV K F v d) : KD K F (putK us k v) (putKD kvs k d) := by
  have hany : (us.any fun kv => decide (kv.1 = k)) = (kvs.any fun kv => decide (kv.1 = k)) := by
    induction h with
    | nil => rfl
    | cons a t ih => rw [List.any_cons, List.any_cons, ih, a.1]
  unfold putK putKD
  rw [hany]
  split
  · exact KD.repl h k q
  · exact Paired.snoc h ⟨rfl, q⟩
theorem set_snd {K : PySem.W.Frag} {GI : Hp → Hp → Prop} {F H : Hp} {c : CMap} {o i v : V} {x y d : D} {Qd : CMap → Prop} {Q : Hp → Prop} (r : Rep K GI F c H) (ho : DV K F o x) (hi : DV K F i y) (hv : DV K F v d) (q : setR c x y d Qd)
    (k : ∀ c' H', Rep K GI F c' H' → Qd c' → Q H') : rSetL o i v H Q ∨ ∃ a H4, o = .ref a ∧ DPut H a i v H4 ∧ Q H4 := by
  obtain ⟨p, rfl, q⟩ := q
  rw [ho.ref_inv]
  split at q
  · rename_i ds e
    obtain ⟨kk, j, rfl, q1, q2⟩ := q
    obtain ⟨us, h0, h1⟩ := r.lst e
    refine .inl ⟨p, us, kk, j, rfl, hi.int_inv, h0, by rw [h1.length]; exact q1, k _ _ (r.wr (k := .lst (ds.set j d)) e (by rw [h0]; trivial) ⟨_, rfl, h1.set j hv⟩) q2⟩
  · rename_i kvs e
    obtain ⟨kk, q0, q1, q2⟩ := q
    obtain ⟨_, o, h0, us, rfl, h1⟩ := r.cel _ _ e
    obtain rfl := keyD_kV hi q0
    exact .inr ⟨p, _, rfl, DPut.k h0 (by rw [h1.length]; exact q1), k _ _ (r.wr (k := .dK (putKD kvs kk d)) e (by rw [h0]; trivial) ⟨_, rfl, h1.put kk hv⟩) q2⟩
  · rename_i kvs e
    obtain ⟨es, kk, rfl, q0, q1, q2⟩ := q
    obtain ⟨_, o, h0, us, rfl, h1⟩ := r.cel _ _ e
    obtain ⟨b, xs, rfl, g1, g2⟩ := hi.tup_inv
    obtain rfl := keysD_kV g2 q0
    exact .inr ⟨p, _, rfl, DPut.t h0 (r.sub _ _ g1) (by rw [h1.length]; exact q1), k _ _ (r.wr (k := .dT (putKD kvs kk d)) e (by rw [h0]; trivial) ⟨_, rfl, h1.put kk hv⟩) q2⟩
  · exact q.elim
theorem cs_set {GI : Hp → Hp → Prop} {X : Cx} {pos pos' : Pos} {o i e : Expr} {wo wi wa : WE} (hr : Room 0 X.A) (ho : CE GI X o wo) (hi : CE GI X i wi) (he : CE GI X e wa) (hs : swapsWithSole [.Subscript o i pos'] e pos.line X.env = pure false := by rfl)
    (hw : swappedStores [.Subscript o i pos'] e X.env = pure none := by rfl) (h1 : (assignEach [.Subscript o i pos'] X.env).map (·.2) = [assign (.Subscript o i pos') X.env] := by rfl)
    (hA : ∀ v, assign (.Subscript o i pos') X.env v = (do
      let ov ← holding [v] (eval o X.env)
      let iv ← holding [v, ov] (eval i X.env)
      standAt pos'
      holding [v, ov, iv] (setItem ov iv v)
      release [v, ov, iv] []) := by intro _; rfl) : CS GI X (.Assign [.Subscript o i pos'] e pos) (wSet wo wi wa) := fun W x => by
  refine ps_imp (ps_asg (he W x) (pg_sub (ho W x) (hi W x) (pset_or set_list (set_dict (hu_of hr))) hA) hs hw h1) ?_
  rintro Dn σ H ⟨F, env, c, DD, re, r, q, l⟩
  refine ⟨F, env, c, _, _, re, r, l.lx re, q, ?_⟩
  intro F1 c1 H1 v d l1 r1 h1 q1
  refine ⟨F1, env, c1, _, _, re.le l1, r1, (l.le l1).lx (re.le l1), q1, ?_⟩
  intro F2 c2 H2 o2 x2 l2 r2 h2 q2
  refine ⟨F2, env, c2, _, _, (re.le l1).le l2, r2, ((l.le l1).le l2).lx ((re.le l1).le l2), q2, ?_⟩
  intro F3 c3 H3 i3 y3 l3 r3 h3 q3
  exact set_snd r3 (h2.le l3) h3 ((h1.le l2).le l3) q3 fun c4 H4 r4 q4 => l.nx F3 env c4 σ H4 ((l1.trans' l2).trans' l3) (((re.le l1).le l2).le l3) r4 q4

/-! ### what a loop walks -/
/-- what a walk asks of the cells at each turn -/
abbrev noG : CMap → Prop := fun _ => True
abbrev WI := XD → DEnv → CMap → (List D → (CMap → Prop) → CMap → Prop) → Prop
def DIter (K : PySem.W.Frag) (GI : Hp → Hp → Prop) (J : It) (ds : List D) (G : CMap → Prop) (F : Hp) : Prop := ∀ (F1 : Hp) (c : CMap) (H : Hp) (i : Nat), Le F F1 → Rep K GI F1 c H → G c →
  (∀ d, ds[i]? = some d → J.go i H ∧ ∀ x H', J.yld i H x H' → ∃ F2, Le F1 F2 ∧ Rep K GI F2 c H' ∧ DV K F2 x d) ∧ (ds.length ≤ i → J.stop i H)
theorem DIter.le {K : PySem.W.Frag} {GI : Hp → Hp → Prop} {J : It} {ds : List D} {G : CMap → Prop} {F F' : Hp} (l : Le F F') (h : DIter K GI J ds G F) : DIter K GI J ds G F' := fun F1 c H i l1 => h F1 c H i (l.trans' l1)
def lowI (K : PySem.W.Frag) (GI : Hp → Hp → Prop) (W : WX) (wi : WI) : TI := fun σ H R => ∃ F env c E Qd, RepE K F env σ ∧ Rep K GI F c H ∧ LX K GI W F σ E ∧ wi E env c Qd ∧ ∀ F' c' H' J ds G, Le F F' → Rep K GI F' c' H' → DIter K GI J ds G F' → Qd ds G c' → R J H'
def CI (GI : Hp → Hp → Prop) (X : Cx) (tg e : Expr) (wi : WI) : Prop := ∀ W, XOk X W → PI X tg e (lowI X.K GI W wi)
theorem pi_imp {X : Cx} {tg e : Expr} {t t' : TI} (h : PI X tg e t) (k : ∀ σ H Q, t' σ H Q → t σ H Q) : PI X tg e t' := ⟨fun pins s σ H Q I q => h.run pins s σ H Q I (k _ _ _ q)⟩
/-- a frozen list, a tuple, a text, as what is walked -/
def itsD : D → Option (List D)
  | .lst ds => some ds
  | .tup ds => some ds
  | .kt ds => some ds
  | .scr ns => some (ns.map D.int)
  | .str z => some (z.cps.toList.map fun k => D.str ⟨#[k]⟩)
  | _ => none
def itR (d : D) (c1 : CMap) (N : List D → (CMap → Prop) → CMap → Prop) : Prop := (∃ ds, itsD d = some ds ∧ N ds noG c1) ∨ ∃ p ds, d = .ref p ∧ c1 p = some (.lst ds) ∧ N ds (fun c => c p = some (.lst ds)) c1
def wIt (a : WE) : WI := fun E env c Q => a E env c fun d c1 => itR d c1 Q
theorem pi_any {X : Cx} {tg e : Expr} {te : TE} (he : PE X e te) : PI X tg e (fun σ H R => te σ H fun v H1 => (∃ a, v = .ref a ∧ (∃ xs, SqL X.K H1 a xs) ∧ R (Itl X.K a) H1) ∨ (∃ a, v = .ref a ∧ (∃ xs, SqT X.K H1 a xs) ∧ R (Itt X.K a) H1) ∨ ∃ z, v = .str z ∧ R (Its z) H1) := by
  refine ⟨fun pins s σ H R I0 h0 => ?_⟩
  refine thn (he.run pins s σ H _ I0 h0) fun u s1 ⟨y, H1, I, ry, hy⟩ => ?_
  rcases hy with ⟨a, rfl, ⟨xs, hq⟩, q⟩ | ⟨a, rfl, ⟨xs, hq⟩, q⟩ | ⟨z, rfl, q⟩
  · cases ry
    obtain ⟨its, _, pl, _⟩ := I.list hq
    exact wpAny_pyIter_list pl.isList (pi_one (tk := s1.toks) I _ (turn_list a _) ⟨_, Heap.get?_push_size _ rfl, rfl, rfl⟩ q)
  · cases ry
    obtain ⟨its, _, pl, _⟩ := I.tuple hq
    exact wpAny_pyIter_tuple (show s1.heap.IsTuple a its.toArray from pl) (pi_one (tk := s1.toks) I _ (turn_tuple a _) ⟨_, Heap.get?_push_size _ rfl, rfl, rfl⟩ q)
  · obtain ⟨t, rfl⟩ := ry
    cases hw : z.cps.all (· < 128) with
    | false => exact wpAny_pyIter_wide hw (pi_one (tk := s1.toks) I _ (turn_str _ z t "str_iterator" (.inr rfl)) ⟨_, Heap.get?_push_size _ rfl, rfl, rfl⟩ q)
    | true => exact wpAny_pyIter_ascii hw (pi_one (tk := s1.toks) I _ (turn_str _ z t "str_ascii_iterator" (.inl rfl)) ⟨_, Heap.get?_push_size _ rfl, rfl, rfl⟩ q)
section
variable {K : PySem.W.Frag} {GI : Hp → Hp → Prop} {F : Hp} {a : Addr} {xs : List V} {ds : List D}
theorem diter_list (h : SqL K F a xs) (k : DVs K F xs ds) : DIter K GI (Itl K a) ds noG F := by
  intro F1 c H i l r _
  have h1 := sqL_le r.sub (sqL_le l h)
  refine ⟨fun d e => ?_, fun e => ⟨xs, h1, by rw [k.length]; exact e⟩⟩
  obtain ⟨v, e1, e2⟩ := k.at i e
  refine ⟨⟨xs, v, h1, e1⟩, fun x H' ⟨eH, y⟩ => ?_⟩
  subst eH
  have := y xs h1
  rw [e1] at this; cases this
  exact ⟨F1, Le.rfl', r, e2.le l⟩
theorem diter_cell {p : Addr} : DIter K GI (Itl K p) ds (fun c => c p = some (.lst ds)) F := by
  intro F1 c H i l r g
  obtain ⟨us, h1, k⟩ := r.lst g
  refine ⟨fun d e => ?_, fun e => ⟨us, SqL.of h1, by rw [k.length]; exact e⟩⟩
  obtain ⟨v, e1, e2⟩ := k.at i e
  refine ⟨⟨us, v, SqL.of h1, e1⟩, fun x H' ⟨eH, y⟩ => ?_⟩
  subst eH
  have := y us (SqL.of h1)
  rw [e1] at this; cases this
  exact ⟨F1, Le.rfl', r, e2⟩
theorem diter_tup (h : SqT K F a xs) (k : DVs K F xs ds) : DIter K GI (Itt K a) ds noG F := by
  intro F1 c H i l r _
  have h1 := sqT_le r.sub (sqT_le l h)
  refine ⟨fun d e => ?_, fun e => ⟨xs, h1, by rw [k.length]; exact e⟩⟩
  obtain ⟨v, e1, e2⟩ := k.at i e
  refine ⟨⟨xs, v, h1, e1⟩, fun x H' ⟨eH, y⟩ => ?_⟩
  subst eH
  have := y xs h1
  rw [e1] at this; cases this
  exact ⟨F1, Le.rfl', r, e2.le l⟩
theorem diter_str (z : Str) : DIter K GI (Its z) (z.cps.toList.map fun k => D.str ⟨#[k]⟩) noG F := by
  intro F1 c H i l r _
  refine ⟨fun d e => ?_, fun e => ?_⟩
  · rw [List.getElem?_map] at e
    cases g : z.cps.toList[i]? with
    | none => rw [g] at e; cases e
    | some k =>
      rw [g] at e
      simp only [Option.map_some, Option.some.injEq] at e
      subst e
      refine ⟨?_, ?_⟩
      · have := (List.getElem?_eq_some_iff.mp g).1
        show i < z.cps.size
        simpa using this
      rintro x H' ⟨rfl, k', g', rfl⟩
      have : k' = k := by
        have g2 : z.cps.toList[i]? = some k' := by simpa using g'
        rw [g] at g2; exact (Option.some.inj g2).symm
      subst this
      exact ⟨F1, Le.rfl', r, .str _⟩
  · show z.cps.size ≤ i
    simpa using e
theorem diter_rng (lo : Int) (n : Nat) : DIter K GI (Itr lo n) ((upto lo n).map D.int) noG F := by
  intro F1 c H i l r _
  refine ⟨fun d e => ?_, fun e => ?_⟩
  · unfold upto at e
    rw [List.map_map, List.getElem?_map] at e
    cases g : (List.range n)[i]? with
    | none => rw [g] at e; cases e
    | some k =>
      rw [g] at e
      simp only [Option.map_some, Option.some.injEq] at e
      obtain ⟨g1, g2⟩ := List.getElem?_eq_some_iff.mp g
      rw [List.getElem_range] at g2
      subst g2 e
      refine ⟨by show i < n; simpa using g1, ?_⟩
      rintro x H' ⟨rfl, rfl⟩
      exact ⟨F1, Le.rfl', r, .int _⟩
  · show n ≤ i
    simpa [upto] using e
end
section
variable {GI : Hp → Hp → Prop} {X : Cx} {tg e : Expr} {wa : WE} {wr : WA} {p pos : Pos}
theorem ci_any (h : CE GI X e wa) : CI GI X tg e (wIt wa) := fun W x => by
  refine pi_imp (pi_any (h W x)) ?_
  rintro σ H R ⟨F, env, c, E, Qd, re, r, lx, q, k⟩
  refine ⟨F, env, c, E, _, re, r, lx, q, ?_⟩
  rintro F1 c1 H1 v d l1 r1 h1 (⟨ds, e1, q1⟩ | ⟨p, ds, rfl, e1, q1⟩)
  rotate_left
  · obtain ⟨us, g1, k1⟩ := r1.lst e1
    exact .inl ⟨p, h1.ref_inv, ⟨us, SqL.of g1⟩, k F1 c1 H1 _ _ _ l1 r1 diter_cell q1⟩
  cases d <;> simp only [itsD, Option.some.injEq, reduceCtorEq] at e1
  · subst e1
    obtain rfl := h1.str_inv
    exact .inr (.inr ⟨_, rfl, k F1 c1 H1 _ _ _ l1 r1 (diter_str _) q1⟩)
  · subst e1
    obtain ⟨a, xs, rfl, g1, k1⟩ := h1.tup_inv
    exact .inr (.inl ⟨a, rfl, ⟨xs, SqT.of (r1.sub _ _ g1)⟩, k F1 c1 H1 _ _ _ l1 r1 (diter_tup (SqT.of g1) k1) q1⟩)
  · subst e1
    cases h1 with
    | lst g1 k1 => exact .inl ⟨_, rfl, ⟨_, SqL.of (r1.sub _ _ g1)⟩, k F1 c1 H1 _ _ _ l1 r1 (diter_list (SqL.of g1) k1) q1⟩
  · subst e1
    obtain ⟨a, xs, rfl, g1, k1⟩ := h1.kt_inv
    exact .inr (.inl ⟨a, rfl, ⟨xs, sqT_le r1.sub g1⟩, k F1 c1 H1 _ _ _ l1 r1 (diter_tup g1 k1) q1⟩)
  · subst e1
    obtain ⟨a, rfl, g1⟩ := h1.scr_inv
    exact .inl ⟨a, rfl, ⟨_, sqL_le r1.sub g1⟩, k F1 c1 H1 _ _ _ l1 r1 (diter_list g1 DVs.ints) q1⟩
def rgR1 (ds : List D) (c : CMap) (N : List D → (CMap → Prop) → CMap → Prop) : Prop := match ds with
  | [.int n] => -(2 ^ 62) ≤ n ∧ n < 2 ^ 62 ∧ N ((upto 0 n.toNat).map D.int) noG c
  | _ => False
def rgR2 (ds : List D) (c : CMap) (N : List D → (CMap → Prop) → CMap → Prop) : Prop := match ds with
  | [.int a, .int b] => -(2 ^ 62) ≤ a ∧ a < 2 ^ 62 ∧ -(2 ^ 62) ≤ b ∧ b < 2 ^ 62 ∧ N ((upto a (b - a).toNat).map D.int) noG c
  | _ => False
def wRg1 (r : WA) : WI := fun E env c Q => r E env c fun ds c1 => rgR1 ds c1 Q
def wRg2 (r : WA) : WI := fun E env c Q => r E env c fun ds c1 => rgR2 ds c1 Q
theorem ci_range1 {a : Expr} (hm : X.mg "range" = none) (ha : CA GI X [a] wr) (hg : Gl X "range" := by rfl) (hs : starEach [a] X.env = [(false, eval a X.env)] := by rfl) : CI GI X tg (.Call (.Name "range" p) [a] [] pos) (wRg1 wr) := fun W x => by
  refine pi_imp (pi_range1 hg hm (ha W x) hs) ?_
  rintro σ H R ⟨F, env, c, E, Qd, re, r, lx, q, k⟩
  refine ⟨F, env, c, E, _, re, r, lx, q, ?_⟩
  intro F1 c1 H1 vs ds l1 r1 h1 q1
  unfold rgR1 at q1
  split at q1
  · obtain ⟨v, rfl, h2⟩ := h1.inv1
    exact ⟨_, by rw [h2.int_inv], q1.1, q1.2.1, k F1 c1 H1 _ _ _ l1 r1 (diter_rng 0 _) q1.2.2⟩
  · exact q1.elim
theorem ci_range2 {a b : Expr} (hm : X.mg "range" = none) (ha : CA GI X [a, b] wr) (hg : Gl X "range" := by rfl) (hs : starEach [a, b] X.env = [(false, eval a X.env), (false, eval b X.env)] := by rfl) (hs2 : starEach [b] X.env = [(false, eval b X.env)] := by rfl) :
    CI GI X tg (.Call (.Name "range" p) [a, b] [] pos) (wRg2 wr) := fun W x => by
  refine pi_imp (pi_range2 hg hm (ha W x) hs hs2) ?_
  rintro σ H R ⟨F, env, c, E, Qd, re, r, lx, q, k⟩
  refine ⟨F, env, c, E, _, re, r, lx, q, ?_⟩
  intro F1 c1 H1 vs ds l1 r1 h1 q1
  unfold rgR2 at q1
  split at q1
  · obtain ⟨v, u, rfl, h2, h3⟩ := h1.inv2
    exact ⟨_, _, by rw [h2.int_inv, h3.int_inv], ⟨q1.1, q1.2.1, q1.2.2.1, q1.2.2.2.1⟩, k F1 c1 H1 _ _ _ l1 r1 (diter_rng _ _) q1.2.2.2.2⟩
  · exact q1.elim
end
end DL
/-! the data layer: loops, comprehensions, methods, defs -/
namespace DL
open PySem PySem.Spec L2
open PyProof.Rows hiding St

/-! ### zip, enumerate -/
def lstD : D → Option (List D)
  | .lst ds => some ds
  | .scr ns => some (ns.map D.int)
  | _ => none
/-- a list: frozen, or a cell that stays so -/
def LsG (c : CMap) (d : D) (xs : List D) (G : CMap → Prop) : Prop := (lstD d = some xs ∧ G = noG) ∨ ∃ p, d = .ref p ∧ c p = some (.lst xs) ∧ G = fun c => c p = some (.lst xs)
def tupD : D → Option (List D)
  | .tup ds => some ds
  | .kt ds => some ds
  | _ => none
def zipR (ds : List D) (c : CMap) (N : List D → (CMap → Prop) → CMap → Prop) : Prop := match ds with
  | [d, e] => (∃ xs ys G1 G2, LsG c d xs G1 ∧ LsG c e ys G2 ∧ N ((xs.zip ys).map fun p => D.tup [p.1, p.2]) (fun c => G1 c ∧ G2 c) c) ∨ ∃ xs ys, tupD d = some xs ∧ tupD e = some ys ∧ N ((xs.zip ys).map fun p => D.tup [p.1, p.2]) noG c
  | _ => False
def enumR (ds : List D) (c : CMap) (N : List D → (CMap → Prop) → CMap → Prop) : Prop := match ds with
  | [d] => ∃ xs G, LsG c d xs G ∧ N (xs.mapIdx fun i x => D.tup [.int (i : Nat), x]) G c
  | _ => False
def wZip (r : WA) : WI := fun E env c Q => r E env c fun ds c1 => zipR ds c1 Q
def wEnum (r : WA) : WI := fun E env c Q => r E env c fun ds c1 => enumR ds c1 Q
theorem lstD_snd {K : PySem.W.Frag} {F : Hp} {v : V} {d : D} {xs : List D} (h : DV K F v d) (e : lstD d = some xs) : ∃ a us, v = .ref a ∧ SqL K F a us ∧ DVs K F us xs := by
  cases d <;> simp only [lstD, Option.some.injEq, reduceCtorEq] at e
  · subst e
    cases h with
    | lst g1 k1 => exact ⟨_, _, rfl, SqL.of g1, k1⟩
  · subst e
    obtain ⟨a, rfl, g⟩ := h.scr_inv
    exact ⟨a, _, rfl, g, DVs.ints⟩
section
variable {K : PySem.W.Frag} {GI : Hp → Hp → Prop} {F : Hp} {a b : Addr} {xs ys : List V} {ds es : List D}
theorem new_pair {F1 H : Hp} {c : CMap} {T : Addr} {x y : V} {d e : D} (r : Rep K GI F1 c H) (hT : H T = none) (h1 : DV K F1 x d) (h2 : DV K F1 y e) :
    ∃ F2, Le F1 F2 ∧ Rep K GI F2 c (upd H T (.tup [x, y])) ∧ DV K F2 (.ref T) (.tup [d, e]) := by
  have l : Le F1 (upd F1 T (.tup [x, y])) := Le.new (r.fr hT)
  exact ⟨_, l, r.newF hT, .tup upd_same (.cons (h1.le l) (.cons (h2.le l) .nil))⟩
/-- an address whose list stands so wherever G does -/
def LsAt (K : PySem.W.Frag) (GI : Hp → Hp → Prop) (F : Hp) (a : Addr) (ds : List D) (G : CMap → Prop) : Prop := ∀ (F1 : Hp) (c : CMap) (H : Hp), Le F F1 → Rep K GI F1 c H → G c → ∃ us, SqL K H a us ∧ DVs K F1 us ds
theorem lsG_at {H : Hp} {c : CMap} {v : V} {d : D} {xs : List D} {G : CMap → Prop} (r : Rep K GI F c H) (h : DV K F v d) (g : LsG c d xs G) : ∃ a us, v = .ref a ∧ SqL K H a us ∧ LsAt K GI F a xs G ∧ G c := by
  rcases g with ⟨e, rfl⟩ | ⟨p, rfl, e, rfl⟩
  · obtain ⟨a, us, rfl, g1, k1⟩ := lstD_snd h e
    exact ⟨a, us, rfl, sqL_le r.sub g1, fun F1 c1 H1 l r1 _ => ⟨us, sqL_le r1.sub (sqL_le l g1), k1.le l⟩, trivial⟩
  · obtain ⟨us, h1, k⟩ := r.lst e
    refine ⟨p, us, h.ref_inv, SqL.of h1, fun F1 c1 H1 l r1 g => ?_, e⟩
    obtain ⟨us, h1, k⟩ := r1.lst g
    exact ⟨us, SqL.of h1, k⟩
theorem diter_zip {G1 G2 : CMap → Prop} (k : LsAt K GI F a ds G1) (k' : LsAt K GI F b es G2) : DIter K GI (Itz K a b) ((ds.zip es).map fun p => D.tup [p.1, p.2]) (fun c => G1 c ∧ G2 c) F := by
  intro F1 c H i l r ⟨q1, q2⟩
  obtain ⟨xs, g1, k⟩ := k F1 c H l r q1
  obtain ⟨ys, g2, k'⟩ := k' F1 c H l r q2
  refine ⟨fun d e => ?_, fun e => ⟨xs, ys, g1, g2, ?_⟩⟩
  · rw [List.getElem?_map] at e
    cases z : (ds.zip es)[i]? with
    | none => rw [z] at e; cases e
    | some p =>
      rw [z] at e
      simp only [Option.map_some, Option.some.injEq] at e
      subst e
      obtain ⟨e1, e2⟩ := List.getElem?_zip_eq_some.mp z
      obtain ⟨v, v1, v2⟩ := k.at i e1
      obtain ⟨u, u1, u2⟩ := k'.at i e2
      refine ⟨⟨xs, ys, v, u, g1, g2, v1, u1⟩, ?_⟩
      rintro x H' ⟨T, x1, y1, rfl, hT, rfl, f1, f2⟩
      have a1 := f1 xs g1
      have a2 := f2 ys g2
      rw [v1] at a1; cases a1
      rw [u1] at a2; cases a2
      exact new_pair r hT v2 u2
  · rw [k.length, k'.length]
    simp only [List.length_map, List.length_zip] at e
    omega
theorem diter_zipT (h : SqT K F a xs) (k : DVs K F xs ds) (h' : SqT K F b ys) (k' : DVs K F ys es) : DIter K GI (RZ.ItzT K a b) ((ds.zip es).map fun p => D.tup [p.1, p.2]) noG F := by
  intro F1 c H i l r _
  have g1 := sqT_le r.sub (sqT_le l h)
  have g2 := sqT_le r.sub (sqT_le l h')
  refine ⟨fun d e => ?_, fun e => ⟨xs, ys, g1, g2, ?_⟩⟩
  · rw [List.getElem?_map] at e
    cases z : (ds.zip es)[i]? with
    | none => rw [z] at e; cases e
    | some p =>
      rw [z] at e
      simp only [Option.map_some, Option.some.injEq] at e
      subst e
      obtain ⟨e1, e2⟩ := List.getElem?_zip_eq_some.mp z
      obtain ⟨v, v1, v2⟩ := k.at i e1
      obtain ⟨u, u1, u2⟩ := k'.at i e2
      refine ⟨⟨xs, ys, v, u, g1, g2, v1, u1⟩, ?_⟩
      rintro x H' ⟨T, x1, y1, rfl, hT, rfl, f1, f2⟩
      have a1 := f1 xs g1
      have a2 := f2 ys g2
      rw [v1] at a1; cases a1
      rw [u1] at a2; cases a2
      exact new_pair r hT (v2.le l) (u2.le l)
  · rw [k.length, k'.length]
    simp only [List.length_map, List.length_zip] at e
    omega
theorem diter_enum {G : CMap → Prop} (k : LsAt K GI F a ds G) : DIter K GI (Ite K a) (ds.mapIdx fun i x => D.tup [.int (i : Nat), x]) G F := by
  intro F1 c H i l r q
  obtain ⟨xs, g1, k⟩ := k F1 c H l r q
  refine ⟨fun d e => ?_, fun e => ⟨xs, g1, by rw [k.length]; simpa using e⟩⟩
  rw [List.getElem?_mapIdx] at e
  cases z : ds[i]? with
  | none => rw [z] at e; cases e
  | some p =>
    rw [z] at e
    simp only [Option.map_some, Option.some.injEq] at e
    subst e
    obtain ⟨v, v1, v2⟩ := k.at i z
    refine ⟨⟨xs, v, g1, v1⟩, ?_⟩
    rintro x H' ⟨T, x1, rfl, hT, rfl, f1⟩
    have a1 := f1 xs g1
    rw [v1] at a1; cases a1
    exact new_pair r hT (.int _) v2
theorem tupD_snd {v : V} {d : D} {xs : List D} (h : DV K F v d) (e : tupD d = some xs) : ∃ a us, v = .ref a ∧ SqT K F a us ∧ DVs K F us xs := by
  cases d <;> simp only [tupD, Option.some.injEq, reduceCtorEq] at e
  · subst e
    obtain ⟨a, us, rfl, g, k⟩ := h.tup_inv
    exact ⟨a, us, rfl, SqT.of g, k⟩
  · subst e
    exact h.kt_inv
end
section
variable {GI : Hp → Hp → Prop} {X : Cx} {e e2 : Expr} {wr : WA} {p pos tpos : Pos} {elts : List Expr} {kk : Nat}
theorem ci_zip (hm : X.mg "zip" = none) (ha : CA GI X [e, e2] wr) (hg : Gl X "zip" := by rfl) (hs : starEach [e, e2] X.env = (false, eval e X.env) :: starEach [e2] X.env := by rfl) (hpl : (backTo pos (starEach [e2] X.env)).any (·.1) = false := by rfl) :
    CI GI X (.Tuple elts kk tpos) (.Call (.Name "zip" p) [e, e2] [] pos) (wZip wr) := fun W x => by
  refine pi_imp (RZ.pi_zipA hg hm (ha W x) hs hpl) ?_
  rintro σ H R ⟨F, env, c, E, Qd, re, r, lx, q, k⟩
  refine ⟨F, env, c, E, _, re, r, lx, q, ?_⟩
  intro F1 c1 H1 vs ds l1 r1 h1 q1
  unfold zipR at q1
  split at q1
  · obtain ⟨v, u, rfl, h2, h3⟩ := h1.inv2
    rcases q1 with ⟨xs, ys, G1, G2, e1, e2, q⟩ | ⟨xs, ys, e1, e2, q⟩
    · obtain ⟨a, us, rfl, g1, k1, z1⟩ := lsG_at r1 h2 e1
      obtain ⟨b, ws, rfl, g2, k2, z2⟩ := lsG_at r1 h3 e2
      exact ⟨a, b, us, ws, rfl, .inl ⟨g1, g2, k F1 c1 H1 _ _ _ l1 r1 (diter_zip k1 k2) q⟩⟩
    · obtain ⟨a, us, rfl, g1, k1⟩ := tupD_snd h2 e1
      obtain ⟨b, ws, rfl, g2, k2⟩ := tupD_snd h3 e2
      exact ⟨a, b, us, ws, rfl, .inr ⟨sqT_le r1.sub g1, sqT_le r1.sub g2, k F1 c1 H1 _ _ _ l1 r1 (diter_zipT g1 k1 g2 k2) q⟩⟩
  · exact q1.elim
theorem ci_enum (hm : X.mg "enumerate" = none) (ha : CA GI X [e] wr) (hg : Gl X "enumerate" := by rfl) (hs : starEach [e] X.env = [(false, eval e X.env)] := by rfl) : CI GI X (.Tuple elts kk tpos) (.Call (.Name "enumerate" p) [e] [] pos) (wEnum wr) := fun W x => by
  refine pi_imp (pi_enum hg hm (ha W x) hs) ?_
  rintro σ H R ⟨F, env, c, E, Qd, re, r, lx, q, k⟩
  refine ⟨F, env, c, E, _, re, r, lx, q, ?_⟩
  intro F1 c1 H1 vs ds l1 r1 h1 q1
  unfold enumR at q1
  split at q1
  · obtain ⟨v, rfl, h2⟩ := h1.inv1
    obtain ⟨xs, G, e1, q⟩ := q1
    obtain ⟨a, us, rfl, g1, k1, z1⟩ := lsG_at r1 h2 e1
    exact ⟨a, us, rfl, g1, k F1 c1 H1 _ _ _ l1 r1 (diter_enum k1) q⟩
  · exact q1.elim
end

/-! ### for, while -/
def forD (step : D → DEnv → CMap → (DEnv → CMap → Prop) → Prop) : List D → DEnv → CMap → (DEnv → CMap → Prop) → Prop
  | [], env, c, Q => Q env c
  | d :: ds, env, c, Q => step d env c fun env' c' => forD step ds env' c' Q
def forS (wg : WG) (body : WS) (DD : DEnds) : D → DEnv → CMap → (DEnv → CMap → Prop) → Prop := fun d env c nxt => wg d env c fun env2 c2 => body { DD with nx := nxt, ct := nxt, bk := DD.nx } env2 c2
def ForP (wg : WG) (body : WS) (DD : DEnds) (ds : List D) (G : CMap → Prop) (env : DEnv) (c : CMap) : Prop := ∃ P : Nat → DEnv → CMap → Prop, P 0 env c ∧ (∀ i env c, P i env c → G c) ∧ (∀ (i : Nat) (d : D) (env : DEnv) (c : CMap), ds[i]? = some d → P i env c → ∃ N : DEnv → CMap → Prop, (∀ env c, N env c → ∃ c2, SubC c2 c ∧ P (i + 1) env c2) ∧ forS wg body DD d env c N) ∧ ∀ env c, P ds.length env c → DD.nx env c
def wFor (wi : WI) (wg : WG) (body : WS) : WS := fun DD env c => wi (exE DD env) env c fun ds G c1 => ForP wg body DD ds G env c1
def wWhile (t : WT) (body : WS) : WS := fun DD env c => ∃ W : Nat → DEnv → CMap → Prop, (∃ m, W m env c) ∧ ∀ m env c, W m env c →
  t (exE DD env) env c fun b c1 => if b = true then ∃ N : DEnv → CMap → Prop, (∀ env' c', N env' c' → ∃ m', m' < m ∧ ∃ c2, SubC c2 c' ∧ W m' env' c2) ∧ body { DD with nx := N, ct := N, bk := DD.nx } env c1 else DD.nx env c1
section
variable {GI : Hp → Hp → Prop} {X : Cx} {pos : Pos} {tg iter : Expr} {body : List Stmt} {wi : WI} {wg : WG} {wb : WS} {wt : WT}
theorem cs_for (vs : List Nat) (hc : X.calm = true) (hi : CI GI X tg iter wi) (hg : CG GI X vs tg wg) (hb : CSs GI X body wb) (hs : ∀ x, foldedSetIterable iter X.env x = pure x := by intro _; rfl) : CS GI X (.For tg iter body [] pos) (wFor wi wg wb) := fun W x => by
  refine ps_imp (ps_for x.own hc (hi W x) (hg x.nd) (hb W x) hs) ?_
  rintro Dn σ H ⟨F, env, c, DD, re, r, q, l⟩
  refine ⟨F, env, c, _, _, re, r, l.lx re, q, ?_⟩
  rintro F1 c1 H1 J ds G l1 r1 it ⟨P, p0, pg, ps, pd⟩
  refine ⟨fun i m σ2 H2 => m = ds.length - i ∧ i ≤ ds.length ∧ ∃ F2 env2 c2, Le F1 F2 ∧ RepE X.K F2 env2 σ2 ∧ Rep X.K GI F2 c2 H2 ∧ P i env2 c2, ⟨ds.length, by simp, Nat.zero_le _, F1, env, c1, Le.rfl', re.le l1, r1, p0⟩, ?_⟩
  rintro i m σ2 H2 ⟨rfl, hle, F2, env2, c2, l2, re2, r2, q2⟩
  obtain ⟨it1, it2⟩ := it F2 c2 H2 i l2 r2 (pg _ _ _ q2)
  by_cases hi : i < ds.length
  · refine .inr ?_
    have e : ds[i]? = some ds[i] := by rw [List.getElem?_eq_getElem hi]
    obtain ⟨N, hN, q2⟩ := ps i _ env2 c2 e q2
    obtain ⟨go, yl⟩ := it1 _ e
    refine ⟨go, fun σ3 H3 => ∃ F3 env3 c3, Le F1 F3 ∧ RepE X.K F3 env3 σ3 ∧ Rep X.K GI F3 c3 H3 ∧ N env3 c3, ?_, ?_⟩
    · rintro σ3 H3 ⟨F3, env3, c3, g1, g2, g3, g4⟩
      obtain ⟨c4, s4, g5⟩ := hN _ _ g4
      exact ⟨_, by omega, rfl, hi, F3, env3, c4, g1, g2, g3.sub' s4, g5⟩
    · intro v H3 y
      obtain ⟨F3, l3, r3, h3⟩ := yl v H3 y
      refine ⟨F3, env2, c2, ds[i], _, re2.le l3, r3, h3, q2, ?_⟩
      intro F4 env4 c4 σ4 H4 l4 re4 r4 _ q4
      have ll : Le F1 F4 := (l2.trans' l3).trans' l4
      refine ⟨F4, env4, c4, _, re4, r4, q4, ⟨fun F5 env5 c5 σ5 H5 l5 re5 r5 q5 => ⟨F5, env5, c5, ll.trans' l5, re5, r5, q5⟩, fun F5 c5 H5 v5 d5 l5 => l.rt F5 c5 H5 v5 d5 ((l1.trans' ll).trans' l5),
        fun F5 env5 c5 σ5 H5 l5 re5 r5 q5 => l.nx F5 env5 c5 σ5 H5 ((l1.trans' ll).trans' l5) re5 r5 q5, fun F5 env5 c5 σ5 H5 l5 re5 r5 q5 => ⟨F5, env5, c5, ll.trans' l5, re5, r5, q5⟩,
        fun F5 env5 c5 σ5 H5 cls od l5 => l.ex F5 env5 c5 σ5 H5 cls od ((l1.trans' ll).trans' l5)⟩⟩
  · refine .inl ⟨it2 (by omega), ?_⟩
    have hz : i = ds.length := by omega
    subst hz
    exact l.nx F2 env2 c2 σ2 H2 (l1.trans' l2) re2 r2 (pd _ _ q2)
theorem cs_while (h : CT GI X iter wt) (hb : CSs GI X body wb) : CS GI X (.While iter body [] pos) (wWhile wt wb) := fun W x => by
  refine ps_imp (ps_while x.own (h W x) (hb W x)) ?_
  rintro Dn σ H ⟨F, env, c, DD, re, r, ⟨Wd, ⟨m0, w0⟩, turn⟩, l⟩
  refine ⟨fun m σ2 H2 => ∃ F2 env2 c2, Le F F2 ∧ RepE X.K F2 env2 σ2 ∧ Rep X.K GI F2 c2 H2 ∧ Wd m env2 c2, ⟨m0, F, env, c, Le.rfl', re, r, w0⟩, ?_⟩
  rintro m σ2 H2 ⟨F2, env2, c2, l2, re2, r2, w2⟩
  refine ⟨F2, env2, c2, _, _, re2, r2, (l.le l2).lx re2, turn m env2 c2 w2, ?_⟩
  intro F3 c3 H3 b l3 r3 q3
  cases b with
  | true =>
    rw [if_pos rfl] at q3 ⊢
    obtain ⟨N, hN, q⟩ := q3
    refine ⟨fun σ4 H4 => ∃ F4 env4 c4, Le F F4 ∧ RepE X.K F4 env4 σ4 ∧ Rep X.K GI F4 c4 H4 ∧ N env4 c4, ?_, F3, env2, c3, _, re2.le l3, r3, q, ?_⟩
    · rintro σ4 H4 ⟨F4, env4, c4, g1, g2, g3, g4⟩
      obtain ⟨m', hm, c5, s5, w'⟩ := hN env4 c4 g4
      exact ⟨m', hm, F4, env4, c5, g1, g2, g3.sub' s5, w'⟩
    · have ll : Le F F3 := l2.trans' l3
      exact ⟨fun F5 env5 c5 σ5 H5 l5 re5 r5 q5 => ⟨F5, env5, c5, ll.trans' l5, re5, r5, q5⟩, fun F5 c5 H5 v5 d5 l5 => l.rt F5 c5 H5 v5 d5 (ll.trans' l5),
        fun F5 env5 c5 σ5 H5 l5 re5 r5 q5 => l.nx F5 env5 c5 σ5 H5 (ll.trans' l5) re5 r5 q5, fun F5 env5 c5 σ5 H5 l5 re5 r5 q5 => ⟨F5, env5, c5, ll.trans' l5, re5, r5, q5⟩,
        fun F5 env5 c5 σ5 H5 cls od l5 => l.ex F5 env5 c5 σ5 H5 cls od (ll.trans' l5)⟩
  | false =>
    rw [if_neg (by decide)] at q3 ⊢
    exact l.nx F3 env2 c3 σ2 H3 (l2.trans' l3) (re2.le l3) r3 q3
end

/-! ### comprehensions -/
abbrev noX : XD := fun _ _ _ => False
def compS (wg : WG) (wt : WT) (we : WE) (env : DEnv) : D → CMap → (Option D → CMap → Prop) → Prop := fun d c k => wg d env c fun env2 c2 => wt noX env2 c2 fun b c3 => if b = true then we noX env2 c3 fun y c4 => k (some y) c4 else k none c3
def CompP (m : Bool) (step : D → CMap → (Option D → CMap → Prop) → Prop) (A : Addr) (ds : List D) (G : CMap → Prop) (c : CMap) (Q : DK) : Prop := ∃ P : Nat → CMap → Prop, P 0 (updc c A (.lst [])) ∧ (∀ i c, P i c → G c) ∧
  (∀ (i : Nat) (d : D) (c : CMap), ds[i]? = some d → P i c → step d c fun o c' => match o with
    | some y => ∃ acc, c' A = some (.lst acc) ∧ acc.length < sizeLine ∧ P (i + 1) (updc c' A (.lst (acc ++ [y])))
    | none => P (i + 1) c') ∧
  ∀ c2, P ds.length c2 → ∃ out, c2 A = some (.lst out) ∧ if m = true then Q (.ref A) c2 else Q (.lst out) (delc c2 A)
def wComp (m : Bool) (wi : WI) (wg : WG) (wt : WT) (we : WE) (vs : List Nat) : WE := fun E env c Q => wi E env c fun ds G c1 => ∀ A, c1 A = none → CompP m (compS wg wt we (wipeE env vs)) A ds G c1 Q
def wYes : WT := fun _ _ c Q => Q true c
def CTs (GI : Hp → Hp → Prop) (X : Cx) (ifs : List Expr) (wt : WT) : Prop := ∀ W, XOk X W → PTs X ifs (lowT X.K GI W wt)
theorem pts_imp {X : Cx} {e : List Expr} {t t' : TT} (h : PTs X e t) (k : ∀ σ H Q, t' σ H Q → t σ H Q) : PTs X e t' := ⟨fun pins s σ H Q I q => h.run pins s σ H Q I (k _ _ _ q)⟩
section
variable {GI : Hp → Hp → Prop} {X : Cx} {pos : Pos} {tg iter elt : Expr} {ifs : List Expr} {wi : WI} {wg : WG} {wt : WT} {we : WE} {scope : Scope} {own : List (Str × Nat)}
theorem cts_nil : CTs GI X [] wYes := fun W x => by
  refine pts_imp pts_nil ?_
  rintro σ H Q ⟨F, env, c, E, Qd, re, r, lx, q, k⟩
  exact k F c H true Le.rfl' r q
theorem cts_one {e : Expr} (h : CT GI X e wt) : CTs GI X [e] wt := fun W x => pts_one (h W x)
theorem blk_ok {s : Shared} {H : Hp} {scope : Scope} {cenv : Env} {fp : List Addr} (nd : X.N.Nodup) : XOk (X.blk s H scope cenv fp) (fun _ _ _ _ => False) := ⟨nd, L2.takes0, PassesOwn.never⟩
theorem low_comp {W : WX} (m : Bool) {Q : VK} {σ : St} {H : Hp} (q : lowE X.K GI W (wComp m wi wg wt we (own.map (·.2))) σ H Q) :
    tLc (lowI X.K GI W wi) (lowG X.K GI (own.map (·.2)) wg) (lowT X.K GI (fun _ _ _ _ => False) wt) (lowE X.K GI (fun _ _ _ _ => False) we) (own.map (·.2)) σ H Q := by
  obtain ⟨F, env, c, E, Qd, re, r, lx, q, k⟩ := q
  refine ⟨F, env, c, E, _, re, r, lx, q, ?_⟩
  intro F1 c1 H1 J ds G l1 r1 it q1 A hA
  obtain ⟨P, p0, pg, ps, pd⟩ := q1 A (r1.frc hA)
  have fA : F1 A = none := r1.fr hA
  refine ⟨fun i n H2 => n = ds.length - i ∧ i ≤ ds.length ∧ ∃ F2 c2, Le F1 F2 ∧ Rep X.K GI F2 c2 H2 ∧ P i c2,
    ⟨ds.length, by simp, Nat.zero_le _, F1, _, Le.rfl', r1.newC (k := .lst []) hA ⟨[], rfl, .nil⟩, p0⟩, ?_⟩
  rintro i n H2 ⟨rfl, hle, F2, c2, l2, r2, q2⟩
  obtain ⟨it1, it2⟩ := it F2 c2 H2 i l2 r2 (pg _ _ q2)
  by_cases hi : i < ds.length
  · refine .inr ?_
    have e : ds[i]? = some ds[i] := by rw [List.getElem?_eq_getElem hi]
    have q2 := ps i _ c2 e q2
    unfold compS at q2
    obtain ⟨go, yl⟩ := it1 _ e
    refine ⟨go, fun H3 => ∃ F3 c3, Le F1 F3 ∧ Rep X.K GI F3 c3 H3 ∧ P (i + 1) c3, ?_, ?_⟩
    · rintro H3 ⟨F3, c3, g⟩
      exact ⟨_, by omega, rfl, hi, F3, c3, g⟩
    · intro v H3 y
      obtain ⟨F3, l3, r3, h3⟩ := yl v H3 y
      refine ⟨F3, wipeE env (own.map (·.2)), c2, ds[i], _, ((re.le l1).le (l2.trans' l3)).wipe _, r3, h3, q2, ?_⟩
      intro F4 env4 c4 σ4 H4 l4 re4 r4 w4 q4
      have w5 : wipe σ4 (own.map (·.2)) = wipe σ (own.map (·.2)) := by
        rw [w4]
        have : ∀ (ws : List Nat) (τ : St), wipe (wipe τ ws) ws = wipe τ ws := by
          intro ws
          induction ws with
          | nil => intro τ; rfl
          | cons u ws ih =>
            intro τ
            show (wipe ((wipe τ ws).set u none) ws).set u none = (wipe τ ws).set u none
            by_cases hu : u ∈ ws
            · rw [wipe_set hu, ih]
            · have key : ∀ (ws : List Nat) (τ : St), u ∉ ws → wipe (τ.set u none) ws = (wipe τ ws).set u none := by
                intro ws
                induction ws with
                | nil => intro τ _; rfl
                | cons z ws ih2 =>
                  intro τ hz
                  show (wipe (τ.set u none) ws).set z none = ((wipe τ ws).set z none).set u none
                  rw [ih2 τ (fun q => hz (List.mem_cons_of_mem _ q)), List.set_comm _ _ (fun q => hz (by rw [q]; exact List.mem_cons_self))]
              rw [key ws _ hu, ih, List.set_set]
        exact this _ _
      refine ⟨w5, F4, env4, c4, noX, _, re4, r4, fun _ _ _ _ _ _ _ z => z.elim, q4, ?_⟩
      have ll : Le F1 F4 := (l2.trans' l3).trans' l4
      intro F5 c5 H5 b l5 r5 q5
      cases b with
      | true =>
        rw [if_pos rfl] at q5 ⊢
        refine ⟨F5, env4, c5, noX, _, re4.le l5, r5, fun _ _ _ _ _ _ _ z => z.elim, q5, ?_⟩
        intro F6 c6 H6 v6 d6 l6 r6 h6 q6
        obtain ⟨acc, e6, g6, q6⟩ := q6
        obtain ⟨us, e7, h7⟩ := r6.lst e6
        refine ⟨us, e7, by rw [h7.length]; exact g6, F6, _, (ll.trans' l5).trans' l6, r6.wr (k := .lst (acc ++ [d6])) e6 (by rw [e7]; trivial) ⟨_, rfl, h7.app (.one h6)⟩, q6⟩
      | false =>
        rw [if_neg (by decide)] at q5 ⊢
        exact ⟨F5, c5, ll.trans' l5, r5, q5⟩
  · refine .inl ⟨it2 (by omega), ?_⟩
    have hz : i = ds.length := by omega
    subst hz
    obtain ⟨out, e2, q2⟩ := pd _ q2
    cases m with
    | true =>
      rw [if_pos rfl] at q2
      exact k F2 c2 H2 _ _ (l1.trans' l2) r2 (.ref A) q2
    | false =>
      rw [if_neg (by decide)] at q2
      obtain ⟨F3, l3, r3, h3⟩ := r2.frz e2
      exact k F3 _ H2 _ _ ((l1.trans' l2).trans' l3) r3 h3 q2
theorem ce_comp (m : Bool) (own : List (Str × Nat)) (nd : X.N.Nodup) (hc : X.calm = true) (hi : CI GI X tg iter wi) (ok : BlkOk X.N X.env.scope scope own)
    (hg : ∀ (s : Shared) (H : Hp) (C : Addr) (cl : List (Str × Addr)) (fp : List Addr), CG GI (X.blk s H scope (compEnvC scope cl C X.env) fp) (own.map (·.2)) tg wg)
    (ht : ∀ (s : Shared) (H : Hp) (C : Addr) (cl : List (Str × Addr)) (fp : List Addr), CTs GI (X.blk s H scope (compEnvC scope cl C X.env) fp) ifs wt)
    (he : ∀ (s : Shared) (H : Hp) (C : Addr) (cl : List (Str × Addr)) (fp : List Addr), CE GI (X.blk s H scope (compEnvC scope cl C X.env) fp) elt we) (hs : ∀ x, foldedSetIterable iter X.env x = pure x := by intro _; rfl) :
    CE GI X (.ListComp elt [⟨tg, iter, ifs, 0⟩] scope pos) (wComp m wi wg wt we (own.map (·.2))) := fun W x =>
  pe_imp (pe_lc (g := lowG X.K GI (own.map (·.2)) wg) (tt := lowT X.K GI (fun _ _ _ _ => False) wt) (te := lowE X.K GI (fun _ _ _ _ => False) we) hc x.nd (hi W x) ok (fun s H C cl fp => hg s H C cl fp nd) (fun s H C cl fp => ht s H C cl fp _ (blk_ok nd)) (fun s H C cl fp => he s H C cl fp _ (blk_ok nd)) hs) fun _ _ _ q => low_comp m q
theorem cs_setcomp (m : Bool) (i : Nat) {y : Str} {py spos : Pos} (own : List (Str × Nat)) (nd : X.N.Nodup) (hc : X.calm = true) (hi : CI GI X tg iter wi) (ok : BlkOk X.N X.env.scope scope own)
    (hg : ∀ (s : Shared) (H : Hp) (C : Addr) (cl : List (Str × Addr)) (fp : List Addr), CG GI (X.blk s H scope (compEnvC scope cl C X.env) fp) (own.map (·.2)) tg wg)
    (ht : ∀ (s : Shared) (H : Hp) (C : Addr) (cl : List (Str × Addr)) (fp : List Addr), CTs GI (X.blk s H scope (compEnvC scope cl C X.env) fp) ifs wt)
    (he : ∀ (s : Shared) (H : Hp) (C : Addr) (cl : List (Str × Addr)) (fp : List Addr), CE GI (X.blk s H scope (compEnvC scope cl C X.env) fp) elt we)
    (hy : X.N[i]? = some y := by rfl) (hyl : X.env.scope.names.lookup y = some .local := by rfl) (hsw : swapsWith (.ListComp elt [⟨tg, iter, ifs, 0⟩] scope pos) (some (.Name y py)) spos.line X.env = pure true := by exact sw_true rfl rfl rfl (by decide +kernel))
    (hs : ∀ x, foldedSetIterable iter X.env x = pure x := by intro _; rfl) : CS GI X (.Assign [.Name y py] (.ListComp elt [⟨tg, iter, ifs, 0⟩] scope pos) spos) (wAsg i (wComp m wi wg wt we (own.map (·.2)))) := fun W x => by
  refine ps_imp (ps_setLc (g := lowG X.K GI (own.map (·.2)) wg) (tt := lowT X.K GI (fun _ _ _ _ => False) wt) (te := lowE X.K GI (fun _ _ _ _ => False) we) hc x.nd hy hyl hsw (hi W x) ok (fun s H C cl fp => hg s H C cl fp nd) (fun s H C cl fp => ht s H C cl fp _ (blk_ok nd)) (fun s H C cl fp => he s H C cl fp _ (blk_ok nd)) hs) ?_
  rintro Dn σ H ⟨F, env, c, DD, re, r, q, l⟩
  refine low_comp m ⟨F, env, c, _, _, re, r, l.lx re, q, ?_⟩
  intro F1 c1 H1 v d l1 r1 h1 q1
  exact l.nx F1 _ c1 _ H1 l1 ((re.le l1).set i h1) r1 q1
end

/-! ### methods -/
def tyDl (T : String) (c : CMap) (d : D) : Prop := match res c d with
  | .str _ => T = "str"
  | .lst _ => T = "list"
  | .scr _ => T = "list"
  | _ => False
abbrev RDm := CMap → D → List D → DK → Prop
def SndM (K : PySem.W.Frag) (GI : Hp → Hp → Prop) (r : V → List V → Hp → VK → Prop) (R : RDm) : Prop := ∀ (F H : Hp) (c : CMap) (v : V) (d : D) (vs : List V) (ds : List D) (Qd : DK) (Q : VK), Rep K GI F c H → DV K F v d → DVs K F vs ds → R c d ds Qd → LQ K GI F Qd Q → r v vs H Q
def wMt (T : String) (R : RDm) (o : WE) (r : WA) : WE := fun E env c Q => o E env c fun d c1 => tyDl T c1 d ∧ r E env c1 fun ds c2 => R c2 d ds Q
theorem tyDl_snd {K : PySem.W.Frag} {GI : Hp → Hp → Prop} {F H : Hp} {c : CMap} {v : V} {d : D} {T : String} (r : Rep K GI F c H) (h : DV K F v d) (q : tyDl T c d) : tyV K T v H := by
  unfold tyDl at q
  split at q
  · rename_i e1
    obtain rfl := res_oth e1 (by intro _ z; cases z)
    rw [h.str_inv]; exact q
  · rename_i e1
    obtain ⟨p, xs, rfl, g1, k1⟩ := res_lst r h e1
    exact .inl ⟨q, xs, SqL.of g1⟩
  · rename_i e1
    obtain rfl := res_oth e1 (by intro _ z; cases z)
    obtain ⟨a, rfl, g⟩ := h.scr_inv
    exact .inl ⟨q, _, sqL_le r.sub g⟩
  · exact q.elim
section
variable {GI : Hp → Hp → Prop} {X : Cx} {o e : Expr} {es : List Expr} {wo : WE} {wr : WA} {name : Str} {apos cpos : Pos} {T id : String} {r : V → List V → Hp → VK → Prop} {R : RDm}
theorem ce_bm (pa : PlainAttrs T) (slot : Slot T name id) (hty : typeOf (.builtin id) = pure (.type "method_descriptor")) (hm : MtR X id r) (s : SndM X.K GI r R) (ho : CE GI X o wo) (ha : CA GI X (e :: es) wr)
    (hbase : attributeBase o name X.env (eval o X.env) = eval o X.env := by rfl)
    (hfew : ((backTo cpos (starEach (e :: es) X.env)).all (fun x => !x.1) && (backToKw cpos (keywordEach [] X.env)).all (fun x => x.1.isSome) && decide ((e :: es).length + ([] : List Keyword).length + (if ([] : List Keyword).isEmpty then 0 else 1) < 30)) = true := by rfl)
    (hline : (apos.endLine == cpos.line) = true := by rfl) (hs : starEach (e :: es) X.env = (false, eval e X.env) :: starEach es X.env := by rfl) (hplain : (backTo cpos (starEach es X.env)).any (·.1) = false := by rfl) : CE GI X (.Call (.Attribute o name apos) (e :: es) [] cpos) (wMt T R wo wr) := fun W x => by
  refine pe_imp (pe_bm pa slot hty hm (ho W x) (ha W x) hbase hfew hline hs hplain) ?_
  rintro σ H Q ⟨F, env, c, E, Qd, re, rp, lx, q, k⟩
  refine ⟨F, env, c, E, _, re, rp, lx, q, ?_⟩
  rintro F1 c1 H1 v d l1 r1 h1 ⟨q0, q1⟩
  refine ⟨tyDl_snd r1 h1 q0, F1, env, c1, E, _, re.le l1, r1, lx.le l1, q1, ?_⟩
  intro F2 c2 H2 vs ds l2 r2 h2 q2
  exact s F2 H2 c2 v d vs ds Qd Q r2 (h1.le l2) h2 q2 ((k.le l1).le l2)
end
def appR : RDm := fun c d ds Q => match d, ds with
  | .ref p, [x] => ∃ es, c p = some (.lst es) ∧ es.length < sizeLine ∧ Q .non (updc c p (.lst (es ++ [x])))
  | _, _ => False
def joinR : RDm := fun c d ds Q => match d, ds with
  | .str a, [e] => match res c e with
    | .lst es => ∃ ys : List Str, es = ys.map D.str ∧ (ys.map (·.length)).sum + ys.length * a.length ≤ 16777216 ∧ Q (.str (Txt.join a ys)) c
    | _ => False
  | _, _ => False
theorem strs_V {K : PySem.W.Frag} {F : Hp} : ∀ {vs : List V} {ys : List Str}, DVs K F vs (ys.map D.str) → vs = ys.map V.str
  | [], [], _ => rfl
  | _ :: _, [], h => by cases h
  | [], _ :: _, h => by cases h
  | v :: vs, y :: ys, h => by
    cases h with
    | cons h k => rw [h.str_inv, strs_V k]; rfl
section
variable {GI : Hp → Hp → Prop} {X : Cx} {o e : Expr} {wo : WE} {wr : WA} {apos cpos : Pos}
theorem ce_append (ho : CE GI X o wo) (ha : CA GI X [e] wr)
    (hbase : attributeBase o "append" X.env (eval o X.env) = eval o X.env := by rfl)
    (hfew : ((backTo cpos (starEach [e] X.env)).all (fun x => !x.1) && (backToKw cpos (keywordEach [] X.env)).all (fun x => x.1.isSome) && decide (([e] : List Expr).length + ([] : List Keyword).length + (if ([] : List Keyword).isEmpty then 0 else 1) < 30)) = true := by rfl)
    (hline : (apos.endLine == cpos.line) = true := by rfl) (hs : starEach [e] X.env = (false, eval e X.env) :: starEach [] X.env := by rfl) (hplain : (backTo cpos (starEach [] X.env)).any (·.1) = false := by rfl) : CE GI X (.Call (.Attribute o "append" apos) [e] [] cpos) (wMt "list" appR wo wr) :=
  ce_bm PySem.F.plainAttrs_list PySem.F.slot_list_append PySem.F.type_list_append mt_append (fun F H c v d vs ds Qd Q r h1 h2 q k => by
    unfold appR at q
    split at q
    · obtain ⟨u, rfl, h3⟩ := h2.inv1
      obtain ⟨es, e1, q1, q2⟩ := q
      obtain ⟨us, g1, k1⟩ := r.lst e1
      exact ⟨_, us, u, h1.ref_inv, rfl, g1, by rw [k1.length]; exact q1, k F _ _ _ _ Le.rfl' (r.wr (k := .lst (es ++ [_])) e1 (by rw [g1]; trivial) ⟨_, rfl, k1.app (.one h3)⟩) .non q2⟩
    · exact q.elim) ho ha hbase hfew hline hs hplain
theorem ce_join (ho : CE GI X o wo) (ha : CA GI X [e] wr)
    (hbase : attributeBase o "join" X.env (eval o X.env) = eval o X.env := by rfl)
    (hfew : ((backTo cpos (starEach [e] X.env)).all (fun x => !x.1) && (backToKw cpos (keywordEach [] X.env)).all (fun x => x.1.isSome) && decide (([e] : List Expr).length + ([] : List Keyword).length + (if ([] : List Keyword).isEmpty then 0 else 1) < 30)) = true := by rfl)
    (hline : (apos.endLine == cpos.line) = true := by rfl) (hs : starEach [e] X.env = (false, eval e X.env) :: starEach [] X.env := by rfl) (hplain : (backTo cpos (starEach [] X.env)).any (·.1) = false := by rfl) : CE GI X (.Call (.Attribute o "join" apos) [e] [] cpos) (wMt "str" joinR wo wr) :=
  ce_bm PySem.F.plainAttrs_str PySem.F.slot_str_join PySem.F.type_str_join mt_join (fun F H c v d vs ds Qd Q r h1 h2 q k => by
    unfold joinR at q
    split at q
    · obtain ⟨u, rfl, h3⟩ := h2.inv1
      split at q
      · rename_i e1
        obtain ⟨ys, rfl, q1, q2⟩ := q
        obtain ⟨p, xs, rfl, g1, k1⟩ := res_lst r h3 e1
        obtain rfl := strs_V k1
        exact ⟨_, p, ys, h1.str_inv, rfl, .inl (SqL.of g1), q1, k F c H _ _ Le.rfl' r (.str _) q2⟩
      · exact q.elim
    · exact q.elim) ho ha hbase hfew hline hs hplain
end

/-! ### dicts: new, get -/
def wDict (t : Bool) : WE := fun _ _ c Q => ∀ p, c p = none → Q (.ref p) (updc c p (if t then .dT [] else .dK []))
def wGet2 (o k x : WE) : WE := fun E env c Q => o E env c fun d c1 => ∃ p, d = .ref p ∧ ((∃ kvs, c1 p = some (.dK kvs)) ∨ ∃ kvs, c1 p = some (.dT kvs)) ∧ k E env c1 fun y c2 => x E env c2 fun z c3 => dictAt c3 p y fun r => Q (r.getD z) c3
section
variable {GI : Hp → Hp → Prop} {X : Cx} {o e f : Expr} {wo wk wx : WE} {apos cpos pos : Pos}
theorem ce_dict (t : Bool) : CE GI X (.Dict [] [] pos) (wDict t) := fun W x => by
  cases t with
  | true =>
    refine pe_imp pe_dnewT ?_
    rintro σ H Q ⟨F, env, c, E, Qd, re, rp, lx, q, k⟩ p hp
    exact k F _ _ _ _ Le.rfl' (rp.newC (k := .dT []) hp ⟨[], rfl, .nil⟩) (.ref p) (q p (rp.frc hp))
  | false =>
    refine pe_imp pe_dnewK ?_
    rintro σ H Q ⟨F, env, c, E, Qd, re, rp, lx, q, k⟩ p hp
    exact k F _ _ _ _ Le.rfl' (rp.newC (k := .dK []) hp ⟨[], rfl, .nil⟩) (.ref p) (q p (rp.frc hp))
theorem isD_of {K : PySem.W.Frag} {F H : Hp} {c : CMap} {p : Addr} (r : Rep K GI F c H) (h : (∃ kvs, c p = some (.dK kvs)) ∨ ∃ kvs, c p = some (.dT kvs)) : IsD H p := by
  rcases h with ⟨kvs, e⟩ | ⟨kvs, e⟩
  · obtain ⟨_, o, h0, us, rfl, _⟩ := r.cel _ _ e
    exact .inl ⟨us, .inl h0⟩
  · obtain ⟨_, o, h0, us, rfl, _⟩ := r.cel _ _ e
    exact .inr ⟨us, .inl h0⟩
theorem ce_get2 (hr : Room 0 X.A) (ho : CE GI X o wo) (he : CE GI X e wk) (hf : CE GI X f wx) (m : M2 X o "get" apos e f cpos := by exact ⟨rfl, rfl, rfl, rfl⟩) : CE GI X (.Call (.Attribute o "get" apos) [e, f] [] cpos) (wGet2 wo wk wx) := fun W x => by
  refine pe_imp (pe_dget2 (hu_of hr) (ho W x) (he W x) (hf W x) m) ?_
  rintro σ H Q ⟨F, env, c, E, Qd, re, rp, lx, q, k⟩
  refine ⟨F, env, c, E, _, re, rp, lx, q, ?_⟩
  rintro F1 c1 H1 v d l1 r1 h1 ⟨p, rfl, hd, q1⟩
  refine ⟨p, h1.ref_inv, isD_of r1 hd, F1, env, c1, E, _, re.le l1, r1, lx.le l1, q1, ?_⟩
  intro F2 c2 H2 v2 d2 l2 r2 h2 q2
  refine ⟨F2, env, c2, E, _, (re.le l1).le l2, r2, (lx.le l1).le l2, q2, ?_⟩
  intro F3 c3 H3 v3 d3 l3 r3 h3 q3
  obtain ⟨oo, od, g, q, z⟩ := dict_snd r3 (h2.le l3) q3
  refine ⟨oo, g, ?_⟩
  rcases z with ⟨rfl, rfl⟩ | ⟨a, b, rfl, rfl, hh⟩
  · exact k F3 c3 H3 _ _ ((l1.trans' l2).trans' l3) r3 h3 q
  · exact k F3 c3 H3 _ _ ((l1.trans' l2).trans' l3) r3 hh q
end

/-! ### defs -/
/-- a def keeps its promise: its body as written, what the body does, what is wanted of it -/
theorem fnd_of {GI : Hp → Hp → Prop} {P : Program} {w : World} {K : PySem.W.Frag} {mg : Str → Option Value} {base : Heap} {x qual : Str} {st : Stmt} {f : Addr} {fd : FuncData} {N ps : List Str} {k n : Nat} {sp : DSpec} {ws : WS}
    (F : Fun K x qual st f fd) (hb : Binds K fd ps []) (S : FnScope N ps (defScope st)) (hn : ps.length = n) (hN : N.length = N.length)
    (len : ∀ ds c E Q, sp ds c E Q → ds.length = n)
    (body : ∀ (cdv : Value) (A : Around) (outer : List Env) (s : Shared) (H : Hp) (E : XK), Room k (A.deeper (envOfC qual (defScope st) s.heap.objs.size f cdv)) →
      CSs GI (cxOf (L2.CX P w) P w K mg base N qual (defScope st) f cdv A outer s H E) (defBody st) ws)
    (ok : ∀ ds c (E : XD) (Q : DK), sp ds c E Q → ws { nx := fun _ c' => ∃ c2, SubC c2 c' ∧ Q .non c2, rt := fun d c' => ∃ c2, SubC c2 c' ∧ Q d c2, ex := fun cls od _ c' => ∃ c2, SubC c2 c' ∧ E cls od c2 } (startE N.length ds) c) :
    FnD GI P w K mg base (k + 1) f n sp := by
  refine ⟨fd, ps, hn, F.kp, hb, F.okX S (fun vs H Q E h => ?_) fun cdv A outer s H vs Q E hr h => ?_⟩
  · obtain ⟨G, ds, c, E', Qd, h1, h2, h3, _⟩ := h
    rw [h1.length, len _ _ _ _ h3, hn]
  · obtain ⟨G, ds, c, E', Qd, h1, h2, h3, h4, h5⟩ := h
    refine ⟨_, body cdv A outer s H E hr (fun cls d _ H => E cls d H) ⟨S.nd, takes_of rfl rfl rfl rfl, PassesOwn.leaving⟩, G, _, c, _, RepE.start h1, h2, ok ds c E' Qd h3, ⟨?_, ?_, ?_, ?_, ?_⟩⟩
    · rintro G' env' c' σ' H' l re r ⟨c2, s2, q⟩
      exact h4 G' c2 H' _ _ l (r.sub' s2) .non q
    · rintro G' c' H' v d l r hd ⟨c2, s2, q⟩
      exact h4 G' c2 H' _ _ l (r.sub' s2) hd q
    · rintro G' env' c' σ' H' l re r q
      exact q
    · rintro G' env' c' σ' H' l re r q
      exact q
    · rintro G' env' c' σ' H' cls od l re r ⟨c2, s2, q⟩
      exact h5 G' c2 H' cls od l (r.sub' s2) q
end DL
namespace DL
open PySem PySem.Spec L2
abbrev HasG (GI : Hp → Hp → Prop) (P : Program) (w : World) (K : PySem.W.Frag) (mg : Str → Option Value) (base : Heap) (k : Nat) (x : Str) (n : Nat) (sp : DSpec) : Prop := ∃ f, mg x = some (.ref f) ∧ FnD GI P w K mg base k f n sp
theorem FnD.mono {GI : Hp → Hp → Prop} {P : Program} {w : World} {K : PySem.W.Frag} {mg : Str → Option Value} {base : Heap} {j k : Nat} {f : Addr} {n : Nat} {sp : DSpec} (h : FnD GI P w K mg base j f n sp) (l : j ≤ k) : FnD GI P w K mg base k f n sp := by
  obtain ⟨fd, ps, h1, h2, h3, h4⟩ := h.ex
  exact ⟨fd, ps, h1, h2, h3, h4.mono l⟩
theorem FnD.imp {GI : Hp → Hp → Prop} {P : Program} {w : World} {K : PySem.W.Frag} {mg : Str → Option Value} {base : Heap} {k : Nat} {f : Addr} {n : Nat} {sp sp' : DSpec} (h : FnD GI P w K mg base k f n sp) (l : ∀ ds c E Q, sp' ds c E Q → sp ds c E Q) : FnD GI P w K mg base k f n sp' := by
  obtain ⟨fd, ps, h1, h2, h3, h4⟩ := h.ex
  refine ⟨fd, ps, h1, h2, h3, h4.imp ?_⟩
  rintro vs H Q E ⟨F, ds, c, E', Qd, g1, g2, g3, g4, g5⟩
  exact ⟨F, ds, c, E', Qd, g1, g2, l _ _ _ _ g3, g4, g5⟩
end DL
/-! the data layer: how a body is gone through -/
namespace DL
open PySem PySem.Spec L2
open PyProof.Rows hiding St
section
variable {E : XD} {env env' : DEnv} {c c1 : CMap} {Q : DK} {DD : DEnds} {i : Nat} {d e x : D} {ds es : List D} {p : Addr}
theorem wSeq_i {a b : WS} (h : a { DD with nx := fun env' c' => b DD env' c' } env c) : wSeq a b DD env c := h
theorem wSkip_i (h : DD.nx env c) : wSkip DD env c := h
theorem wBrk_i (h : DD.bk env c) : wBrk DD env c := h
theorem wCnt_i (h : DD.ct env c) : wCnt DD env c := h
theorem wRet_i {a : WE} (h : a (exE DD env) env c DD.rt) : wRet a DD env c := h
theorem wRetN_i (h : DD.rt .non c) : wRetN DD env c := h
theorem wDrop_i {a : WE} (h : a (exE DD env) env c fun _ c1 => DD.nx env c1) : wDrop a DD env c := h
theorem wIf_i {t : WT} {a b : WS} (h : t (exE DD env) env c fun k c1 => if k = true then a DD env c1 else b DD env c1) : wIf t a b DD env c := h
theorem wAsg_i {a : WE} (h : a (exE DD env) env c fun d c1 => DD.nx (env.set i (some d)) c1) : wAsg i a DD env c := h
theorem wAsgG_i {a : WE} {g : WG} (h : a (exE DD env) env c fun d c1 => g d env c1 DD.nx) : wAsgG g a DD env c := h
theorem wSet_i {o k a : WE} (h : a (exE DD env) env c fun d c1 => o (exE DD env) env c1 fun x c2 => k (exE DD env) env c2 fun y c3 => setR c3 x y d fun c4 => DD.nx env c4) : wSet o k a DD env c := h
theorem gNm_i {N : DEnv → CMap → Prop} (h : N (env.set i (some d)) c) : gNm i d env c N := h
theorem gTp_i {n : Nat} {gs : WGs} {N : DEnv → CMap → Prop} (hl : ds.length = n) (h : gs ds env c N) : gTp n gs (.tup ds) env c N := ⟨ds, .inl rfl, hl, h⟩
theorem gTp_k {n : Nat} {gs : WGs} {N : DEnv → CMap → Prop} (hl : ds.length = n) (h : gs ds env c N) : gTp n gs (.kt ds) env c N := ⟨ds, .inr rfl, hl, h⟩
theorem gCn_i {g : WG} {gs : WGs} {N : DEnv → CMap → Prop} (h : g d env c fun env' c' => gs es env' c' N) : gCn g gs (d :: es) env c N := ⟨d, es, rfl, h⟩
theorem gNl_i {N : DEnv → CMap → Prop} (h : N env c) : gNl [] env c N := ⟨rfl, h⟩
theorem wVar_i (h : getE env i = some d) (q : Q d c) : wVar i E env c Q := ⟨d, h, q⟩
theorem wC_i (q : Q d c) : wC d E env c Q := q
theorem wOp_i {R : RD2} {a b : WE} (h : a E env c fun d c1 => b E env c1 fun e c2 => R c2 d e Q) : wOp R a b E env c Q := h
theorem wNeg_i {a : WE} (h : a E env c fun d c1 => negR d c1 Q) : wNeg a E env c Q := h
theorem neg_i {k : Int} (q : Q (.int (-k)) c) : negR (.int k) c Q := q
theorem wFn_i {R : RDn} {r : WA} (h : r E env c fun ds c1 => R c1 ds Q) : wFn R r E env c Q := h
theorem wCall_i {sp : DSpec} {r : WA} (h : r E env c fun ds c1 => sp ds c1 E Q) : wCall sp r E env c Q := h
theorem wNil_i {N : List D → CMap → Prop} (h : N [] c) : wNil E env c N := h
theorem wCons_i {a : WE} {r : WA} {N : List D → CMap → Prop} (h : a E env c fun d c1 => r E env c1 fun ds c2 => N (d :: ds) c2) : wCons a r E env c N := h
theorem wTup_i {r : WA} (h : r E env c fun ds c1 => ds.length ≤ sizeLine ∧ Q (.tup ds) c1) : wTup r E env c Q := h
theorem wLst_i {m : Bool} {r : WA} (h : r E env c fun ds c1 => ds.length ≤ sizeLine ∧ newL m c1 ds Q) : wLst m r E env c Q := h
theorem len_ok {n : Nat} (h : Nat.ble n 16777216 = true) : n ≤ sizeLine := by rw [sizeLine_eq]; exact Nat.le_of_ble_eq_true h
theorem len_le {n : Nat} (h : n ≤ 16777216) : n ≤ sizeLine := by rw [sizeLine_eq]; exact h
theorem len_lt {n : Nat} (h : n < 16777216) : n < sizeLine := by rw [sizeLine_eq]; exact h
theorem lenQ {n : Nat} {A : Prop} (h : Nat.ble n 16777216 = true) (q : A) : n ≤ sizeLine ∧ A := ⟨len_ok h, q⟩
theorem newL_f (h : Q (.lst ds) c) : newL false c ds Q := by unfold newL; rw [if_neg (by decide)]; exact h
theorem newL_t (h : ∀ p, c p = none → Q (.ref p) (updc c p (.lst ds))) : newL true c ds Q := by unfold newL; rw [if_pos rfl]; exact h
theorem wTst_i {a : WE} {N : Bool → CMap → Prop} (h : a E env c fun d c' => asB d c' N) : wTst a E env c N := h
theorem asB_i {b : Bool} {N : Bool → CMap → Prop} (h : N b c) : asB (.bl b) c N := h
theorem asI_i {k : Int} {N : Int → CMap → Prop} (h : N k c) : asI (.int k) c N := h
theorem wNot_i {t : WT} {N : Bool → CMap → Prop} (h : t E env c fun b c1 => N (!b) c1) : wNot t E env c N := h
theorem wAnd_i {s t : WT} {N : Bool → CMap → Prop} (h : s E env c fun b c1 => if b = true then t E env c1 N else N false c1) : wAnd s t E env c N := h
theorem wOr_i {s t : WT} {N : Bool → CMap → Prop} (h : s E env c fun b c1 => if b = true then N true c1 else t E env c1 N) : wOr s t E env c N := h
theorem wAndV_i {a b : WE} (h : a E env c fun d c1 => asB d c1 fun k c2 => if k = true then b E env c2 Q else Q (.bl false) c2) : wAndV a b E env c Q := h
theorem wOrV_i {a b : WE} (h : a E env c fun d c1 => asB d c1 fun k c2 => if k = true then Q (.bl true) c2 else b E env c2 Q) : wOrV a b E env c Q := h
theorem wNotV_i {a : WE} (h : a E env c fun d c1 => asB d c1 fun k c2 => Q (.bl (!k)) c2) : wNotV a E env c Q := h
theorem wIfE_i {t : WT} {a b : WE} (h : t E env c fun k c1 => if k = true then a E env c1 Q else b E env c1 Q) : wIfE t a b E env c Q := h
theorem wYes_i {N : Bool → CMap → Prop} (h : N true c) : wYes E env c N := h
theorem wSl_i {m : Bool} {a : WE} {lo hi : WO} (h : a E env c fun d c1 => lo E env c1 fun l c2 => hi E env c2 fun u c3 => sliceR m c3 d l u Q) : wSl m a lo hi E env c Q := h
theorem wNo_i {N : Option Int → CMap → Prop} (h : N none c) : wNo E env c N := h
theorem wSome_i {a : WE} {N : Option Int → CMap → Prop} (h : a E env c fun d c1 => asI d c1 fun i c2 => N (some i) c2) : wSome a E env c N := h
theorem wFrz_i {a : WE} (h : a E env c fun d c1 => frzR d c1 Q) : wFrz a E env c Q := h
theorem frzQ (h : c p = some (.lst ds)) (q : Q (.lst ds) (delc c p)) : frzR (.ref p) c Q := ⟨p, ds, rfl, h, q⟩
theorem wWk_i {a : WE} (h : a E env c (wkQ Q)) : wWk a E env c Q := h
theorem wk_i {c2 : CMap} (h : SubC c2 c) (q : Q d c2) : wkQ Q d c := ⟨c2, h, q⟩
theorem wMt_i {T : String} {R : RDm} {o : WE} {r : WA} (h : o E env c fun d c1 => tyDl T c1 d ∧ r E env c1 fun ds c2 => R c2 d ds Q) : wMt T R o r E env c Q := h
theorem wGet2_i {o k z : WE} (h : o E env c fun d c1 => ∃ p, d = .ref p ∧ ((∃ kvs, c1 p = some (.dK kvs)) ∨ ∃ kvs, c1 p = some (.dT kvs)) ∧ k E env c1 fun y c2 => z E env c2 fun w c3 => dictAt c3 p y fun r => Q (r.getD w) c3) : wGet2 o k z E env c Q := h
theorem wDict_i {t : Bool} (h : ∀ p, c p = none → Q (.ref p) (updc c p (if t then .dT [] else .dK []))) : wDict t E env c Q := h
theorem wIt_i {a : WE} {N : List D → (CMap → Prop) → CMap → Prop} (h : a E env c fun d c1 => itR d c1 N) : wIt a E env c N := h
theorem itQ {N : List D → (CMap → Prop) → CMap → Prop} (h : itsD d = some ds) (q : N ds noG c) : itR d c N := .inl ⟨ds, h, q⟩
theorem itC {N : List D → (CMap → Prop) → CMap → Prop} (h : c p = some (.lst ds)) (q : N ds (fun c => c p = some (.lst ds)) c) : itR (.ref p) c N := .inr ⟨p, ds, rfl, h, q⟩
theorem wRg1_i {r : WA} {N : List D → (CMap → Prop) → CMap → Prop} (h : r E env c fun ds c1 => rgR1 ds c1 N) : wRg1 r E env c N := h
theorem wRg2_i {r : WA} {N : List D → (CMap → Prop) → CMap → Prop} (h : r E env c fun ds c1 => rgR2 ds c1 N) : wRg2 r E env c N := h
theorem wZip_i {r : WA} {N : List D → (CMap → Prop) → CMap → Prop} (h : r E env c fun ds c1 => zipR ds c1 N) : wZip r E env c N := h
theorem wEnum_i {r : WA} {N : List D → (CMap → Prop) → CMap → Prop} (h : r E env c fun ds c1 => enumR ds c1 N) : wEnum r E env c N := h
theorem rg1_i {n : Int} {N : List D → (CMap → Prop) → CMap → Prop} (h1 : -4611686018427387904 ≤ n) (h2 : n < 4611686018427387904) (q : N ((upto 0 n.toNat).map D.int) noG c) : rgR1 [.int n] c N := ⟨h1, h2, q⟩
theorem rg2_i {a b : Int} {N : List D → (CMap → Prop) → CMap → Prop} (h1 : -4611686018427387904 ≤ a) (h2 : a < 4611686018427387904) (h3 : -4611686018427387904 ≤ b) (h4 : b < 4611686018427387904) (q : N ((upto a (b - a).toNat).map D.int) noG c) : rgR2 [.int a, .int b] c N := ⟨h1, h2, h3, h4, q⟩
abbrev ndG : CMap → Prop := fun c => noG c ∧ noG c
theorem zip_i {xs ys : List D} {N : List D → (CMap → Prop) → CMap → Prop} (q : N ((xs.zip ys).map fun p => D.tup [p.1, p.2]) ndG c) : zipR [.lst xs, .lst ys] c N := .inl ⟨xs, ys, _, _, .inl ⟨rfl, rfl⟩, .inl ⟨rfl, rfl⟩, q⟩
theorem zip_t {xs ys : List D} {N : List D → (CMap → Prop) → CMap → Prop} (q : N ((xs.zip ys).map fun p => D.tup [p.1, p.2]) noG c) : zipR [.tup xs, .tup ys] c N := .inr ⟨xs, ys, rfl, rfl, q⟩
theorem zip_cl {xs ys : List D} {N : List D → (CMap → Prop) → CMap → Prop} (h : c p = some (.lst xs)) (q : N ((xs.zip ys).map fun p => D.tup [p.1, p.2]) (fun c => c p = some (.lst xs) ∧ noG c) c) : zipR [.ref p, .lst ys] c N := .inl ⟨xs, ys, _, _, .inr ⟨p, rfl, h, rfl⟩, .inl ⟨rfl, rfl⟩, q⟩
theorem enum_i {xs : List D} {N : List D → (CMap → Prop) → CMap → Prop} (q : N (xs.mapIdx fun i x => D.tup [.int (i : Nat), x]) noG c) : enumR [.lst xs] c N := ⟨xs, _, .inl ⟨rfl, rfl⟩, q⟩
theorem wFor_i {wi : WI} {wg : WG} {b : WS} (h : wi (exE DD env) env c fun ds G c1 => ForP wg b DD ds G env c1) : wFor wi wg b DD env c := h
theorem wComp_i {m : Bool} {wi : WI} {wg : WG} {wt : WT} {we : WE} {vs : List Nat} (h : wi E env c fun ds G c1 => ∀ A, c1 A = none → CompP m (compS wg wt we (wipeE env vs)) A ds G c1 Q) : wComp m wi wg wt we vs E env c Q := h
theorem compS_i {wg : WG} {wt : WT} {we : WE} {k : Option D → CMap → Prop} (h : wg d env c fun env2 c2 => wt noX env2 c2 fun b c3 => if b = true then we noX env2 c3 fun y c4 => k (some y) c4 else k none c3) : compS wg wt we env d c k := h
theorem forS_i {wg : WG} {b : WS} {N : DEnv → CMap → Prop} (h : wg d env c fun env2 c2 => b { DD with nx := N, ct := N, bk := DD.nx } env2 c2) : forS wg b DD d env c N := h
theorem res_c (h : c p = some (.lst ds)) : res c (.ref p) = .lst ds := by show resAt (c p) p = _; rw [h]; rfl
theorem res_K {kvs : List (Key × D)} (h : c p = some (.dK kvs)) : res c (.ref p) = .ref p := by show resAt (c p) p = _; rw [h]; rfl
theorem res_T {kvs : List (List Key × D)} (h : c p = some (.dT kvs)) : res c (.ref p) = .ref p := by show resAt (c p) p = _; rw [h]; rfl
theorem res_w {o : HO} (h : c p = some (.raw o)) : res c (.ref p) = .ref p := by show resAt (c p) p = _; rw [h]; rfl
theorem dA_T {kvs : List (List Key × D)} {ks : List Key} {k : Option D → Prop} (h : c p = some (.dT kvs)) (h2 : keysD es = some ks) (q : k (valD kvs ks)) : dictAt c p (.tup es) k := by unfold dictAt; rw [h]; dsimp only; rw [h2]; exact q
theorem dA_K {kvs : List (Key × D)} {x : Key} {k : Option D → Prop} (h : c p = some (.dK kvs)) (h2 : keyD d = some x) (q : k (valD kvs x)) : dictAt c p d k := by unfold dictAt; rw [h]; dsimp only; rw [h2]; exact q
theorem at0 {α : Type} (x : α) (xs : List α) : atI (x :: xs) 0 = some x := atI_nat (j := 0) rfl
theorem at1 {α : Type} (x y : α) (xs : List α) : atI (x :: y :: xs) 1 = some y := atI_nat (j := 1) rfl
theorem atn {α : Type} {xs : List α} {i : Int} {j : Nat} {x : α} (e : i = (j : Int)) (h : xs[j]? = some x) : atI xs i = some x := by rw [e]; exact atI_nat h
theorem ixn {n : Nat} {i : Int} {j : Nat} (e : i = (j : Int)) (h : j < n) : ixN n i = some j := by
  subst e; unfold ixN; rw [if_pos (by omega), if_pos (by omega)]; simp
/-! by values -/
theorem add_ii {m : Bool} {i j : Int} (q : Q (.int (i + j)) c) : addR m c (.int i) (.int j) Q := q
theorem add_ss {m : Bool} {i j : Str} (h : i.length + j.length ≤ sizeLine) (q : Q (.str (i ++ j)) c) : addR m c (.str i) (.str j) Q := ⟨h, q⟩
theorem add_ll {m : Bool} {a b : List D} (h : a.length + b.length ≤ sizeLine) (q : newL m c (a ++ b) Q) : addR m c (.lst a) (.lst b) Q := ⟨h, q⟩
theorem add_tt {m : Bool} {a b : List D} (h1 : a ≠ []) (h2 : b ≠ []) (h : a.length + b.length ≤ sizeLine) (q : Q (.tup (a ++ b)) c) : addR m c (.tup a) (.tup b) Q := ⟨h1, h2, h, q⟩
theorem sub_ii {i j : Int} (q : Q (.int (i - j)) c) : subR c (.int i) (.int j) Q := q
theorem mul_ii {m : Bool} {i j : Int} (h : CMul i j ∨ CMulW i j) (q : Q (.int (i * j)) c) : mulR m c (.int i) (.int j) Q := ⟨h, q⟩
theorem mul_li {m : Bool} {a : List D} {k : Int} (h1 : -(2 ^ 63) ≤ k) (h2 : k < 2 ^ 63) (h : a.length * k.toNat ≤ sizeLine) (q : newL m c (List.replicate k.toNat a).flatten Q) : mulR m c (.lst a) (.int k) Q := ⟨h1, h2, h, q⟩
theorem fdiv_ii {i j : Int} (h : CDiv i j ∨ CDivW i j) (q : Q (.int (i / j)) c) : fdivR c (.int i) (.int j) Q := ⟨h, q⟩
theorem mod_ii {i j : Int} (h : 0 < j) (q : Q (.int (i % j)) c) : modR c (.int i) (.int j) Q := ⟨h, q⟩
theorem pow_ii {i j z : Int} (h : CPow i j) (e : i ^ j.toNat = z) (q : Q (.int z) c) : powR c (.int i) (.int j) Q := ⟨h, by rw [e]; exact q⟩
theorem lt_ii {f : Int → Int → Bool} {g : Str → Str → Bool} {i j : Int} (q : Q (.bl (f i j)) c) : ltR f g c (.int i) (.int j) Q := q
theorem ltI_ii {f : Int → Int → Bool} {i j : Int} (q : Q (.bl (f i j)) c) : ltI f c (.int i) (.int j) Q := q
theorem eq_ii {n : Bool} {i j : Int} (q : Q (.bl (n ^^ decide (i = j))) c) : eqR n c (.int i) (.int j) Q :=
  ⟨⟨rfl, by simp [res, dep]⟩, ⟨rfl, by simp [res, dep]⟩, by
    show Q (.bl (n ^^ decide (D.int i = D.int j))) c
    have : decide (D.int i = D.int j) = decide (i = j) := by simp
    rw [this]; exact q⟩
theorem eq_dd {n : Bool} {d' e' : D} (h1 : res c d = d') (h2 : res c e = e') (o1 : eqOk d') (o2 : eqOk e') (q : Q (.bl (n ^^ decide (d' = e'))) c) : eqR n c d e Q := by
  unfold eqR
  rw [h1, h2]
  split
  · exact absurd o1.1 (by simp [okD])
  · exact ⟨o1, o2, q⟩
theorem in_l {n : Bool} (h1 : res c e = .lst ds) (h2 : flatD d = true) (h3 : ds.all flatD = true) (q : Q (.bl (n ^^ decide (d ∈ ds))) c) : inR n c d e Q := by unfold inR; rw [h1]; exact ⟨h2, h3, q⟩
theorem in_t {n : Bool} (h2 : flatD d = true) (h3 : ds.all flatD = true) (q : Q (.bl (n ^^ decide (d ∈ ds))) c) : inR n c d (.tup ds) Q := ⟨h2, h3, q⟩
theorem in_k {n : Bool} (h2 : flatD d = true) (h3 : ds.all flatD = true) (q : Q (.bl (n ^^ decide (d ∈ ds))) c) : inR n c d (.kt ds) Q := ⟨h2, h3, q⟩
theorem in_s {n : Bool} {k : Nat} {z : Str} (q : Q (.bl (n ^^ decide (k ∈ z.cps.toList))) c) : inR n c (.str ⟨#[k]⟩) (.str z) Q := ⟨k, rfl, q⟩
theorem in_dT {n : Bool} {kvs : List (List Key × D)} {ks : List Key} (h : c p = some (.dT kvs)) (h2 : keysD es = some ks) (q : Q (.bl (n ^^ (valD kvs ks).isSome)) c) : inR n c (.tup es) (.ref p) Q := by
  unfold inR; rw [res_T h]; exact dA_T h h2 q
theorem in_dK {n : Bool} {kvs : List (Key × D)} {k : Key} (h : c p = some (.dK kvs)) (h2 : keyD d = some k) (q : Q (.bl (n ^^ (valD kvs k).isSome)) c) : inR n c d (.ref p) Q := by
  unfold inR; rw [res_K h]; exact dA_K h h2 q
theorem ix_l {i : Int} (h : atI ds i = some x) (q : Q x c) : idxR c (.lst ds) (.int i) Q := ⟨x, h, q⟩
theorem ix_t {i : Int} (h : atI ds i = some x) (q : Q x c) : idxR c (.tup ds) (.int i) Q := ⟨x, h, q⟩
theorem ix_k {i : Int} (h : atI ds i = some x) (q : Q x c) : idxR c (.kt ds) (.int i) Q := ⟨x, h, q⟩
theorem ix_s {i k : Int} {ns : List Int} (h : atI ns i = some k) (q : Q (.int k) c) : idxR c (.scr ns) (.int i) Q := ⟨k, h, q⟩
theorem ix_c {i : Int} (hc : c p = some (.lst ds)) (h : atI ds i = some x) (q : Q x c) : idxR c (.ref p) (.int i) Q := by unfold idxR; rw [res_c hc]; exact ⟨x, h, q⟩
theorem ix_str {i : Int} {z : Str} {k : Nat} (hl : z.length ≤ sizeLine) (h : atI z.cps.toList i = some k) (q : Q (.str ⟨#[k]⟩) c) : idxR c (.str z) (.int i) Q := ⟨hl, k, h, q⟩
theorem ix_dT {kvs : List (List Key × D)} {ks : List Key} (h : c p = some (.dT kvs)) (h2 : keysD es = some ks) (h3 : valD kvs ks = some x) (q : Q x c) : idxR c (.ref p) (.tup es) Q := by
  unfold idxR; rw [res_T h]; exact dA_T h h2 ⟨x, h3, q⟩
theorem ix_dK {kvs : List (Key × D)} {k : Key} (h : c p = some (.dK kvs)) (h2 : keyD d = some k) (h3 : valD kvs k = some x) (q : Q x c) : idxR c (.ref p) d Q := by
  unfold idxR; rw [res_K h]
  cases d <;> simp only [keyD, Option.some.injEq, reduceCtorEq] at h2 <;> exact dA_K h (by simp only [keyD, h2]) ⟨x, h3, q⟩
theorem sl_l {m : Bool} {lo hi : Option Int} (q : newL m c (cutG ds lo hi) Q) : sliceR m c (.lst ds) lo hi Q := q
theorem sl_c {m : Bool} {lo hi : Option Int} (h : c p = some (.lst ds)) (q : newL m c (cutG ds lo hi) Q) : sliceR m c (.ref p) lo hi Q := by unfold sliceR; rw [res_c h]; exact q
theorem sl_r {m : Bool} {lo hi : Option Int} {ns : List Int} (q : newL m c ((cutG ns lo hi).map D.int) Q) : sliceR m c (.scr ns) lo hi Q := q
theorem sl_s {m : Bool} {lo hi : Option Int} {z : Str} (h : z.length ≤ sizeLine) (q : Q (.str (cutS z lo hi)) c) : sliceR m c (.str z) lo hi Q := ⟨h, q⟩
theorem len_l (q : Q (.int ds.length) c) : lenR c [.lst ds] Q := q
theorem len_t (q : Q (.int ds.length) c) : lenR c [.tup ds] Q := q
theorem len_k (q : Q (.int ds.length) c) : lenR c [.kt ds] Q := q
theorem len_r {ns : List Int} (q : Q (.int ns.length) c) : lenR c [.scr ns] Q := q
theorem len_s {z : Str} (h : z.length ≤ sizeLine) (q : Q (.int z.length) c) : lenR c [.str z] Q := ⟨h, q⟩
theorem len_c (h : c p = some (.lst ds)) (q : Q (.int ds.length) c) : lenR c [.ref p] Q := by unfold lenR; dsimp only; rw [res_c h]; exact q
theorem int_i {k : Int} (q : Q (.int k) c) : intR c [.int k] Q := q
theorem int_b {b : Bool} (q : Q (.int (if b then 1 else 0)) c) : intR c [.bl b] Q := q
theorem abs_i {k : Int} (q : Q (.int (if k < 0 then -k else k)) c) : absR c [.int k] Q := q
theorem max2_i {i j : Int} (q : Q (.int (if j > i then j else i)) c) : max2R c [.int i, .int j] Q := q
theorem min2_i {i j : Int} (q : Q (.int (if j < i then j else i)) c) : min2R c [.int i, .int j] Q := q
theorem str_i {k : Int} (h : k.natAbs.log2 < 1920) (q : Q (.str (toString k)) c) : strR c [.int k] Q := ⟨h, q⟩
theorem isi_i {n t : String} {b : Bool} (h1 : tyN c d = some t) (h2 : isiB t n = some b) (q : Q (.bl b) c) : isiR c [d, .ty n] Q := ⟨t, b, h1, h2, q⟩
theorem isi_t {t : String} {b : Bool} {ns : List String} (h1 : tyN c d = some t) (h2 : tysD ds = some ns) (h3 : isiAny t ns = some b) (q : Q (.bl b) c) : isiR c [d, .tup ds] Q := ⟨t, b, ns, h1, h2, h3, q⟩
theorem sort_i {m : Bool} {ns : List Int} (h : res c d = .lst ds) (h1 : intsD ds = some ns) (q : ∀ ns' : List Int, ns'.Perm ns → ns'.Pairwise (· ≤ ·) → newL m c (ns'.map D.int) Q) : sortR m c [d] Q := by unfold sortR; dsimp only; rw [h]; exact .inl ⟨ns, h1, q⟩
theorem sort_s {m : Bool} {ns : List Str} (h : res c d = .lst ds) (h1 : strsD ds = some ns) (h2 : ns.length < 64) (q : ∀ ys : List Str, ys.Perm ns → PyProof.Rows.sortedS ys = true → newL m c (ys.map D.str) Q) : sortR m c [d] Q := by unfold sortR; dsimp only; rw [h]; exact .inr ⟨ns, h1, h2, q⟩
theorem lst_l {m : Bool} (q : newL m c ds Q) : listR m c [.lst ds] Q := q
theorem lst_t {m : Bool} (q : newL m c ds Q) : listR m c [.tup ds] Q := q
theorem lst_c {m : Bool} (h : c p = some (.lst ds)) (q : newL m c ds Q) : listR m c [.ref p] Q := by unfold listR; dsimp only; rw [res_c h]; exact q
theorem lst_s {m : Bool} {ns : List Int} (q : newL m c (ns.map D.int) Q) : listR m c [.scr ns] Q := q
theorem lst_g {m : Bool} {a b : Int} (h : c p = some (.raw (.rng a b))) (h1 : -(2 ^ 62) ≤ a) (h2 : a < 2 ^ 62) (h3 : -(2 ^ 62) ≤ b) (h4 : b < 2 ^ 62) (h5 : (b - a).toNat ≤ 2 ^ 24) (q : newL m c ((upto a (b - a).toNat).map D.int) Q) : listR m c [.ref p] Q := by
  unfold listR; dsimp only; rw [res_w h]; dsimp only; rw [h]; exact ⟨h1, h2, h3, h4, h5, q⟩
theorem rng_1 {n : Int} (q : ∀ p, c p = none → Q (.ref p) (updc c p (.raw (.rng 0 n)))) : rangeR c [.int n] Q := q
theorem tup_l (q : Q (.tup ds) c) : tupleR c [.lst ds] Q := q
theorem tup_t (q : Q (.tup ds) c) : tupleR c [.tup ds] Q := q
theorem all_l {bs : List Bool} (h : blsD ds = some bs) (q : Q (.bl (bs.all id)) c) : allR c [.lst ds] Q := ⟨bs, h, q⟩
theorem set_l {k : Int} {j : Nat} {N : CMap → Prop} (h : c p = some (.lst ds)) (h2 : ixN ds.length k = some j) (q : N (updc c p (.lst (ds.set j d)))) : setR c (.ref p) (.int k) d N := by
  refine ⟨p, rfl, ?_⟩; rw [h]; exact ⟨k, j, rfl, h2, q⟩
theorem set_dK {kvs : List (Key × D)} {k : Key} {N : CMap → Prop} (h : c p = some (.dK kvs)) (h2 : keyD x = some k) (h3 : kvs.length < sizeLine) (q : N (updc c p (.dK (putKD kvs k d)))) : setR c (.ref p) x d N := by
  refine ⟨p, rfl, ?_⟩; rw [h]; exact ⟨k, h2, h3, q⟩
theorem set_dT {kvs : List (List Key × D)} {ks : List Key} {N : CMap → Prop} (h : c p = some (.dT kvs)) (h2 : keysD es = some ks) (h3 : kvs.length < sizeLine) (q : N (updc c p (.dT (putKD kvs ks d)))) : setR c (.ref p) (.tup es) d N := by
  refine ⟨p, rfl, ?_⟩; rw [h]; exact ⟨es, ks, rfl, h2, h3, q⟩
theorem ty_c (h : c p = some (.lst es)) : tyDl "list" c (.ref p) := by unfold tyDl; rw [res_c h]
theorem ty_s {z : Str} : tyDl "str" c (.str z) := rfl
theorem app_c (h : c p = some (.lst es)) (h2 : es.length < sizeLine) (q : Q .non (updc c p (.lst (es ++ [x])))) : appR c (.ref p) [x] Q := ⟨es, h, h2, q⟩
theorem join_i {a : Str} {ys : List Str} (h : ds = ys.map D.str) (h2 : (ys.map (·.length)).sum + ys.length * a.length ≤ 16777216) (q : Q (.str (Txt.join a ys)) c) : joinR c (.str a) [.lst ds] Q := ⟨ys, h, h2, q⟩
/-! tests -/
theorem ite_d {p : Prop} [Decidable p] {A B : Prop} (h1 : p → A) (h2 : ¬ p → B) : if decide p = true then A else B := by
  by_cases h : p
  · rw [if_pos (decide_eq_true h)]; exact h1 h
  · rw [if_neg (by simpa using h)]; exact h2 h
theorem ite_fd {p : Prop} [Decidable p] {A B : Prop} (h1 : p → A) (h2 : ¬ p → B) : if (false ^^ decide p) = true then A else B := by
  rw [Bool.false_xor]; exact ite_d h1 h2
theorem ite_td {p : Prop} [Decidable p] {A B : Prop} (h1 : ¬ p → A) (h2 : p → B) : if (true ^^ decide p) = true then A else B := by
  rw [Bool.true_xor]
  by_cases h : p
  · rw [if_neg (by simp [h])]; exact h2 h
  · rw [if_pos (by simp [h])]; exact h1 h
theorem ite_bt {A B : Prop} (h : A) : if true = true then A else B := by rw [if_pos rfl]; exact h
theorem ite_bf {A B : Prop} (h : B) : if false = true then A else B := by rw [if_neg (by decide)]; exact h
theorem ite_n {b : Bool} {A B : Prop} (h : if b = true then B else A) : if (!b) = true then A else B := by cases b <;> simpa using h
theorem ite_b {b : Bool} {A B : Prop} (h1 : b = true → A) (h2 : b = false → B) : if b = true then A else B := by
  cases b with
  | true => rw [if_pos rfl]; exact h1 rfl
  | false => rw [if_neg (by decide)]; exact h2 rfl
end
/-! loops -/
section
variable {wg : WG} {b : WS} {DD : DEnds} {ds : List D} {env : DEnv} {c : CMap} {Q : DK} {A : Addr}
theorem for_invG {G : CMap → Prop} (P : Nat → DEnv → CMap → Prop) (h0 : P 0 env c) (hs : ∀ (i : Nat) (d : D) (env : DEnv) (c : CMap), ds[i]? = some d → P i env c → forS wg b DD d env c (P (i + 1))) (hg : ∀ i env c, P i env c → G c) (hd : ∀ env c, P ds.length env c → DD.nx env c) : ForP wg b DD ds G env c := ⟨P, h0, hg, fun i d env c e q => ⟨_, fun env c q => ⟨c, SubC.rfl', q⟩, hs i d env c e q⟩, hd⟩
class FreeG (G : CMap → Prop) : Prop where
  all : ∀ c, G c
instance : FreeG noG := ⟨fun _ => trivial⟩
instance : FreeG (fun _ => True) := ⟨fun _ => trivial⟩
instance : FreeG ndG := ⟨fun _ => ⟨trivial, trivial⟩⟩
theorem for_inv {G : CMap → Prop} [FreeG G] (P : Nat → DEnv → CMap → Prop) (h0 : P 0 env c) (hs : ∀ (i : Nat) (d : D) (env : DEnv) (c : CMap), ds[i]? = some d → P i env c → forS wg b DD d env c (P (i + 1))) (hd : ∀ env c, P ds.length env c → DD.nx env c) : ForP wg b DD ds G env c := for_invG P h0 hs (fun _ _ c _ => FreeG.all c) hd
abbrev wkE (N : DEnv → CMap → Prop) : DEnv → CMap → Prop := fun env c => ∃ c2, SubC c2 c ∧ N env c2
/-- .. cells that the next turn doesn't ask for may be left out -/
theorem for_invW {G : CMap → Prop} [FreeG G] (P : Nat → DEnv → CMap → Prop) (h0 : P 0 env c) (hs : ∀ (i : Nat) (d : D) (env : DEnv) (c : CMap), ds[i]? = some d → P i env c → forS wg b DD d env c (wkE (P (i + 1)))) (hd : ∀ env c, P ds.length env c → DD.nx env c) : ForP wg b DD ds G env c := ⟨P, h0, fun _ _ c _ => FreeG.all c, fun i d env c e q => ⟨_, fun _ _ z => z, hs i d env c e q⟩, hd⟩
theorem for_unr {G : CMap → Prop} [FreeG G] (h : forD (forS wg b DD) ds env c DD.nx) : ForP wg b DD ds G env c := by
  refine ⟨fun i env c => forD (forS wg b DD) (ds.drop i) env c DD.nx, by simpa using h, fun _ _ c _ => FreeG.all c, fun i d env c e q => ⟨_, fun env c q => ⟨c, SubC.rfl', q⟩, ?_⟩, fun env c q => ?_⟩
  · obtain ⟨hi, rfl⟩ := List.getElem?_eq_some_iff.mp e
    dsimp only at q
    rw [List.drop_eq_getElem_cons hi] at q
    exact q
  · dsimp only at q
    rw [List.drop_length] at q
    exact q
theorem updc_comm {c : CMap} {a b : Addr} {k l : Cell} (h : a ≠ b) : updc (updc c a k) b l = updc (updc c b l) a k := by
  funext x
  unfold updc
  by_cases h1 : x = b
  · subst h1; rw [if_pos rfl, if_neg (Ne.symm h), if_pos rfl]
  · rw [if_neg h1, if_neg h1]
theorem delc_updc {c : CMap} {a : Addr} {k : Cell} (h : c a = none) : delc (updc c a k) a = c := by
  funext x
  unfold delc updc
  by_cases h1 : x = a
  · subst h1; rw [if_pos rfl, h]
  · rw [if_neg h1, if_neg h1]
theorem delc_comm {c : CMap} {a b : Addr} {k : Cell} (h : a ≠ b) : delc (updc c a k) b = updc (delc c b) a k := by
  funext x
  show (if x = b then none else if x = a then some k else c x) = if x = a then some k else if x = b then none else c x
  by_cases h1 : x = b
  · subst h1; rw [if_pos rfl, if_neg (Ne.symm h), if_pos rfl]
  · rw [if_neg h1, if_neg h1]
theorem updc_none {c : CMap} {a b : Addr} {k : Cell} (h : updc c a k b = none) : b ≠ a ∧ c b = none := by
  by_cases e : b = a
  · subst e; rw [updc_same] at h; cases h
  · rw [updc_ne e] at h; exact ⟨e, h⟩
theorem updc_ne' {c : CMap} {a b : Addr} {k : Cell} {o : Option Cell} (h : b ≠ a) (e : c b = o) : updc c a k b = o := by rw [updc_ne h]; exact e
theorem delc_ne' {c : CMap} {a b : Addr} {o : Option Cell} (h : b ≠ a) (e : c b = o) : delc c a b = o := by rw [delc_ne h]; exact e
theorem sub_p {c c' : CMap} {p : Addr} {k1 k2 : Cell} (h : SubC (updc c p k1) c') : SubC (updc c p k2) (updc c' p k2) := by
  intro b x e
  by_cases z : b = p
  · subst z; rw [updc_same] at e ⊢; exact e
  · rw [updc_ne z] at e ⊢; exact h b x (by rw [updc_ne z]; exact e)
theorem sub_at {c c' : CMap} {p : Addr} {k : Cell} (h : SubC (updc c p k) c') : c' p = some k := h _ _ updc_same
theorem sub_c {c c' : CMap} {p : Addr} {k k0 : Cell} (h : SubC (updc c p k) c') (hp : c p = some k0) : SubC (updc c p k) c' := h
/-- a comprehension by what holds of the list so far and of the other cells -/
theorem comp_invG {G : CMap → Prop} {m : Bool} {step : D → CMap → (Option D → CMap → Prop) → Prop} (hA : c A = none) (P : Nat → List D → CMap → Prop) (hl : ds.length < 16777216) (h0 : P 0 [] c)
    (hs : ∀ (i : Nat) (d : D) (acc : List D) (c : CMap) (k : Option D → CMap → Prop), ds[i]? = some d → P i acc c → c A = none →
      (∀ y c2, c2 A = none → P (i + 1) (acc ++ [y]) c2 → k (some y) (updc c2 A (.lst acc))) → (∀ c2, c2 A = none → P (i + 1) acc c2 → k none (updc c2 A (.lst acc))) → step d (updc c A (.lst acc)) k)
    (hg : ∀ i acc c2, P i acc c2 → c2 A = none → G (updc c2 A (.lst acc))) (hd : ∀ out c2, P ds.length out c2 → c2 A = none → if m = true then Q (.ref A) (updc c2 A (.lst out)) else Q (.lst out) c2) : CompP m step A ds G c Q := by
  refine ⟨fun i c' => ∃ acc c2, c' = updc c2 A (.lst acc) ∧ c2 A = none ∧ acc.length ≤ i ∧ i ≤ ds.length ∧ P i acc c2, ⟨[], c, rfl, hA, Nat.le_refl _, Nat.zero_le _, h0⟩, fun i c' ⟨acc, c2, e1, e2, _, _, e3⟩ => by subst e1; exact hg i acc c2 e3 e2, ?_, ?_⟩
  · rintro i d c' e ⟨acc, c2, rfl, h2, h3, h4, h5⟩
    have hi := (List.getElem?_eq_some_iff.mp e).1
    refine hs i d acc c2 _ e h5 h2 ?_ ?_
    · intro y c4 g1 g2
      exact ⟨acc, updc_same, len_lt (by omega), acc ++ [y], c4, updc_updc, g1, by simp; omega, by omega, g2⟩
    · intro c4 g1 g2
      exact ⟨acc, c4, rfl, g1, by omega, by omega, g2⟩
  · rintro c' ⟨acc, c2, rfl, h2, h3, h4, h5⟩
    refine ⟨acc, updc_same, ?_⟩
    have q := hd acc c2 h5 h2
    cases m with
    | true => rw [if_pos rfl] at q ⊢; exact q
    | false => rw [if_neg (by decide)] at q ⊢; rw [delc_updc h2]; exact q
theorem comp_inv {G : CMap → Prop} [FreeG G] {m : Bool} {step : D → CMap → (Option D → CMap → Prop) → Prop} (hA : c A = none) (P : Nat → List D → CMap → Prop) (hl : ds.length < 16777216) (h0 : P 0 [] c)
    (hs : ∀ (i : Nat) (d : D) (acc : List D) (c : CMap) (k : Option D → CMap → Prop), ds[i]? = some d → P i acc c → c A = none →
      (∀ y c2, c2 A = none → P (i + 1) (acc ++ [y]) c2 → k (some y) (updc c2 A (.lst acc))) → (∀ c2, c2 A = none → P (i + 1) acc c2 → k none (updc c2 A (.lst acc))) → step d (updc c A (.lst acc)) k)
    (hd : ∀ out c2, P ds.length out c2 → c2 A = none → if m = true then Q (.ref A) (updc c2 A (.lst out)) else Q (.lst out) c2) : CompP m step A ds G c Q := comp_invG hA P hl h0 hs (fun _ _ _ _ _ => FreeG.all _) hd
/-- .. whose elements change nothing: what it tells of each -/
theorem comp_map {G : CMap → Prop} [FreeG G] {step : D → CMap → (Option D → CMap → Prop) → Prop} (f : D → Option D) (hA : c A = none) (hl : ds.length < 16777216)
    (hs : ∀ (d : D) (c' : CMap) (k : Option D → CMap → Prop), d ∈ ds → (∀ b x, c b = some x → c' b = some x) → k (f d) c' → step d c' k) (q : Q (.lst (ds.filterMap f)) c) : CompP false step A ds G c Q := by
  refine comp_inv hA (fun i acc c' => c' = c ∧ acc = (ds.take i).filterMap f) hl ⟨rfl, by simp⟩ ?_ ?_
  · rintro i d acc c' k e ⟨rfl, rfl⟩ hA' k1 k2
    refine hs d _ k (List.mem_of_getElem? e) (fun b x h => by rw [updc_ne (ne_some_none h hA')]; exact h) ?_
    have et : (ds.take (i + 1)).filterMap f = (ds.take i).filterMap f ++ (f d).toList := by
      rw [List.take_add_one, e, List.filterMap_append]
      cases h : f d <;> simp [h]
    cases h : f d with
    | some y => exact k1 y _ hA' ⟨rfl, by rw [et, h]; rfl⟩
    | none => exact k2 _ hA' ⟨rfl, by rw [et, h]; simp⟩
  · rintro out c2 ⟨rfl, rfl⟩ _
    rw [if_neg (by decide), List.take_length]
    exact q
/-- what is wanted at a def's end -/
abbrev endD (E : XD) (Q : DK) : DEnds := { nx := fun _ c' => ∃ c2, SubC c2 c' ∧ Q .non c2, rt := fun d c' => ∃ c2, SubC c2 c' ∧ Q d c2, ex := fun cls od _ c' => ∃ c2, SubC c2 c' ∧ E cls od c2 }
end
end DL
/-! the data layer: the defs as the top leaves them; the law's call -/
namespace DL
open PySem PySem.Spec L2
open PyProof.Rows hiding St
theorem fnok_of {GI : Hp → Hp → Prop} {P : Program} {w : World} {K : PySem.W.Frag} {mg : Str → Option Value} {base : Heap} {x qual : Str} {st : Stmt} {f : Addr} {fd : FuncData} {N ps : List Str} {k : Nat} {sp : DSpec} {ws : WS}
    (F : Fun K x qual st f fd) (S : FnScope N ps (defScope st)) (len : ∀ ds c E Q, sp ds c E Q → ds.length = ps.length)
    (body : ∀ (cdv : Value) (A : Around) (outer : List Env) (s : Shared) (H : Hp) (E : XK), Room k (A.deeper (envOfC qual (defScope st) s.heap.objs.size f cdv)) →
      CSs GI (cxOf (L2.CX P w) P w K mg base N qual (defScope st) f cdv A outer s H E) (defBody st) ws)
    (ok : ∀ ds c (E : XD) (Q : DK), sp ds c E Q → ws (endD E Q) (startE N.length ds) c) : FnOk P w K mg base (L2.CX P w) (k + 1) f fd ps (lowSp K GI sp) := by
  refine F.okX S (fun vs H Q E h => ?_) fun cdv A outer s H vs Q E hr h => ?_
  · obtain ⟨G, ds, c, E', Qd, h1, h2, h3, _⟩ := h
    rw [h1.length, len _ _ _ _ h3]
  · obtain ⟨G, ds, c, E', Qd, h1, h2, h3, h4, h5⟩ := h
    refine ⟨_, body cdv A outer s H E hr (fun cls d _ H => E cls d H) ⟨S.nd, takes_of rfl rfl rfl rfl, PassesOwn.leaving⟩, G, _, c, _, RepE.start h1, h2, ok ds c E' Qd h3, ⟨?_, ?_, ?_, ?_, ?_⟩⟩
    · rintro G' env' c' σ' H' l re r ⟨c2, s2, q⟩
      exact h4 G' c2 H' _ _ l (r.sub' s2) .non q
    · rintro G' c' H' v d l r hd ⟨c2, s2, q⟩
      exact h4 G' c2 H' _ _ l (r.sub' s2) hd q
    · rintro G' env' c' σ' H' l re r q
      exact q
    · rintro G' env' c' σ' H' l re r q
      exact q
    · rintro G' env' c' σ' H' cls od l re r ⟨c2, s2, q⟩
      exact h5 G' c2 H' cls od l (r.sub' s2) q
/-- a def as the top leaves it -/
structure DefAt (K : PySem.W.Frag) (x qual : Str) (st : Stmt) (f : Addr) (fd : FuncData) : Prop where
  ns : PySem.W.nsIn K mainGlobals x = some (some (.ref f))
  fn : Fun K x qual st f fd
  at_ : f = He.fAd K (x, none)
/-- .. by the head's facts -/
theorem defAt_of {K : PySem.W.Frag} {fa : List He.Fa} {fn : List He.DefD} {x qual : Str} {st : Stmt} (c : He.SaysD fa fn K) (i j : Nat) (h : fn[i]? = some ⟨(x, none), x, qual, defArgs st, defBody st, defScope st, [], []⟩) (h2 : fa[j]? = some (.glo x)) : ∃ f fd, DefAt K x qual st f fd := by
  obtain ⟨fd, F⟩ := c.def_ i h
  refine ⟨He.ga K x, fd, He.eqO_ok (c.fact j h2), ?_, rfl⟩
  obtain ⟨oc, od, dV, kV, doc, pm, an, cdv, ct, osl, e, lk, hcd, hD, hK⟩ := F.ex
  rcases hD with ⟨_, z⟩ | ⟨z, _⟩
  · subst z
    exact ⟨⟨oc, od, kV, doc, pm, an, cdv, ct, osl, e, lk, hcd⟩, F.kp⟩
  · exact absurd rfl z
theorem free_of {K : PySem.W.Frag} {fa : List He.Fa} {fn : List He.DefD} {x : Str} (c : He.SaysD fa fn K) (j : Nat) (h2 : fa[j]? = some (.free x)) : PySem.W.nsIn K mainGlobals x = some none := He.eqO_ok (c.fact j h2)
theorem glD_int {K : PySem.W.Frag} {h : Heap} {fa : List He.Fa} {fn : List He.DefD} {x : Str} {i : Int} (X : K.In h) (c : He.SaysD fa fn K) (j : Nat) (h2 : fa[j]? = some (.int x i)) (mg : Str → Option Value) (G : h.Ns mainGlobals mg) : GlD K mg x (.int i) := by
  obtain ⟨t, e⟩ := He.int_ok X G (c.fact j h2)
  exact ⟨⟨.int i, _, e, ⟨t, rfl⟩, fun F => .int i⟩⟩
theorem glD_str {K : PySem.W.Frag} {h : Heap} {fa : List He.Fa} {fn : List He.DefD} {x z : Str} (X : K.In h) (c : He.SaysD fa fn K) (j : Nat) (h2 : fa[j]? = some (.str x z)) (mg : Str → Option Value) (G : h.Ns mainGlobals mg) : GlD K mg x (.str z) := by
  obtain ⟨t, e⟩ := He.str_ok X G (c.fact j h2)
  exact ⟨⟨.str z, _, e, ⟨t, rfl⟩, fun F => .str z⟩⟩
section
variable {GI : Hp → Hp → Prop} {P : Program} {w : World} {K : PySem.W.Frag} {mg : Str → Option Value} {base h : Heap} {x qual : Str} {st : Stmt} {f : Addr} {fd : FuncData} {N ps : List Str} {k n : Nat} {sp : DSpec} {ws : WS}
theorem hasG_of (X : K.In h) (G : h.Ns mainGlobals mg) (D : DefAt K x qual st f fd) (hb : Binds K fd ps []) (S : FnScope N ps (defScope st)) (hn : ps.length = n) (len : ∀ ds c E Q, sp ds c E Q → ds.length = ps.length)
    (body : ∀ (cdv : Value) (A : Around) (outer : List Env) (s : Shared) (H : Hp) (E : XK), Room k (A.deeper (envOfC qual (defScope st) s.heap.objs.size f cdv)) →
      CSs GI (cxOf (L2.CX P w) P w K mg base N qual (defScope st) f cdv A outer s H E) (defBody st) ws)
    (ok : ∀ ds c (E : XD) (Q : DK), sp ds c E Q → ws (endD E Q) (startE N.length ds) c) : HasG GI P w K mg base (k + 1) x n sp :=
  ⟨f, PySem.W.mg_of X G D.ns, ⟨fd, ps, hn, D.fn.kp, hb, fnok_of D.fn S len body ok⟩⟩
theorem hasG_void (X : K.In h) (G : h.Ns mainGlobals mg) (D : DefAt K x qual st f fd) (hb : Binds K fd ps []) (hn : ps.length = n) (v : ∀ ds c E Q, ¬ sp ds c E Q) : HasG GI P w K mg base k x n sp := by
  refine ⟨f, PySem.W.mg_of X G D.ns, ⟨fd, ps, hn, D.fn.kp, hb, ⟨fun vs H Q E q => ?_, fun A outer s H args us vs Q E _ _ _ _ q => ?_⟩⟩⟩
  · obtain ⟨_, _, _, _, _, _, _, z, _⟩ := q; exact (v _ _ _ _ z).elim
  · obtain ⟨_, _, _, _, _, _, _, z, _⟩ := q; exact (v _ _ _ _ z).elim
theorem HasG.mono {j : Nat} (h : HasG GI P w K mg base j x n sp) (l : j ≤ k) : HasG GI P w K mg base k x n sp := by
  obtain ⟨f, a, b⟩ := h
  exact ⟨f, a, b.mono l⟩
end
/-- the law's own promise -/
def sp_law : DSpec := fun ds c E Q => ∃ ns : List Int, ds = [.scr ns] ∧ ns.length ≤ 63 ∧ ∀ c', Q (.bl true) c'
theorem law_sp {K : PySem.W.Frag} {H : Hp} {a : Addr} {ns : List Int} (hl : ns.length ≤ 63) (h : SqL K H a (ns.map V.int)) : lowSp K (fun _ _ => True) sp_law [.ref a] H (fun v _ => v = .bl true) fun _ _ _ => False := by
  refine ⟨H, [.scr ns], fun _ => none, fun _ _ _ => False, fun d _ => d = .bl true, .one (.scr h), ⟨Le.rfl', (fun a k e => by cases e), trivial, glob_true⟩, ⟨ns, rfl, hl, fun _ => rfl⟩, ?_, ?_⟩
  · rintro F c H' v d _ _ hd rfl
    exact hd.bl_inv
  · rintro F c H' cls od _ _ q
    exact q
theorem cx_none {P : Program} {w : World} {H : Hp} {s : Shared} {e : Value} {s' : Shared} (h : L2.CX P w [] H s (fun _ _ _ => False) e s') : False := by
  obtain ⟨_, _, _, _, _, _, _, _, _, _, _, _, z⟩ := h
  exact z
theorem code_ref {K : PySem.W.Frag} {v : Value} {q : Str} (h : PySem.W.codeIn K v q = true) : ∃ c, v = .ref c := by
  unfold PySem.W.codeIn at h
  split at h
  · exact ⟨_, rfl⟩
  · cases h
/-- .. a def that makes functions: its code object is named -/
theorem fnok_ofC {GI : Hp → Hp → Prop} {P : Program} {w : World} {K : PySem.W.Frag} {mg : Str → Option Value} {base : Heap} {x qual : Str} {st : Stmt} {f : Addr} {fd : FuncData} {N ps : List Str} {k : Nat} {sp : DSpec} {ws : WS}
    (F : Fun K x qual st f fd) (hf : f = He.fAd K (x, none)) (S : FnScope N ps (defScope st)) (len : ∀ ds c E Q, sp ds c E Q → ds.length = ps.length)
    (body : ∀ (A : Around) (outer : List Env) (s : Shared) (H : Hp) (E : XK), Room k (A.deeper (envOfC qual (defScope st) s.heap.objs.size f (.ref (He.codeOf K (x, none))))) →
      CSs GI (cxOf (L2.CX P w) P w K mg base N qual (defScope st) f (.ref (He.codeOf K (x, none))) A outer s H E) (defBody st) ws)
    (ok : ∀ ds c (E : XD) (Q : DK), sp ds c E Q → ws (endD E Q) (startE N.length ds) c) : FnOk P w K mg base (L2.CX P w) (k + 1) f fd ps (lowSp K GI sp) := by
  obtain ⟨oc, od, kV, doc, pm, an, cdv, ct, osl, rfl, lk, hcd⟩ := F.ex
  obtain ⟨c0, rfl⟩ := code_ref hcd
  have hc : He.codeOf K (x, none) = c0 := He.codeOf_eq (by rw [← hf]; exact lk) rfl
  rw [hc] at body
  refine fn_of lk hcd S (fun vs H Q E h => ?_) fun A outer s H vs Q E hr h => ?_
  · obtain ⟨G, ds, c, E', Qd, h1, h2, h3, _⟩ := h
    rw [h1.length, len _ _ _ _ h3]
  · obtain ⟨G, ds, c, E', Qd, h1, h2, h3, h4, h5⟩ := h
    refine ⟨_, body A outer s H E hr (fun cls d _ H => E cls d H) ⟨S.nd, takes_of rfl rfl rfl rfl, PassesOwn.leaving⟩, G, _, c, _, RepE.start h1, h2, ok ds c E' Qd h3, ⟨?_, ?_, ?_, ?_, ?_⟩⟩
    · rintro G' env' c' σ' H' l re r ⟨c2, s2, q⟩
      exact h4 G' c2 H' _ _ l (r.sub' s2) .non q
    · rintro G' c' H' v d l r hd ⟨c2, s2, q⟩
      exact h4 G' c2 H' _ _ l (r.sub' s2) hd q
    · rintro G' env' c' σ' H' l re r q
      exact q
    · rintro G' env' c' σ' H' l re r q
      exact q
    · rintro G' env' c' σ' H' cls od l re r ⟨c2, s2, q⟩
      exact h5 G' c2 H' cls od l (r.sub' s2) q
end DL
/-! the data layer: functions as values -/
namespace DL
open PySem PySem.Spec L2
open PyProof.Rows hiding St

/-! ### a base that knows all that nobody tracks -/
def bas (h : Heap) (H : Hp) (fs : List Addr) : Heap := hidT h (fun b => if b ∈ fs then some (.lst []) else H b)
theorem bas_get {h : Heap} {H : Hp} {fs : List Addr} {b : Addr} {o : Obj} (e : h.get? b = some o) (n : H b = none) (hf : b ∉ fs) : (bas h H fs).get? b = some o := hidT_get e (by rw [if_neg hf]; exact n)
theorem of_bas {h : Heap} {H : Hp} {fs : List Addr} {b : Addr} {o : Obj} (e : (bas h H fs).get? b = some o) : h.get? b = some o ∧ H b = none ∧ b ∉ fs := by
  obtain ⟨e1, e2⟩ := of_hidT e
  by_cases hf : b ∈ fs
  · rw [if_pos hf] at e2; cases e2
  · rw [if_neg hf] at e2; exact ⟨e1, e2, hf⟩
theorem bas_size (h : Heap) (H : Hp) (fs : List Addr) : (bas h H fs).objs.size = h.objs.size := hidT_size _ _
theorem mod_up {K : PySem.W.Frag} {mg : Str → Option Value} {B B' : Heap} (m : Mod K mg B) (k : ∀ b o, B.get? b = some o → B'.get? b = some o) : Mod K mg B' := by
  obtain ⟨mb, hb, hbb⟩ := m.blt
  exact ⟨m.kin.keeps k, m.glob.keeps k, ⟨mb, hb.keeps k, hbb⟩, m.nolimit.keeps k⟩
section
variable {P : Program} {w : World} {K : PySem.W.Frag} {mg : Str → Option Value} {B B' : Heap} {A : Around} {outer : List Env} {s : Shared} {H : Hp}
theorem env0_nofr (e : Env0 P w K mg B A outer s H) {b : Addr} {o : Obj} (h : B.get? b = some o) : b ∉ frs outer := fun hb => by
  have := (e.funs.mem hb).1
  rw [h] at this; cases this
theorem env0_sub (e : Env0 P w K mg B A outer s H) : ∀ b o, B.get? b = some o → (bas s.heap H (frs outer)).get? b = some o := fun b o h =>
  bas_get (e.bs b o h).1 (e.bs b o h).2 (env0_nofr e h)
theorem funs_bas : ∀ {l : List Env} {fs : List Addr}, (∀ b ∈ frs l, b ∈ fs) → s.heap.FunFrames B l → s.heap.FunFrames (bas s.heap H fs) l
  | [], _, _, _ => trivial
  | env :: rest, fs, hs, ⟨h1, ⟨L, o, h2, h3, h4, h5⟩, h6⟩ => by
    have hL : L ∈ frs (env :: rest) := by unfold frs; rw [List.filterMap_cons, h2]; exact List.mem_cons_self
    refine ⟨h1, ⟨L, o, h2, ?_, h4, h5⟩, funs_bas (fun b hb => hs b ?_) h6⟩
    · cases q : (bas s.heap H fs).get? L with
      | none => rfl
      | some o => exact absurd (hs L hL) (of_bas q).2.2
    · unfold frs; rw [List.filterMap_cons, h2]; exact List.mem_cons_of_mem _ hb
theorem env0_bas (e : Env0 P w K mg B A outer s H) : Env0 P w K mg (bas s.heap H (frs outer)) A outer s H :=
  ⟨e.frames, mod_up e.mod (env0_sub e), fun b o h => ⟨(of_bas h).1, (of_bas h).2.1⟩, Nat.le_of_eq (bas_size _ _ _), funs_bas (fun b hb => hb) e.funs, e.frf, e.hok, e.bare⟩
theorem funs_down : ∀ {l : List Env}, (∀ b o, B.get? b = some o → B'.get? b = some o) → s.heap.FunFrames B' l → s.heap.FunFrames B l
  | [], _, _ => trivial
  | env :: rest, k, ⟨h1, ⟨L, o, h2, h3, h4, h5⟩, h6⟩ => by
    refine ⟨h1, ⟨L, o, h2, ?_, h4, h5⟩, funs_down k h6⟩
    cases q : B.get? L with
    | none => rfl
    | some o => rw [k _ _ q] at h3; cases h3
theorem env0_down (m : Mod K mg B) (k : ∀ b o, B.get? b = some o → B'.get? b = some o) (hz : B.objs.size ≤ B'.objs.size) (e : Env0 P w K mg B' A outer s H) : Env0 P w K mg B A outer s H :=
  ⟨e.frames, m, fun b o h => e.bs b o (k b o h), Nat.le_trans hz e.bsz, funs_down k e.funs, e.frf, e.hok, e.bare⟩
end
/-! ### a function value over a base -/
structure GoodF (GI : Hp → Hp → Prop) (P : Program) (w : World) (K : PySem.W.Frag) (mg : Str → Option Value) (B : Heap) (k : Nat) (f : Addr) (sp : DSpec) : Prop where
  mod : Mod K mg B
  fn : PySem.W.FnAt f B
  run : ∀ (A : Around) (outer : List Env) (s : Shared) (H : Hp) (us : List Value) (vs : List V) (Q : VK) (E : XK), Room k A → Env0 P w K mg B A outer s H → Vals vs us → lowSp K GI sp vs H Q E →
    codeAny (model P w) A (.call (.ref f) ⟨us, []⟩) (CR (L2.CX P w) outer P w H s Q E) s
section
variable {GI : Hp → Hp → Prop} {P : Program} {w : World} {K : PySem.W.Frag} {mg : Str → Option Value} {B B' : Heap} {k j : Nat} {f : Addr} {sp sp' : DSpec}
theorem GoodF.up (g : GoodF GI P w K mg B k f sp) (h : ∀ b o, B.get? b = some o → B'.get? b = some o) (hz : B.objs.size ≤ B'.objs.size) : GoodF GI P w K mg B' k f sp := by
  refine ⟨mod_up g.mod h, ?_, fun A outer s H us vs Q E hr e0 r q => g.run A outer s H us vs Q E hr (env0_down g.mod h hz e0) r q⟩
  obtain ⟨oc, od, fd, sl, e⟩ := g.fn
  exact ⟨oc, od, fd, sl, h _ _ e⟩
theorem GoodF.mono (g : GoodF GI P w K mg B j f sp) (h : j ≤ k) : GoodF GI P w K mg B k f sp := ⟨g.mod, g.fn, fun A outer s H us vs Q E hr => g.run A outer s H us vs Q E (hr.mono h)⟩
theorem GoodF.imp (g : GoodF GI P w K mg B k f sp) (h : ∀ ds c E Q, sp' ds c E Q → sp ds c E Q) : GoodF GI P w K mg B k f sp' := by
  refine ⟨g.mod, g.fn, fun A outer s H us vs Q E hr e0 r q => g.run A outer s H us vs Q E hr e0 r ?_⟩
  obtain ⟨F, ds, c, E', Qd, h1, h2, h3, h4⟩ := q
  exact ⟨F, ds, c, E', Qd, h1, h2, h _ _ _ _ h3, h4⟩
end
/-- what the known function values promise -/
abbrev FEnv := Addr → Option DSpec
def GoodP (GI : Hp → Hp → Prop) (P : Program) (w : World) (K : PySem.W.Frag) (mg : Str → Option Value) (B : Heap) (k : Nat) (Φ : FEnv) : Prop := ∀ f sp, Φ f = some sp → GoodF GI P w K mg B k f sp
def callF (Φ : FEnv) (d : D) (ds : List D) (c : CMap) (E : XD) (Q : DK) : Prop := ∃ f sp, d = .ref f ∧ Φ f = some sp ∧ sp ds c E Q
/-- x(..), x a name of the def that holds such a value -/
def wCallV (Φ : FEnv) (i : Nat) (r : WA) : WE := fun E env c Q => ∃ d, getE env i = some d ∧ (∃ f sp, d = .ref f ∧ Φ f = some sp) ∧ r E env c fun ds c1 => callF Φ d ds c1 E Q
section
variable {GI : Hp → Hp → Prop} {X : Cx} {x : Str} {p pos : Pos} {e : Expr} {es : List Expr} {wr : WA} {k : Nat} {Φ : FEnv}
theorem ce_callV (i : Nat) (hΦ : GoodP GI X.prog X.w X.K X.mg X.base k Φ) (hr : Room k X.A) (ha : CA GI X (e :: es) wr) (hN : X.N[i]? = some x := by rfl) (hv : Vis X.env.scope x := by first | exact Or.inl rfl | exact Or.inr (.inl rfl) | exact Or.inr (.inr rfl))
    (hd : (x == ("__debug__" : Str)) = false := by decide) (hcd : (x == ("__classdict__" : Str)) = false := by decide)
    (he : starEach (e :: es) X.env = (false, eval e X.env) :: starEach es X.env := by rfl) (hpl : (backTo pos (starEach es X.env)).any (·.1) = false := by rfl) : CE GI X (.Call (.Name x p) (e :: es) [] pos) (wCallV Φ i wr) := fun W xo => by
  refine ⟨fun pins s σ H Q I h => ?_⟩
  obtain ⟨F, env, c, E, Qd, re, rp, lx, q, kk⟩ := h
  obtain ⟨d, hd1, ⟨f, sp, rfl, hf⟩, q⟩ := q
  have G := hΦ f sp hf
  obtain ⟨v, hs, hv1⟩ := re.val i (.ref f) (getE_at hd1)
  obtain rfl := hv1.ref_inv
  refine wpAny_Call_Name_kw (thn ((pe_var (pos := p) hN hv hd hcd).run pins s σ H (fun v H1 => v = .ref f ∧ H1 = H) I ⟨.ref f, hs, rfl, rfl⟩) fun u s1 ⟨v, H1, I1, r1, q1⟩ => ?_)
  obtain ⟨ev, eH⟩ := q1
  subst ev
  rw [eH] at I1
  obtain rfl : u = Value.ref f := r1
  have fnat : ∀ {σ : L2.St} {H : Hp} {s : Shared} {pins}, Inv X pins σ H s → PySem.W.FnAt f s.heap := fun J => by
    obtain ⟨oc, od, fd, sl, e⟩ := G.fn
    exact ⟨oc, od, fd, sl, (J.bs _ _ e).1⟩
  refine PySem.W.callWith_F (first := []) (fnat I1) (thn ((ha W xo).run pos pins s1 σ H (fun vs H2 => ∃ F2 ds c2, Le F F2 ∧ Rep X.K GI F2 c2 H2 ∧ DVs X.K F2 vs ds ∧ callF Φ (.ref f) ds c2 E Qd) I1 ⟨F, env, c, E, _, re, rp, lx, q, fun F' c' H' vs ds l r' h' q' => ⟨F', ds, c', l, r', h', q'⟩⟩) fun us s2 ⟨vs, H2, I2, r, F2, ds, c2, l2, rp2, hds, f', sp', e1, e2, q2⟩ => ⟨fnat I2, ?_⟩) he hpl
  cases e1
  rw [hf] at e2
  cases e2
  show wpAny _ _ (call (.ref f) us) _ _ _
  refine wpAny_call (codeAny_mono (G.run X.A X.stack s2 H2 us vs Q (fun cls d H' => W cls d σ H') hr I2.env0 r ⟨F2, ds, c2, E, Qd, hds, rp2, q2, kk.le l2, fun F' c' H' cls od l' r' hE => lx F' c' H' cls od (l2.trans' l') r' hE⟩) fun r3 s' hq => ?_)
  cases r3 with
  | error e => exact passAt xo.tk σ pins H2 s2 e s' I2 hq
  | ok fl =>
    cases fl with
    | ret u => exact I2.after hq
    | next => exact False.elim hq
    | brk => exact False.elim hq
    | cont => exact False.elim hq
end
/-! ### a lambda by its body -/
open NdefX in
/-- what the captured cells hold, in a base -/
structure CellsB (cl : List (Str × Addr)) (fr : List Str) (ws : List (Option V)) (B : Heap) : Prop where
  len : ws.length = fr.length
  all : ∀ y c, cl.lookup y = some c → ∃ v, B.IsCell c v
  inj : ∀ x y c, cl.lookup x = some c → cl.lookup y = some c → x = y
  has : ∀ (i : Nat) (y : Str), fr[i]? = some y → ∃ c, cl.lookup y = some c ∧ ∀ v, ws[i]? = some (some v) → ∃ u, L2.RelV v u ∧ B.IsCell c (some u)
theorem CellsB.at {P : Program} {w : World} {K : PySem.W.Frag} {mg : Str → Option Value} {B : Heap} {A : Around} {outer : List Env} {s : Shared} {H : Hp} {cl : List (Str × Addr)} {fr : List Str} {ws : List (Option V)} (C : CellsB cl fr ws B) (e : Env0 P w K mg B A outer s H) : NdefX.CellsAt cl fr ws s.heap H := by
  have up : ∀ {c v}, B.IsCell c v → s.heap.IsCell c v := fun ⟨o, ho, hd⟩ => ⟨o, (e.bs _ _ ho).1, hd⟩
  refine ⟨C.len, fun y c h => ?_, C.inj, fun i y h => ?_⟩
  · obtain ⟨v, o, ho, hd⟩ := C.all y c h
    exact ⟨(e.bs _ _ ho).2, v, up ⟨o, ho, hd⟩⟩
  · obtain ⟨c, h1, h2⟩ := C.has i y h
    exact ⟨c, h1, fun v hv => let ⟨u, r, z⟩ := h2 v hv; ⟨u, r, up z⟩⟩
def startL (n : Nat) (ds : List D) (cs : DEnv) : DEnv := ds.map some ++ (cs ++ List.replicate (n - ds.length - cs.length) none)
/-- captured data: where a value is known, its data -/
def CapD (K : PySem.W.Frag) (F : Hp) (ws : List (Option V)) (cs : DEnv) : Prop := ws.length = cs.length ∧ ∀ (i : Nat) (d : D), cs[i]? = some (some d) → ∃ v, ws[i]? = some (some v) ∧ DV K F v d
theorem CapD.le {K : PySem.W.Frag} {F F' : Hp} {ws : List (Option V)} {cs : DEnv} (h : CapD K F ws cs) (l : Le F F') : CapD K F' ws cs := ⟨h.1, fun i d e => let ⟨v, h1, h2⟩ := h.2 i d e; ⟨v, h1, h2.le l⟩⟩
theorem RepE.lam {K : PySem.W.Frag} {F : Hp} {N : List Str} {vs : List V} {ds : List D} {ws : List (Option V)} {cs : DEnv} (h : DVs K F vs ds) (c : CapD K F ws cs) : RepE K F (startL N.length ds cs) (NdefX.startF N vs ws) := by
  unfold startL NdefX.startF
  have hl := h.length
  refine ⟨by simp [hl, c.1], fun i d e => ?_⟩
  by_cases q : i < ds.length
  · rw [List.getElem?_append_left (by simpa using q), List.getElem?_map] at e
    cases z : ds[i]? with
    | none => rw [z] at e; cases e
    | some x =>
      rw [z] at e
      simp only [Option.map_some, Option.some.injEq] at e
      subst e
      obtain ⟨v, h1, h2⟩ := h.at i z
      exact ⟨v, by rw [List.getElem?_append_left (by simp; omega), List.getElem?_map, h1]; rfl, h2⟩
  · rw [List.getElem?_append_right (by simp; omega)] at e
    by_cases q2 : i - ds.length < cs.length
    · rw [List.length_map, List.getElem?_append_left q2] at e
      obtain ⟨v, h1, h2⟩ := c.2 _ _ e
      refine ⟨v, ?_, h2⟩
      rw [List.getElem?_append_right (by simp; omega), List.length_map, hl, List.getElem?_append_left (by rw [c.1]; exact q2)]
      exact h1
    · rw [List.length_map, List.getElem?_append_right (by omega), List.getElem?_replicate] at e
      split at e <;> cases e
def spLam (n m : Nat) (we : WE) (cs : DEnv) : DSpec := fun ds c E Q => ds.length = m ∧ we E (startL n ds cs) c (wkQ Q)
open NdefX in
theorem good_lam {GI : Hp → Hp → Prop} {P : Program} {w : World} {K : PySem.W.Frag} {mg : Str → Option Value} {B : Heap} {k : Nat} {f c' : Addr} {qual : Str} {params : Arguments} {body : Expr} {scope : Scope} {cl : List (Str × Addr)} {pm ctv : Value} {N ps fr : List Str} {F0 : Hp} {ws : List (Option V)} {cs : DEnv} {we : WE}
    (S : NScope N ps fr scope) (mod : Mod K mg B) (hf : B.get? f = some (PySem.W.kla_obj "<lambda>" qual params body scope cl pm c' ctv)) (hc : F0 c' = some (LamX.CodeO c' qual))
    (hb : ∀ (us : List Value), us.length = ps.length → bindArgs (PySem.W.kla_fn "<lambda>" qual params body scope cl pm (.ref c') ctv) ⟨us, []⟩ = pure (ps.zip us)) (C : CellsB cl fr ws B) (cd : CapD K F0 ws cs) (hG : ∀ F H, GI F H → Le F0 F)
    (hbody : ∀ (A : Around) (outer : List Env) (s : Shared) (H : Hp) (E : XK), Room k (A.deeper (envF ⟨"<lambda>", qual, params, [], scope, cl, c'⟩ f s.heap.objs.size)) → CE GI (ncx (L2.CX P w) P w K mg B N ⟨"<lambda>", qual, params, [], scope, cl, c'⟩ f A outer s H E) body we) :
    GoodF GI P w K mg B (k + 1) f (spLam N.length ps.length we cs) := by
  refine ⟨mod, ⟨_, _, _, _, hf⟩, fun A outer s H us vs Q E hr e0 r hsp => ?_⟩
  obtain ⟨F, ds, c, E', Qd, h1, h2, ⟨hl, h3⟩, h4, h5⟩ := hsp
  have hvl : vs.length = ps.length := by rw [h1.length]; exact hl
  have lim : s.heap.NoLimit := e0.mod.nolimit.keeps fun b o e => (e0.bs b o e).1
  have hcr : s.heap.CodeRec (.ref c') qual := codeO_at e0.hok (h2.sub _ _ (hG _ _ h2.gi _ _ hc))
  refine PySem.W.kla_callFunE hr.depth (e0.bs _ _ hf).1 rfl S.co S.gen rfl hcr ?_
  rw [hb us (by rw [← r.length]; exact hvl)]
  refine wpAny_pure (wpAny_newFunctionEnv S.nocell (fun ⟨n, _⟩ hy => S.par n (List.of_mem_zip hy).1) (fun h₁ hns hsb => ⟨lim.fresh _ hsb, ?_⟩) S.kind)
  show codeAny _ _ (.expr body (envF ⟨"<lambda>", qual, params, [], scope, cl, c'⟩ f s.heap.objs.size)) _ _
  have kp : ∀ b o, s.heap.get? b = some o → h₁.get? b = some o := fun b o e => hsb.extBut b o (Nat.ne_of_lt (Heap.lt_size e)) (Heap.get?_push_of_some _ e)
  have I : L2.Inv (ncx (L2.CX P w) P w K mg B N ⟨"<lambda>", qual, params, [], scope, cl, c'⟩ f A outer s H E) [] (startF N vs ws) H { s with heap := h₁, toks := s.toks + (ps.zip us).length } := inv_startN (F := ⟨"<lambda>", qual, params, [], scope, cl, c'⟩) S hr.hd e0 hvl r (C.at e0) hns kp
  have hp := hbody A outer s H E (hr.deeper _) (fun cls d _ H => E cls d H) ⟨S.nd, takes_of rfl rfl rfl rfl, PassesOwn.leaving⟩
  refine PySem.W.kla_codeExpr (wpAny_mono (hp.run [] _ _ H Q I ⟨F, _, c, E', _, RepE.lam h1 (cd.le (hG _ _ h2.gi)), h2, fun F' c' H' cls od l r q => h5 F' c' H' cls od l r q, h3, fun F' c' H' v d l r hd ⟨c2, s2, q⟩ => h4 F' c2 H' v d l (r.sub' s2) hd q⟩) (fun v s' hq => ?_) fun e s' hq => hq)
  obtain ⟨w', H', J', rv, q⟩ := hq
  exact ⟨w', H', J'.os, J'.bare, J'.base, J'.hok, rv, q⟩
/-! ### tables of code objects, and what was known when a lambda was made -/
structure LamG (GI : Hp → Hp → Prop) (T : List (Addr × Str)) : Prop where
  gg : Glob GI
  tabs : ∀ F H, GI F H → LamX.Tabs T H
  notbl : ∀ F H, GI F H → ∀ b ps, F b ≠ some (.tbl ps)
  step : ∀ F H H1, GI F H → LamX.ExtN H H1 → LamX.Tabs T H1 → GI F H1
  code : ∀ F H c q, GI F H → Le F H → H c = some (LamX.CodeO c q) → GI (upd F c (LamX.CodeO c q)) H
theorem Le.updC {F H : Hp} {c : Addr} {o : HO} (l : Le F H) (h : H c = some o) : Le F (upd F c o) := fun a u e => by
  by_cases z : a = c
  · subst z; have := l _ _ e; rw [h] at this; cases this; exact upd_same
  · rw [upd_ne z]; exact e
theorem lamG_add {GI : Hp → Hp → Prop} {T : List (Addr × Str)} (g : LamG GI T) (F0 : Hp) : LamG (fun F H => GI F H ∧ Le F0 F) T where
  gg := ⟨fun F H p o h n => ⟨g.gg.new F H p o h.1 n, h.2⟩, fun F H p o h f n nt => ⟨g.gg.newF F H p o h.1 f n nt, h.2.trans' (Le.new f)⟩, fun F H p o h m => ⟨g.gg.wr F H p o h.1 m, h.2⟩, fun F H p o h f e nt => ⟨g.gg.frz F H p o h.1 f e nt, h.2.trans' (Le.new f)⟩⟩
  tabs := fun F H h => g.tabs F H h.1
  notbl := fun F H h => g.notbl F H h.1
  step := fun F H H1 h e t => ⟨g.step F H H1 h.1 e t, h.2⟩
  code := fun F H c q h l e => ⟨g.code F H c q h.1 l e, h.2.trans' (l.updC e)⟩
theorem GoodF.add {GI : Hp → Hp → Prop} {P : Program} {w : World} {K : PySem.W.Frag} {mg : Str → Option Value} {B : Heap} {k : Nat} {f : Addr} {sp : DSpec} {F0 : Hp} (gg : Glob GI) (g : GoodF GI P w K mg B k f sp) : GoodF (fun F H => GI F H ∧ Le F0 F) P w K mg B k f sp := by
  refine ⟨g.mod, g.fn, fun A outer s H us vs Q E hr e0 r q => g.run A outer s H us vs Q E hr e0 r ?_⟩
  obtain ⟨F, ds, c, E', Qd, h1, h2, h3, h4, h5⟩ := q
  have up : ∀ {F' c' H'}, Le F F' → Rep K GI F' c' H' → Rep K (fun F H => GI F H ∧ Le F0 F) F' c' H' := fun l r => ⟨r.sub, r.cel, ⟨r.gi, h2.gi.2.trans' l⟩, h2.gg⟩
  exact ⟨F, ds, c, E', Qd, h1, ⟨h2.sub, h2.cel, h2.gi.1, gg⟩, h3, fun F' c' H' v d l r => h4 F' c' H' v d l (up l r), fun F' c' H' cls od l r => h5 F' c' H' cls od l (up l r)⟩
theorem rep_add {GI : Hp → Hp → Prop} {K : PySem.W.Frag} {T : List (Addr × Str)} {F F0 H : Hp} {c : CMap} (LG : LamG GI T) (r : Rep K GI F c H) (l : Le F0 F) : Rep K (fun F H => GI F H ∧ Le F0 F) F c H := ⟨r.sub, r.cel, ⟨r.gi, l⟩, (lamG_add LG F0).gg⟩
theorem rep_sub {GI : Hp → Hp → Prop} {K : PySem.W.Frag} {T : List (Addr × Str)} {F F0 H : Hp} {c : CMap} (LG : LamG GI T) (r : Rep K (fun F H => GI F H ∧ Le F0 F) F c H) : Rep K GI F c H := ⟨r.sub, r.cel, r.gi.1, LG.gg⟩
theorem cell_kind {K : PySem.W.Frag} {F : Hp} {o : HO} {k : Cell} (h : CellR K F o k) : (∀ ps, o ≠ .tbl ps) ∧ ∀ φ, o ≠ .ext φ := by
  cases k with
  | lst ds => obtain ⟨vs, rfl, _⟩ := h; exact ⟨fun _ z => (by cases z), fun _ z => (by cases z)⟩
  | dK kvs => obtain ⟨vs, rfl, _⟩ := h; exact ⟨fun _ z => (by cases z), fun _ z => (by cases z)⟩
  | dT kvs => obtain ⟨vs, rfl, _⟩ := h; exact ⟨fun _ z => (by cases z), fun _ z => (by cases z)⟩
  | set S n => obtain rfl := h; exact ⟨fun _ z => (by cases z), fun _ z => (by cases z)⟩
  | ins C fs => obtain ⟨dx, vs, rfl, _⟩ := h; exact ⟨fun _ z => (by cases z), fun _ z => (by cases z)⟩
  | xd fs => obtain ⟨vs, rfl, _⟩ := h; exact ⟨fun _ z => (by cases z), fun _ z => (by cases z)⟩
  | raw u => obtain ⟨rfl, a, b, rfl⟩ := h; exact ⟨fun _ z => (by cases z), fun _ z => (by cases z)⟩
  | fK w us kvs => obtain ⟨rfl, _⟩ := h; exact ⟨fun _ z => (by cases z), fun _ z => (by cases z)⟩
  | fT w us kvs => obtain ⟨rfl, _⟩ := h; exact ⟨fun _ z => (by cases z), fun _ z => (by cases z)⟩
/-- behind the making of a lambda: its code object is known for ever -/
theorem rep_lam {GI : Hp → Hp → Prop} {K : PySem.W.Frag} {T : List (Addr × Str)} {F H H1 : Hp} {c : CMap} {c' : Addr} {q : Str} (LG : LamG GI T) (r : Rep K GI F c H) (e : LamX.ExtN H H1) (t : LamX.Tabs T H1) (hc : H1 c' = some (LamX.CodeO c' q)) :
    Rep K GI (upd F c' (LamX.CodeO c' q)) c H1 ∧ Le F (upd F c' (LamX.CodeO c' q)) := by
  have l1 : Le F H1 := fun b o h => e b o (r.sub _ _ h) (fun ps z => LG.notbl _ _ r.gi b ps (by rw [h, z]))
  refine ⟨⟨fun a u z => ?_, fun a k z => ?_, LG.code _ _ _ _ (LG.step _ _ _ r.gi e t) l1 hc, LG.gg⟩, l1.updC hc⟩
  · by_cases y : a = c'
    · subst y; rw [upd_same] at z; rw [← z]; exact hc
    · rw [upd_ne y] at z; exact l1 _ _ z
  · obtain ⟨f0, o, h0, hr⟩ := r.cel a k z
    obtain ⟨k1, k2⟩ := cell_kind hr
    have h1 := e a o h0 k1
    have y : a ≠ c' := fun y => by subst y; rw [hc] at h1; exact k2 _ (Option.some.inj h1).symm
    exact ⟨by rw [upd_ne y]; exact f0, o, h1, hr.le (l1.updC hc)⟩
/-! ### x(.., lambda) -/
section
variable {X : Cx} {pins : List (Addr × Obj)} {σ : L2.St} {H : Hp} {s : Shared}
theorem cell_nofr (I : L2.Inv X pins σ H s) {y : Str} {c : Addr} (hfn : X.fn y = true) (e : X.env.cells.lookup y = some c) : c ∉ frs X.stack := by
  have ho : c ∉ frs X.outer := fun hb => by
    obtain ⟨_, o, h, _⟩ := I.ok.funs.mem hb
    exact absurd (Heap.lt_size h) (Nat.not_lt.mpr (I.ok.cab y c hfn e))
  rcases I.ok.stk with h | ⟨h, hf⟩
  · rw [h]; exact ho
  · rw [h]
    intro hb
    unfold frs at hb
    rw [List.filterMap_cons, hf] at hb
    rcases List.mem_cons.mp hb with z | z
    · obtain ⟨v, o, h1, h2⟩ := I.cell y c e
      obtain ⟨m, ⟨o2, es, ep, h3, h4, _⟩, _⟩ := I.loc
      rw [← z, h1] at h3
      cases h3
      rw [h2] at h4
      cases h4
    · exact ho z
/-- the lambda that was made -/
def LamAt (X : Cx) (params : Arguments) (body : Expr) (scope : Scope) (f c' : Addr) (s : Shared) : Prop := ∃ pm ctv, s.heap.get? f = some (PySem.W.kla_obj "<lambda>" (X.env.qual ++ "<lambda>") params body scope (cloFrom X.env.cells scope.names []) pm c' ctv)
abbrev TAL := L2.St → Hp → (List V → Addr → Addr → Hp → Prop) → Prop
structure PAL (X : Cx) (params : Arguments) (body : Expr) (scope : Scope) (es : List Expr) (t : TAL) : Prop where
  run : ∀ (pos : Pos) (pins : List (Addr × Obj)) (s : Shared) (σ : L2.St) (H : Hp) (Q : List V → Addr → Addr → Hp → Prop), L2.Inv X pins σ H s → t σ H Q → wpAny (model X.prog X.w) X.A (spliced (backTo pos (starEach es X.env)))
    (fun us s' => ∃ us0 vs f c' H', us = us0 ++ [.ref f] ∧ L2.Inv X pins σ H' s' ∧ Vals vs us0 ∧ LamAt X params body scope f c' s' ∧ H' f = none ∧ f ∉ frs X.stack ∧ Q vs f c' H') X.xe s
end
section
variable {X : Cx} {params : Arguments} {body : Expr} {scope : Scope} {lpos : Pos} {T : List (Addr × Str)} {c P : Addr}
theorem pal_last (TB : LamX.TabB X.base X.mg c P) (hcode : X.env.code = .ref c) (hm : (P, X.env.qual ++ "<lambda>") ∈ T) (hu : ∀ p ∈ T, p.1 = P → p.2 = X.env.qual ++ "<lambda>") (hdef : defaultsOf params X.env = ([], []))
    (hfree : ∀ y ∈ scope.names, y.2 = .free → X.env.scope.names.lookup y.1 = some .cell ∨ X.env.scope.names.lookup y.1 = some .free) :
    PAL X params body scope [.Lambda params body scope lpos] (fun σ H Q => LamX.Tabs T H ∧ ∀ f c' H1, LamX.ExtN H H1 → LamX.Tabs T H1 → H1 c' = some (LamX.CodeO c' (X.env.qual ++ "<lambda>")) → Q [] f c' H1) := by
  refine ⟨fun pos pins s σ H Q I h => ?_⟩
  obtain ⟨hT, h⟩ := h
  show wpAny _ _ (spliced ((false, eval (.Lambda params body scope lpos) X.env) :: backTo pos (starEach [] X.env))) _ _ s
  refine Calls.spliced_cons (LamX.lam_make2 I TB hcode hm hu hT hdef (fun y hy e => (hfree y hy e).elim (fun z => I.ok.has _ (.inl z)) fun z => I.ok.has _ (.inr z)) fun f c' pm' ctv H1 s' I1 eN T1 hf hfn hfr hco => ?_)
  exact Calls.spliced_nil ⟨[], [], f, c', H1, rfl, I1, .nil, ⟨pm', ctv, hf⟩, hfn, hfr, h f c' H1 eN T1 hco⟩
theorem pal_cons {e : Expr} {es : List Expr} {te : TE} {t : TAL} (ha : PE X e te) (hr : PAL X params body scope es t) (hs : starEach (e :: es) X.env = (false, eval e X.env) :: starEach es X.env) :
    PAL X params body scope (e :: es) (fun σ H Q => te σ H fun x H1 => t σ H1 fun vs f c' H2 => Q (x :: vs) f c' H2) := by
  refine ⟨fun pos pins s σ H Q I h => ?_⟩
  rw [hs]
  show wpAny _ _ (spliced ((false, eval e X.env) :: backTo pos (starEach es X.env))) _ _ s
  refine Calls.spliced_cons (thn (ha.run pins s σ H _ I h) fun u s1 ⟨x, H1, I1, r1, q1⟩ => ?_)
  exact thn (hr.run pos pins s1 σ H1 _ I1 q1) fun us s2 ⟨us0, vs, f, c', H', e1, I2, r2, g1, g2, g3, q2⟩ => ⟨u :: us0, x :: vs, f, c', H', by rw [e1]; rfl, I2, .cons r1 r2, g1, g2, g3, q2⟩
end
def lowAL (K : PySem.W.Frag) (GI : Hp → Hp → Prop) (q : Str) (W : WX) (wa : WA) : TAL := fun σ H Q => ∃ F env c E Qd, RepE K F env σ ∧ Rep K GI F c H ∧ LX K GI W F σ E ∧ wa E env c Qd ∧
  ∀ F' c1 H' vs ds f c', Le F F' → Rep K GI F' c1 H' → F' c' = some (LamX.CodeO c' q) → DVs K F' vs ds → Qd ds c1 → Q vs f c' H'
def CAL (GI : Hp → Hp → Prop) (X : Cx) (params : Arguments) (body : Expr) (scope : Scope) (es : List Expr) (wa : WA) : Prop := ∀ W, XOk X W → PAL X params body scope es (lowAL X.K GI (X.env.qual ++ "<lambda>") W wa)
theorem pal_imp {X : Cx} {params : Arguments} {body : Expr} {scope : Scope} {es : List Expr} {t t' : TAL} (h : PAL X params body scope es t) (k : ∀ σ H Q, t' σ H Q → t σ H Q) : PAL X params body scope es t' := ⟨fun pos pins s σ H Q I q => h.run pos pins s σ H Q I (k _ _ _ q)⟩
section
variable {GI : Hp → Hp → Prop} {X : Cx} {params : Arguments} {body : Expr} {scope : Scope} {lpos : Pos} {T : List (Addr × Str)} {c P : Addr} {e : Expr} {es : List Expr} {wa : WE} {wr : WA}
theorem cal_last (LG : LamG GI T) (TB : LamX.TabB X.base X.mg c P) (hcode : X.env.code = .ref c) (hm : (P, X.env.qual ++ "<lambda>") ∈ T) (hu : ∀ p ∈ T, p.1 = P → p.2 = X.env.qual ++ "<lambda>") (hdef : defaultsOf params X.env = ([], []))
    (hfree : ∀ y ∈ scope.names, y.2 = .free → X.env.scope.names.lookup y.1 = some .cell ∨ X.env.scope.names.lookup y.1 = some .free) : CAL GI X params body scope [.Lambda params body scope lpos] wNil := fun W x => by
  refine pal_imp (pal_last TB hcode hm hu hdef hfree) ?_
  rintro σ H Q ⟨F, env, c, E, Qd, re, r, lx, q, k⟩
  refine ⟨LG.tabs _ _ r.gi, fun f c' H1 eN T1 hco => ?_⟩
  obtain ⟨r1, l1⟩ := rep_lam LG r eN T1 hco
  exact k _ c H1 [] [] f c' l1 r1 upd_same .nil q
theorem cal_cons (ha : CE GI X e wa) (hr : CAL GI X params body scope es wr) (hs : starEach (e :: es) X.env = (false, eval e X.env) :: starEach es X.env := by rfl) : CAL GI X params body scope (e :: es) (wCons wa wr) := fun W x => by
  refine pal_imp (pal_cons (ha W x) (hr W x) hs) ?_
  rintro σ H Q ⟨F, env, c, E, Qd, re, r, lx, q, k⟩
  refine ⟨F, env, c, E, _, re, r, lx, q, ?_⟩
  intro F1 c1 H1 v1 d1 l1 r1 h1 q1
  refine ⟨F1, env, c1, E, _, re.le l1, r1, lx.le l1, q1, ?_⟩
  intro F2 c2 H2 vs ds f c' l2 r2 hc h2 q2
  exact k F2 c2 H2 _ _ f c' (l1.trans' l2) r2 hc (.cons (h1.le l2) h2) q2
end
def addF (Φ : FEnv) (f : Addr) (sp : DSpec) : FEnv := fun a => if a = f then some sp else Φ a
def wCallL (S : FEnv → DSpec) (Φ : FEnv) (lam : DEnv → DSpec) (r : WA) : WE := fun E env c Q => r E env c fun ds c1 => ∀ f, S (addF Φ f (lam env)) (ds ++ [.ref f]) c1 E Q
section
variable {GI : Hp → Hp → Prop} {X : Cx} {x : Str} {p pos : Pos} {params : Arguments} {body : Expr} {scope : Scope} {T : List (Addr × Str)} {e : Expr} {es : List Expr} {wr : WA} {S : FEnv → DSpec} {Φ : FEnv} {k kl kb kf n : Nat} {N ps fr : List Str} {js : List Nat} {we : WE}
theorem ce_lamarg (LG : LamG GI T) (hx : ∀ (B : Heap) (F0 : Hp) (Φ' : FEnv), Mod X.K X.mg B → (∀ b o, X.base.get? b = some o → B.get? b = some o) → GoodP (fun F H => GI F H ∧ Le F0 F) X.prog X.w X.K X.mg B kl Φ' → HasG (fun F H => GI F H ∧ Le F0 F) X.prog X.w X.K X.mg B k x n (S Φ'))
    (hΦ : GoodP GI X.prog X.w X.K X.mg X.base kf Φ) (hkf : kf ≤ kl) (hkb : kb + 1 ≤ kl) (hr : Room k X.A) (ha : CAL GI X params body scope (e :: es) wr) (Sc : NdefX.NScope N ps fr scope) (hjs : js.map (fun j => X.N[j]?) = fr.map some)
    (hfree : ∀ y ∈ scope.names, y.2 = .free → X.env.scope.names.lookup y.1 = some .cell ∨ X.env.scope.names.lookup y.1 = some .free) (hfr : ∀ y ∈ fr, (y, NameKind.free) ∈ scope.names) (hfn : ∀ y ∈ scope.names, y.2 = .free → X.fn y.1 = true)
    (hbind : ∀ (q : Str) (cl : List (Str × Addr)) (pm cv ctv : Value) (us : List Value), us.length = ps.length → bindArgs (PySem.W.kla_fn "<lambda>" q params body scope cl pm cv ctv) ⟨us, []⟩ = pure (ps.zip us))
    (hbody : ∀ (B : Heap) (F0 : Hp) (f c' : Addr) (cl : List (Str × Addr)) (A : Around) (outer : List Env) (s : Shared) (H : Hp) (E : XK), GoodP (fun F H => GI F H ∧ Le F0 F) X.prog X.w X.K X.mg B kf Φ →
      Room kb (A.deeper (NdefX.envF ⟨"<lambda>", X.env.qual ++ "<lambda>", params, [], scope, cl, c'⟩ f s.heap.objs.size)) → CE (fun F H => GI F H ∧ Le F0 F) (NdefX.ncx (L2.CX X.prog X.w) X.prog X.w X.K X.mg B N ⟨"<lambda>", X.env.qual ++ "<lambda>", params, [], scope, cl, c'⟩ f A outer s H E) body we)
    (hg : Gl X x := by rfl) (hdb : (x == ("__debug__" : Str)) = false := by decide)
    (he : starEach (e :: es) X.env = (false, eval e X.env) :: starEach es X.env := by rfl) (hpl : (backTo pos (starEach es X.env)).any (·.1) = false := by rfl) :
    CE GI X (.Call (.Name x p) (e :: es) [] pos) (wCallL S Φ (fun env => spLam N.length ps.length we (js.map (getE env))) wr) := fun W xo => by
  refine ⟨fun pins s σ H Q I h => ?_⟩
  obtain ⟨F, env, c, E, Qd, re, rp, lx, q, kk⟩ := h
  obtain ⟨fx, hmx, ⟨_, _, _, hkx, _, _⟩⟩ := hx X.base (fun _ => none) (fun _ => none) I.ok.mod (fun _ _ z => z) (fun _ _ z => nomatch z)
  refine wpAny_Call_Name_kw (ld_glob I hg hmx ?_ hdb)
  refine PySem.W.callWith_K (h₀ := X.base) I.ok.mod.kin hkx (thn ((ha W xo).run pos pins s σ H (fun vs f c' H2 => ∃ F2 ds c2, Le F F2 ∧ Rep X.K GI F2 c2 H2 ∧ F2 c' = some (LamX.CodeO c' (X.env.qual ++ "<lambda>")) ∧ DVs X.K F2 vs ds ∧
      ∀ f, S (addF Φ f (spLam N.length ps.length we (js.map (getE env)))) (ds ++ [.ref f]) c2 E Qd) I ⟨F, env, c, E, _, re, rp, lx, q, fun F' c1 H' vs ds f c' l r hc h' q' => ⟨F', ds, c1, l, r, hc, h', q'⟩⟩)
    fun us s2 ⟨us0, vs, f, c', H2, eus, I2, r, ⟨pm, ctv, hL⟩, hfn0, hffr, F2, ds, c2, l2, rp2, hc, hds, q2⟩ => ⟨I2.kIn, ?_⟩) he hpl
  have e0 := env0_bas I2.env0
  have sub := env0_sub I2.env0
  have szB : X.base.objs.size ≤ (bas s2.heap H2 (frs X.stack)).objs.size := by rw [bas_size]; exact I2.env0.bsz
  have hfree2 : ∀ y ∈ scope.names, y.2 = .free → ∃ c, X.env.cells.lookup y.1 = some c := fun y hy e => (hfree y hy e).elim (fun z => I2.ok.has _ (.inl z)) fun z => I2.ok.has _ (.inr z)
  have gΦ : GoodP (fun F H => GI F H ∧ Le F2 F) X.prog X.w X.K X.mg (bas s2.heap H2 (frs X.stack)) kf Φ := fun a sp ha => ((hΦ a sp ha).add LG.gg).up sub szB
  have cells := NdefX.cells_of I2 (NdefX.Caps.made I2.ok hfree hfr hjs)
  have cb : CellsB (cloFrom X.env.cells scope.names []) fr (js.map (NdefX.slotAt σ)) (bas s2.heap H2 (frs X.stack)) := by
    have up : ∀ {y c v}, (cloFrom X.env.cells scope.names []).lookup y = some c → s2.heap.IsCell c v → (bas s2.heap H2 (frs X.stack)).IsCell c v := fun {y c v} h1 ⟨o, ho, hd⟩ => by
      have h2 := NdefX.clo_cm hfree2 h1
      have hy : (y, NameKind.free) ∈ scope.names := by
        rcases cloFrom_mem (PySem.mem_of_lookup h1) with hm | ⟨h3, _⟩
        · cases hm
        · exact h3
      exact ⟨o, bas_get ho (cells.all y c h1).1 (cell_nofr I2 (hfn _ hy rfl) h2), hd⟩
    refine ⟨cells.len, fun y c h => ?_, cells.inj, fun i y h => ?_⟩
    · obtain ⟨_, v, z⟩ := cells.all y c h
      exact ⟨v, up h z⟩
    · obtain ⟨c, h1, h2⟩ := cells.has i y h
      exact ⟨c, h1, fun v hv => let ⟨u, r, z⟩ := h2 v hv; ⟨u, r, up h1 z⟩⟩
  have cd : CapD X.K F2 (js.map (NdefX.slotAt σ)) (js.map (getE env)) := by
    refine ⟨by rw [List.length_map, List.length_map], fun i d h => ?_⟩
    rw [List.getElem?_map] at h
    cases z : js[i]? with
    | none => rw [z] at h; cases h
    | some j =>
      rw [z] at h
      have h : getE env j = some d := Option.some.inj h
      obtain ⟨v, h1, h2⟩ := re.val j d (getE_at h)
      exact ⟨v, by rw [List.getElem?_map, z]; exact congrArg some (NdefX.slotAt_of h1), h2.le l2⟩
  have gf : GoodF (fun F H => GI F H ∧ Le F2 F) X.prog X.w X.K X.mg (bas s2.heap H2 (frs X.stack)) (kb + 1) f (spLam N.length ps.length we (js.map (getE env))) :=
    good_lam Sc e0.mod (bas_get hL hfn0 hffr) hc (hbind _ _ _ _ _) cb cd (fun F H h => h.2) fun A outer s H E hr => hbody _ _ _ _ _ A outer s H E gΦ hr
  obtain ⟨fx', hmx', ⟨fd, psx, hpn, hkp, hb, FN⟩⟩ := hx (bas s2.heap H2 (frs X.stack)) F2 (addF Φ f (spLam N.length ps.length we (js.map (getE env)))) e0.mod sub fun a sp hs => by
    unfold addF at hs
    by_cases z : a = f
    · rw [if_pos z] at hs; cases hs; rw [z]; exact gf.mono hkb
    · rw [if_neg z] at hs; exact (gΦ a sp hs).mono hkf
  rw [hmx] at hmx'
  cases hmx'
  have rv : Vals (vs ++ [V.ref f]) us := by rw [eus]; exact r.append (.cons rfl .nil)
  have hsp : lowSp X.K (fun F H => GI F H ∧ Le F2 F) (S (addF Φ f (spLam N.length ps.length we (js.map (getE env))))) (vs ++ [V.ref f]) H2 Q (fun cls d H' => W cls d σ H') :=
    ⟨F2, ds ++ [.ref f], c2, E, Qd, hds.app (.one (.ref f)), rep_add LG rp2 Le.rfl', q2 f, fun F' c' H' v d l r hd hq => kk F' c' H' v d (l2.trans' l) (rep_sub LG r) hd hq, fun F' c' H' cls od l r hE => lx F' c' H' cls od (l2.trans' l) (rep_sub LG r) hE⟩
  have hl : us.length = psx.length := by rw [← rv.length]; exact FN.len _ _ _ _ hsp
  have b := hb s2 us I2.kIn (by rw [List.append_nil]; exact hl)
  rw [List.append_nil] at b
  refine wpAny_call (codeAny_mono (FN.run X.A X.stack s2 H2 ⟨us, []⟩ us _ Q (fun cls d H' => W cls d σ H') hr e0 b rv hsp) fun r3 s' hq => ?_)
  cases r3 with
  | error e => exact passAt xo.tk σ pins H2 s2 e s' I2 hq
  | ok fl =>
    cases fl with
    | ret u => exact I2.after hq
    | next => exact False.elim hq
    | brk => exact False.elim hq
    | cont => exact False.elim hq
end
end DL
/-! the data layer: more statements, methods, slices with a step, f-strings -/
namespace DL
open PySem PySem.Spec L2
open PyProof.Rows hiding St

/-- a statement that is never come to -/
def wNever : WS := fun _ _ _ => False
theorem cs_never {GI : Hp → Hp → Prop} {X : Cx} {st : Stmt} : CS GI X st wNever := fun W x => ⟨fun pins s σ H Dn I q => by
  obtain ⟨_, _, _, _, _, _, z, _⟩ := q
  exact z.elim⟩
/-! ### a < b < c -/
def wChain (R R' : RD2) (a b t : WE) : WE := fun E env c Q => a E env c fun d c1 => b E env c1 fun e c2 => R c2 d e fun z c3 => asB z c3 fun k c4 => if k = true then t E env c4 fun f c5 => R' c5 e f Q else Q (.bl false) c4
section
variable {GI : Hp → Hp → Prop} {X : Cx} {pos : Pos} {a b t : Expr} {wa wb wt : WE} {r r' : R2} {R R' : RD2} {op op' : CmpOp}
theorem low_chain {W : WX} (s : Snd2 X.K GI r R) (s' : Snd2 X.K GI r' R') : ∀ σ H Q, lowE X.K GI W (wChain R R' wa wb wt) σ H Q → tChain r r' (lowE X.K GI W wa) (lowE X.K GI W wb) (lowE X.K GI W wt) σ H Q := by
  rintro σ H Q ⟨F, env, c, E, Qd, re, rp, lx, q, k⟩
  refine ⟨F, env, c, E, _, re, rp, lx, q, ?_⟩
  intro F1 c1 H1 v1 d1 l1 r1 h1 q1
  refine ⟨F1, env, c1, E, _, re.le l1, r1, lx.le l1, q1, ?_⟩
  intro F2 c2 H2 v2 d2 l2 r2 h2 q2
  refine s F2 H2 c2 v1 v2 d1 d2 _ _ r2 (h1.le l2) h2 q2 ?_
  intro F3 c3 H3 v3 d3 l3 r3 h3 q3
  obtain ⟨x, rfl, q4⟩ := asB_bl q3
  refine ⟨x, h3.bl_inv, ?_⟩
  have l := (l1.trans' l2).trans' l3
  cases x with
  | true =>
    rw [if_pos rfl] at q4 ⊢
    refine ⟨F3, env, c3, E, _, re.le l, r3, lx.le l, q4, ?_⟩
    intro F4 c4 H4 v4 d4 l4 r4 h4 q5
    exact s' F4 H4 c4 v2 v4 d2 d4 Qd Q r4 (h2.le (l3.trans' l4)) h4 q5 (k.le (l.trans' l4))
  | false =>
    rw [if_neg (by decide)] at q4 ⊢
    exact k F3 c3 H3 _ _ l r3 (.bl false) q4
theorem ce_chain (ho : OpR X (compareOp op) r) (s : Snd2 X.K GI r R) (ho' : OpR X (compareOp op') r') (s' : Snd2 X.K GI r' R') (ha : CE GI X a wa) (hb : CE GI X b wb) (ht : CE GI X t wt) (hm : lastMarks [op, op'] [b, t] = false := by with_unfolding_all rfl) :
    CE GI X (.Compare a [op, op'] [b, t] pos) (wChain R R' wa wb wt) := fun W x => pe_imp (pe_chain ho ho' (ha W x) (hb W x) (ht W x) hm) (low_chain s s')
theorem ct_chain (ho : OpR X (compareOp op) r) (s : Snd2 X.K GI r R) (ho' : OpR X (compareOp op') r') (s' : Snd2 X.K GI r' R') (ha : CE GI X a wa) (hb : CE GI X b wb) (ht : CE GI X t wt) (hm : lastMarks [op, op'] [b, t] = false := by with_unfolding_all rfl) :
    CT GI X (.Compare a [op, op'] [b, t] pos) (wTst (wChain R R' wa wb wt)) := fun W x => pt_imp (pt_chain ho ho' (ha W x) (hb W x) (ht W x) hm) (low_tst (low_chain s s'))
end
/-! ### x op= e -/
def wAug (i : Nat) (R : RD2) (a : WE) : WS := fun DD env c => ∃ d, getE env i = some d ∧ a (exE DD env) env c fun e c1 => R c1 d e fun z c2 => DD.nx (env.set i (some z)) c2
section
variable {GI : Hp → Hp → Prop} {X : Cx} {pos : Pos} {e : Expr} {wa : WE}
theorem cs_aug (i : Nat) {op : Operator} {ti : TIp} {R : RD2} {x : Str} {pos' : Pos} (ho : PIp X op ti) (s : Snd2 X.K GI ti R) (he : CE GI X e wa) (hi : X.N[i]? = some x := by rfl) (hx : Loc X.env.scope x := by first | exact Or.inl rfl | exact Or.inr rfl)
    (hf : X.fn x = true ∨ X.env.scope.names.lookup x = some .local := by first | exact .inl rfl | exact .inr rfl) : CS GI X (.AugAssign (.Name x pos') op e pos) (wAug i R wa) := fun W xo => by
  refine ps_imp (ps_aug xo.nd hi hx (he W xo) ho hf) ?_
  rintro Dn σ H ⟨F, env, c, DD, re, r, ⟨d, hd, q⟩, l⟩
  obtain ⟨v, hv, h1⟩ := re.val i d (getE_at hd)
  refine ⟨v, hv, F, env, c, _, _, re, r, l.lx re, q, ?_⟩
  intro F1 c1 H1 v1 d1 l1 r1 h2 q1
  refine s F1 H1 c1 v v1 d d1 _ _ r1 (h1.le l1) h2 q1 ?_
  intro F2 c2 H2 v2 d2 l2 r2 h3 q2
  exact l.nx F2 _ c2 _ H2 (l1.trans' l2) (((re.le l1).le l2).set i h3) r2 q2
def addI : RD2 := fun c d e Q => match d, e with
  | .int i, .int j => Q (.int (i + j)) c
  | _, _ => False
def addS : RD2 := fun c d e Q => match d, e with
  | .str i, .str j => i.length + j.length ≤ sizeLine ∧ Q (.str (i ++ j)) c
  | _, _ => False
theorem cs_augI (i : Nat) {x : Str} {pos' : Pos} (he : CE GI X e wa) (hi : X.N[i]? = some x := by rfl) (hx : Loc X.env.scope x := by first | exact Or.inl rfl | exact Or.inr rfl)
    (hf : X.fn x = true ∨ X.env.scope.names.lookup x = some .local := by first | exact .inl rfl | exact .inr rfl) : CS GI X (.AugAssign (.Name x pos') .Add e pos) (wAug i addI wa) := cs_aug i ip_add (fun F H c v1 v2 d1 d2 Qd Q r h1 h2 q k => by
  unfold addI at q
  split at q
  · exact ⟨_, _, h1.int_inv, h2.int_inv, k F c H _ _ Le.rfl' r (.int _) q⟩
  · exact q.elim) he hi hx hf
theorem ip_mul : PIp X .Mult (fun x y H Q => ∃ i j, x = .int i ∧ y = .int j ∧ CMul i j ∧ Q (.int (i * j)) H) := by
  intro pins s σ H x y v u Q I r1 r2 h
  obtain ⟨i, j, rfl, rfl, hm, q⟩ := h
  obtain ⟨t, rfl⟩ := r1
  obtain ⟨t', rfl⟩ := r2
  exact PySem.AutoIntOps.imul_0 ⟨.int _, H, I.tok _, ⟨_, rfl⟩, q⟩ hm.ok
def mulI : RD2 := fun c d e Q => match d, e with
  | .int i, .int j => CMul i j ∧ Q (.int (i * j)) c
  | _, _ => False
theorem cs_augM (i : Nat) {x : Str} {pos' : Pos} (he : CE GI X e wa) (hi : X.N[i]? = some x := by rfl) (hx : Loc X.env.scope x := by first | exact Or.inl rfl | exact Or.inr rfl)
    (hf : X.fn x = true ∨ X.env.scope.names.lookup x = some .local := by first | exact .inl rfl | exact .inr rfl) : CS GI X (.AugAssign (.Name x pos') .Mult e pos) (wAug i mulI wa) := cs_aug i ip_mul (fun F H c v1 v2 d1 d2 Qd Q r h1 h2 q k => by
  unfold mulI at q
  split at q
  · exact ⟨_, _, h1.int_inv, h2.int_inv, q.1, k F c H _ _ Le.rfl' r (.int _) q.2⟩
  · exact q.elim) he hi hx hf
end
/-! ### a, b = e, f; three -/
def wPar2 (i j : Nat) (r : WA) : WS := fun DD env c => r (exE DD env) env c fun ds c1 => ∃ u v, ds = [u, v] ∧ DD.nx ((env.set i (some u)).set j (some v)) c1
def wPar3 (i j l : Nat) (r : WA) : WS := fun DD env c => r (exE DD env) env c fun ds c1 => ∃ u v w, ds = [u, v, w] ∧ DD.nx (((env.set i (some u)).set j (some v)).set l (some w)) c1
theorem DVs.inv3 {K : PySem.W.Frag} {F : Hp} {vs : List V} {d e f : D} (h : DVs K F vs [d, e, f]) : ∃ v u w, vs = [v, u, w] ∧ DV K F v d ∧ DV K F u e ∧ DV K F w f := by
  cases h with
  | cons h k =>
    obtain ⟨u, w, rfl, h2, h3⟩ := k.inv2
    exact ⟨_, u, w, rfl, h, h2, h3⟩
section
variable {GI : Hp → Hp → Prop} {X : Cx} {pos px py pz pt pt2 : Pos} {a b t : Expr} {wr : WA} {x y z : Str} {kt k2 : Nat}
theorem cs_par2 (i j : Nat) (hc : X.calm = true) (hr : CA GI X [a, b] wr) (hi : X.N[i]? = some x := by rfl) (hj : X.N[j]? = some y := by rfl) (hij : i ≠ j := by decide) (hx : X.env.scope.names.lookup x = some .local := by rfl) (hy : X.env.scope.names.lookup y = some .local := by rfl)
    (hw : swappedStores [.Tuple [.Name x px, .Name y py] kt pt] (.Tuple [a, b] k2 pt2) X.env = pure (some [x, y]) := by rfl) (hs : swapsWithSole [.Tuple [.Name x px, .Name y py] kt pt] (.Tuple [a, b] k2 pt2) pos.line X.env = pure false := by rfl) :
    CS GI X (.Assign [.Tuple [.Name x px, .Name y py] kt pt] (.Tuple [a, b] k2 pt2) pos) (wPar2 i j wr) := fun W xo => by
  refine ps_imp (ps_par hc xo.nd hi hj hij hx hy (hr W xo) hw hs) ?_
  rintro Dn σ H ⟨F, env, c, DD, re, r, q, l⟩
  refine ⟨F, env, c, _, _, re, r, l.lx re, q, ?_⟩
  rintro F1 c1 H1 vs ds l1 r1 h1 ⟨u, v, rfl, q1⟩
  obtain ⟨u', v', rfl, g1, g2⟩ := h1.inv2
  exact ⟨u', v', rfl, l.nx F1 _ c1 _ H1 l1 (((re.le l1).set i g1).set j g2) r1 q1⟩
theorem cs_par3 (i j l : Nat) (hc : X.calm = true) (hr : CA GI X [a, b, t] wr) (hi : X.N[i]? = some x := by rfl) (hj : X.N[j]? = some y := by rfl) (hl : X.N[l]? = some z := by rfl) (hij : i ≠ j := by decide) (hil : i ≠ l := by decide) (hjl : j ≠ l := by decide)
    (hx : X.env.scope.names.lookup x = some .local := by rfl) (hy : X.env.scope.names.lookup y = some .local := by rfl) (hz : X.env.scope.names.lookup z = some .local := by rfl)
    (hw : swappedStores [.Tuple [.Name x px, .Name y py, .Name z pz] kt pt] (.Tuple [a, b, t] k2 pt2) X.env = pure (some [x, y, z]) := by rfl) (hs : swapsWithSole [.Tuple [.Name x px, .Name y py, .Name z pz] kt pt] (.Tuple [a, b, t] k2 pt2) pos.line X.env = pure false := by rfl) :
    CS GI X (.Assign [.Tuple [.Name x px, .Name y py, .Name z pz] kt pt] (.Tuple [a, b, t] k2 pt2) pos) (wPar3 i j l wr) := fun W xo => by
  refine ps_imp (ps_par3 hc xo.nd hi hj hl hij hil hjl hx hy hz (hr W xo) hw hs) ?_
  rintro Dn σ H ⟨F, env, c, DD, re, r, q, l'⟩
  refine ⟨F, env, c, _, _, re, r, l'.lx re, q, ?_⟩
  rintro F1 c1 H1 vs ds l1 r1 h1 ⟨u, v, w, rfl, q1⟩
  obtain ⟨u', v', w', rfl, g1, g2, g3⟩ := h1.inv3
  exact ⟨u', v', w', rfl, l'.nx F1 _ c1 _ H1 l1 ((((re.le l1).set i g1).set j g2).set l g3) r1 q1⟩
end
/-! ### f() -/
def wCall0 (sp : DSpec) : WE := fun E env c Q => sp [] c E Q
theorem ce_call0 {GI : Hp → Hp → Prop} {X : Cx} {x : Str} {p pos : Pos} {sp : DSpec} {k : Nat} (h : HasF GI X k x 0 sp) (hr : Room k X.A) (hg : Gl X x := by rfl) (hdb : (x == ("__debug__" : Str)) = false := by decide) : CE GI X (.Call (.Name x p) [] [] pos) (wCall0 sp) := fun W xo => by
  obtain ⟨f, hm, ⟨fd, ps, hl, kp, b, F⟩⟩ := h
  refine ⟨fun pins s σ H Q I h => ?_⟩
  obtain ⟨F0, env, c, E, Qd, re, rp, lx, q, kk⟩ := h
  refine wpAny_Call_Name_kw (ld_glob I hg hm ?_ hdb)
  have hsp : lowSp X.K GI sp [] H Q (fun cls d H' => W cls d σ H') := ⟨F0, [], c, E, Qd, .nil, rp, q, kk, fun F' c' H' cls od l r hE => lx F' c' H' cls od l r hE⟩
  refine PySem.W.callWith_K0 I.kIn kp ?_
  exact run_fnS (us := []) F hr b (E := fun σ cls d H => W cls d σ H) (passAt xo.tk σ) I .nil hsp
/-! ### slices with a step -/
def stepIx (lo hi st : Option Int) (n : Nat) : List Nat := PySem.sliceRange (PySem.sliceBounds lo hi st n).1 (PySem.sliceBounds lo hi st n).2.1 (PySem.sliceBounds lo hi st n).2.2
def pickG {α : Type} (xs : List α) (lo hi st : Option Int) : List α := (stepIx lo hi st xs.length).filterMap (xs[·]?)
theorem vals_pick {vs : List V} {us : List Value} (h : Vals vs us) : ∀ l : List Nat, Vals (l.filterMap (vs[·]?)) (l.filterMap (us[·]?))
  | [] => .nil
  | i :: r => by
    have hl := h.length
    have ih := vals_pick h r
    rw [List.filterMap_cons, List.filterMap_cons]
    cases e : vs[i]? with
    | none =>
      have e2 : us[i]? = none := by rw [List.getElem?_eq_none_iff] at e ⊢; omega
      rw [e2]; exact ih
    | some v =>
      obtain ⟨u, e2, r2⟩ := h.get e
      rw [e2]; exact .cons r2 ih
theorem pick_D {K : PySem.W.Frag} {F : Hp} {vs : List V} {ds : List D} (h : DVs K F vs ds) : ∀ l : List Nat, DVs K F (l.filterMap (vs[·]?)) (l.filterMap (ds[·]?))
  | [] => .nil
  | i :: r => by
    have hl := h.length
    have ih := pick_D h r
    rw [List.filterMap_cons, List.filterMap_cons]
    cases e : ds[i]? with
    | none =>
      have e2 : vs[i]? = none := by rw [List.getElem?_eq_none_iff] at e ⊢; omega
      rw [e2]; exact ih
    | some d =>
      obtain ⟨v, e2, r2⟩ := h.at i e
      rw [e2]; exact .cons r2 ih
def rSl3 (K : PySem.W.Frag) (x : V) (lo hi st : Option Int) (H : Hp) (Q : VK) : Prop :=
  (∃ a xs, x = .ref a ∧ SqL K H a xs ∧ st ≠ some 0 ∧ (pickG xs lo hi st).length ≤ sizeLine ∧ ∀ p, H p = none → Q (.ref p) (upd H p (.lst (pickG xs lo hi st)))) ∨
  ∃ z k, x = .str z ∧ st = some k ∧ k ≠ 0 ∧ k ≠ 1 ∧ (Builtin.Str.strSliceIndices lo hi k z.length).length ≤ sizeLine ∧ Q (.str ⟨((Builtin.Str.strSliceIndices lo hi k z.length).filterMap (z.cps[·]?)).toArray⟩) H
theorem pe_sl3 {X : Cx} {e st : Expr} {lo hi : Option Expr} {te : TE} {tl th ts : TO} {p2 pos : Pos} (he : PE X e te) (hl : PO X lo tl) (hu : PO X hi th) (hs : PO X (some st) ts) :
    PE X (.Subscript e (.Slice lo hi (some st) p2) pos) (fun σ H Q => te σ H fun x H1 => tl σ H1 fun l H2 => th σ H2 fun u H3 => ts σ H3 fun k H4 => rSl3 X.K x l u k H4 Q) := by
  refine ⟨fun pins s σ H Q I h => ?_⟩
  refine Subscript_ (thn (he.run pins s σ H _ I h) fun v s1 ⟨x, H1, I1, r1, q1⟩ => ?_)
  refine wpAny_Slice (thn (hl.run pins s1 σ H1 _ I1 q1) fun vl s2 ⟨l, H2, I2, pl, q2⟩ => thn (hu.run pins s2 σ H2 _ I2 q2) fun vu s3 ⟨u, H3, I3, pu, q3⟩ => thn (hs.run pins s3 σ H3 _ I3 q3) fun vs s4 ⟨k, H4, I4, ps, q4⟩ => ?_)
  have I5 : Inv X pins σ H4 { s4 with heap := s4.heap.push { cls := .type "slice", data := .fields #[vl, vu, vs] } } := I4.kept (t' := s4.toks) fun b ob q => Heap.get?_push_of_some _ q
  show wpAny (model X.prog X.w) X.A (subscriptTail e (.Slice lo hi (some st) p2) v (.ref s4.heap.objs.size)) (EP X pins σ Q) X.xe _
  rcases q4 with ⟨a, xs, rfl, hx, h0, hz', q⟩ | ⟨z, j, rfl, rfl, h0, h1, hz, q⟩
  · cases r1
    obtain ⟨its, r, ht, hz⟩ := I5.list hx
    have hlen := r.length
    refine tail_any (ops := [.ref a, .ref s4.heap.objs.size]) ht.isList.typeIs (PySem.slot_list_getitem.lookup) ?_ (by with_unfolding_all rfl)
    refine wpAny_getItem_list_slice ht.isList (Heap.IsSliceOf.new _ vl vu vs) pl pu ps h0 ?_ (by rw [List.size_toArray]; omega)
    have e : slicePick its.toArray l u k = (pickG its l u k).toArray := by
      unfold slicePick pickG stepIx
      simp only [List.size_toArray, List.getElem?_toArray]
    rw [e]
    have hv : Vals (pickG xs l u k) (pickG its l u k) := by
      unfold pickG
      rw [hlen]
      exact vals_pick r _
    exact ⟨.ref _, _, I5.laid (t' := s4.toks) (o := .lst (pickG xs l u k)) (fun b ob q => Heap.get?_push_of_some _ q) (Nat.le_refl _) ⟨hz', _, 0, hv, Heap.get?_push_size _ rfl⟩, rfl, q _ (I5.hok.fresh (Nat.le_refl _))⟩
  · obtain ⟨t, rfl⟩ := r1
    obtain ⟨l', rfl, rfl⟩ := IsPart.raw pl
    obtain ⟨u', rfl, rfl⟩ := IsPart.raw pu
    obtain ⟨k', rfl, ek⟩ := IsPart.raw ps
    refine tail_any (ops := [.str z t, .ref s4.heap.objs.size]) (typeIs_str _ _ _) (PySem.F.slot_str_getitem.lookup) ?_ (by with_unfolding_all rfl)
    refine wpAny_getItem_str_slice (l := l') (u := u') (st := k') ⟨_, Heap.get?_push_size _ rfl, rfl, rfl⟩ (by rw [ek]; simpa using h0) ?_
    unfold sliceMade slicePicked
    rw [ek]
    show Made.post (if (j == 1 && _) = true then _ else _) _ _
    rw [if_neg (by simp [h1])]
    show Made.post (Made.str ⟨((Builtin.Str.strSliceIndices (l'.map (·.1)) (u'.map (·.1)) j z.length).filterMap (z.cps[·]?)).toArray⟩) _ _
    refine ⟨?_, .str _, H4, I5.tok _, ⟨_, rfl⟩, q⟩
    show (List.toArray _).size ≤ sizeLine
    rw [List.size_toArray]
    exact Nat.le_trans (List.length_filterMap_le _ _) hz
def sl3R (m : Bool) (c : CMap) (d : D) (lo hi st : Option Int) (Q : DK) : Prop := match res c d with
  | .lst ds => st ≠ some 0 ∧ (pickG ds lo hi st).length ≤ sizeLine ∧ newL m c (pickG ds lo hi st) Q
  | .str z => ∃ k, st = some k ∧ k ≠ 0 ∧ k ≠ 1 ∧ (Builtin.Str.strSliceIndices lo hi k z.length).length ≤ sizeLine ∧ Q (.str ⟨((Builtin.Str.strSliceIndices lo hi k z.length).filterMap (z.cps[·]?)).toArray⟩) c
  | _ => False
def wSl3 (m : Bool) (a : WE) (lo hi st : WO) : WE := fun E env c Q => a E env c fun d c1 => lo E env c1 fun l c2 => hi E env c2 fun h c3 => st E env c3 fun k c4 => sl3R m c4 d l h k Q
theorem pick_snd {K : PySem.W.Frag} {F : Hp} {vs : List V} {ds : List D} (h : DVs K F vs ds) (l u k : Option Int) : DVs K F (pickG vs l u k) (pickG ds l u k) := by
  unfold pickG
  rw [h.length]
  exact pick_D h _
theorem ce_slice3 {GI : Hp → Hp → Prop} {X : Cx} {a st : Expr} {wa : WE} {lo hi : Option Expr} {wl wh ws : WO} {p2 pos : Pos} (m : Bool) (ha : CE GI X a wa) (hl : CO GI X lo wl) (hh : CO GI X hi wh) (hs : CO GI X (some st) ws) : CE GI X (.Subscript a (.Slice lo hi (some st) p2) pos) (wSl3 m wa wl wh ws) := fun W x => by
  refine pe_imp (pe_sl3 (ha W x) (hl W x) (hh W x) (hs W x)) ?_
  rintro σ H Q ⟨F, env, c, E, Qd, re, rp, lx, q, k⟩
  refine ⟨F, env, c, E, _, re, rp, lx, q, ?_⟩
  intro F1 c1 H1 v1 d1 l1 r1 h1 q1
  refine ⟨F1, env, c1, E, _, re.le l1, r1, lx.le l1, q1, ?_⟩
  intro F2 c2 H2 o2 l2 r2 q2
  refine ⟨F2, env, c2, E, _, (re.le l1).le l2, r2, (lx.le l1).le l2, q2, ?_⟩
  intro F3 c3 H3 o3 l3 r3 q3
  refine ⟨F3, env, c3, E, _, ((re.le l1).le l2).le l3, r3, ((lx.le l1).le l2).le l3, q3, ?_⟩
  intro F4 c4 H4 o4 l4 r4 q4
  have hv := ((h1.le l2).le l3).le l4
  have kk := (((k.le l1).le l2).le l3).le l4
  unfold sl3R at q4
  split at q4
  · rename_i e1
    obtain ⟨p, xs, rfl, g1, k1⟩ := res_lst r4 hv e1
    have pk := pick_snd k1 o2 o3 o4
    exact .inl ⟨p, xs, rfl, SqL.of g1, q4.1, by rw [pk.length]; exact q4.2.1, newL_snd r4 pk q4.2.2 kk⟩
  · rename_i e1
    obtain rfl := res_oth e1 (by intro _ z; cases z)
    obtain ⟨j, rfl, h2, h3, h4, q5⟩ := q4
    exact .inr ⟨_, j, hv.str_inv, rfl, h2, h3, h4, kk F4 c4 H4 _ _ Le.rfl' r4 (.str _) q5⟩
  · exact q4.elim
end DL
/-! the data layer: more methods, f-strings, dicts of pairs -/
namespace DL
open PySem PySem.Spec L2
open PyProof.Rows hiding St

/-! ### o.m() -/
def wMt0 (T : String) (R : RDm) (o : WE) : WE := fun E env c Q => o E env c fun d c1 => tyDl T c1 d ∧ R c1 d [] Q
section
variable {GI : Hp → Hp → Prop} {X : Cx} {o e f : Expr} {wo wk wx we : WE} {wr : WA} {name : Str} {apos cpos pos : Pos} {T id : String} {r : V → List V → Hp → VK → Prop} {R : RDm}
theorem ce_bm0 (pa : PlainAttrs T) (slot : Slot T name id) (hty : typeOf (.builtin id) = pure (.type "method_descriptor")) (hm : MtR X id r) (s : SndM X.K GI r R) (ho : CE GI X o wo)
    (hbase : attributeBase o name X.env (eval o X.env) = eval o X.env := by rfl) (hline : (apos.endLine == cpos.line) = true := by rfl) : CE GI X (.Call (.Attribute o name apos) [] [] cpos) (wMt0 T R wo) := fun W x => by
  refine pe_imp (pe_bm0 pa slot hty hm (ho W x) hbase hline) ?_
  rintro σ H Q ⟨F, env, c, E, Qd, re, rp, lx, q, k⟩
  refine ⟨F, env, c, E, _, re, rp, lx, q, ?_⟩
  rintro F1 c1 H1 v d l1 r1 h1 ⟨q0, q1⟩
  exact ⟨tyDl_snd r1 h1 q0, s F1 H1 c1 v d [] [] Qd Q r1 h1 .nil q1 (k.le l1)⟩
end
/-! ### lists -/
def extR : RDm := fun c d ds Q => match d, ds with
  | .ref p, [e] => ∃ es xs, c p = some (.lst es) ∧ res c e = .lst xs ∧ es.length + xs.length ≤ sizeLine ∧ Q .non (updc c p (.lst (es ++ xs)))
  | _, _ => False
def popR : RDm := fun c d ds Q => match d, ds with
  | .ref p, [] => ∃ es y, c p = some (.lst es) ∧ es[es.length - 1]? = some y ∧ Q y (updc c p (.lst es.dropLast))
  | .ref p, [.int i] => ∃ es k y, c p = some (.lst es) ∧ -(2 ^ 63) ≤ i ∧ i < 2 ^ 63 ∧ PySem.seqIndex? i es.length = some k ∧ es[k]? = some y ∧ Q y (updc c p (.lst (es.eraseIdx k)))
  | _, _ => False
def insR : RDm := fun c d ds Q => match d, ds with
  | .ref p, [.int i, y] => ∃ es, c p = some (.lst es) ∧ es.length < sizeLine ∧ 0 ≤ i ∧ i < 2 ^ 63 ∧ Q .non (updc c p (.lst (es.take i.toNat ++ [y] ++ es.drop i.toNat)))
  | _, _ => False
def revR : RDm := fun c d ds Q => match d, ds with
  | .ref p, [] => ∃ es, c p = some (.lst es) ∧ Q .non (updc c p (.lst es.reverse))
  | _, _ => False
def clrR : RDm := fun c d ds Q => match d, ds with
  | .ref p, [] => ∃ es, c p = some (.lst es) ∧ Q .non (updc c p (.lst []))
  | _, _ => False
def lixR : RDm := fun c d ds Q => match ds with
  | [y] => match res c d with
    | .lst es => flatD y = true ∧ es.all flatD = true ∧ ∃ j, es[j]? = some y ∧ (∀ m z, m < j → es[m]? = some z → z ≠ y) ∧ Q (.int (j : Nat)) c
    | _ => False
  | _ => False
/-! ### texts -/
def splR : RDm := fun c d ds Q => match d, ds with
  | .str a, [.str b] => b.length ≠ 0 ∧ a.length + 2 ≤ sizeLine ∧ Q (.lst ((Txt.split a b).map D.str)) c
  | _, _ => False
def parR : RDm := fun c d ds Q => match d, ds with
  | .str a, [.str b] => b.length ≠ 0 ∧ a.length ≤ sizeLine ∧ Q (.tup [.str (Txt.partition a b).1, .str (Txt.partition a b).2.1, .str (Txt.partition a b).2.2]) c
  | _, _ => False
section
variable {GI : Hp → Hp → Prop} {X : Cx} {o e f : Expr} {wo wk wx we : WE} {wr : WA} {apos cpos pos : Pos}
theorem lst_wr {K : PySem.W.Frag} {F H : Hp} {c : CMap} {p : Addr} {es fs : List D} {xs ys : List V} {Qd : DK} {Q : VK} {y : V} {d : D} (r : Rep K GI F c H) (e : c p = some (.lst es)) (h : H p = some (.lst xs)) (q : DVs K F ys fs) (hy : DV K F y d) (z : Qd d (updc c p (.lst fs))) (k : LQ K GI F Qd Q) : Q y (upd H p (.lst ys)) :=
  k F _ _ _ _ Le.rfl' (r.wr (k := .lst fs) e (by rw [h]; trivial) ⟨_, rfl, q⟩) hy z
theorem ce_extend (ho : CE GI X o wo) (ha : CA GI X [e] wr)
    (hbase : attributeBase o "extend" X.env (eval o X.env) = eval o X.env := by rfl)
    (hfew : ((backTo cpos (starEach [e] X.env)).all (fun x => !x.1) && (backToKw cpos (keywordEach [] X.env)).all (fun x => x.1.isSome) && decide (([e] : List Expr).length + ([] : List Keyword).length + (if ([] : List Keyword).isEmpty then 0 else 1) < 30)) = true := by rfl)
    (hline : (apos.endLine == cpos.line) = true := by rfl) (hs : starEach [e] X.env = (false, eval e X.env) :: starEach [] X.env := by rfl) (hplain : (backTo cpos (starEach [] X.env)).any (·.1) = false := by rfl) : CE GI X (.Call (.Attribute o "extend" apos) [e] [] cpos) (wMt "list" extR wo wr) :=
  ce_bm PySem.F.plainAttrs_list PySem.F.slot_list_extend PySem.F.type_list_extend mt_extend (fun F H c v d vs ds Qd Q r h1 h2 q k => by
    unfold extR at q
    split at q
    · obtain ⟨u, rfl, h3⟩ := h2.inv1
      obtain ⟨es, xs, e1, e2, q1, q2⟩ := q
      obtain ⟨us, g1, k1⟩ := r.lst e1
      obtain ⟨b, ws, rfl, g2, k2⟩ := res_lst r h3 e2
      exact ⟨_, b, us, ws, h1.ref_inv, rfl, g1, g2, by rw [k1.length, k2.length]; exact q1, lst_wr r e1 g1 (k1.app k2) .non q2 k⟩
    · exact q.elim) ho ha hbase hfew hline hs hplain
theorem pop_snd : SndM X.K GI (fun x vs H Q => rPop x vs H Q ∨ rPopAt x vs H Q) popR := fun F H c v d vs ds Qd Q r h1 h2 q k => by
  unfold popR at q
  split at q
  · cases h2
    obtain ⟨es, y, e1, e2, q2⟩ := q
    obtain ⟨us, g1, k1⟩ := r.lst e1
    obtain ⟨w, g2, g3⟩ := k1.at _ e2
    exact .inl ⟨_, us, w, h1.ref_inv, rfl, g1, by rw [k1.length]; exact g2, lst_wr r e1 g1 k1.dropLast g3 q2 k⟩
  · obtain ⟨u, rfl, h3⟩ := h2.inv1
    obtain ⟨es, j, y, e1, b1, b2, e2, e3, q2⟩ := q
    obtain ⟨us, g1, k1⟩ := r.lst e1
    obtain ⟨w, g2, g3⟩ := k1.at _ e3
    exact .inr ⟨_, us, _, j, w, h1.ref_inv, by rw [h3.int_inv], g1, b1, b2, by rw [k1.length]; exact e2, g2, lst_wr r e1 g1 (k1.erase j) g3 q2 k⟩
  · exact q.elim
theorem mt_popA : MtR X "list.pop" (fun x vs H Q => rPop x vs H Q ∨ rPopAt x vs H Q) := fun pins s σ H x vs v us Q I rx rv h => by
  rcases h with h | h
  · exact mt_pop pins s σ H x vs v us Q I rx rv h
  · exact mt_popAt pins s σ H x vs v us Q I rx rv h
theorem ce_pop0 (ho : CE GI X o wo) (hbase : attributeBase o "pop" X.env (eval o X.env) = eval o X.env := by rfl) (hline : (apos.endLine == cpos.line) = true := by rfl) : CE GI X (.Call (.Attribute o "pop" apos) [] [] cpos) (wMt0 "list" popR wo) :=
  ce_bm0 PySem.F.plainAttrs_list PySem.F.slot_list_pop PySem.F.type_list_pop mt_popA pop_snd ho hbase hline
theorem ce_pop1 (ho : CE GI X o wo) (ha : CA GI X [e] wr)
    (hbase : attributeBase o "pop" X.env (eval o X.env) = eval o X.env := by rfl)
    (hfew : ((backTo cpos (starEach [e] X.env)).all (fun x => !x.1) && (backToKw cpos (keywordEach [] X.env)).all (fun x => x.1.isSome) && decide (([e] : List Expr).length + ([] : List Keyword).length + (if ([] : List Keyword).isEmpty then 0 else 1) < 30)) = true := by rfl)
    (hline : (apos.endLine == cpos.line) = true := by rfl) (hs : starEach [e] X.env = (false, eval e X.env) :: starEach [] X.env := by rfl) (hplain : (backTo cpos (starEach [] X.env)).any (·.1) = false := by rfl) : CE GI X (.Call (.Attribute o "pop" apos) [e] [] cpos) (wMt "list" popR wo wr) :=
  ce_bm PySem.F.plainAttrs_list PySem.F.slot_list_pop PySem.F.type_list_pop mt_popA pop_snd ho ha hbase hfew hline hs hplain
theorem ce_insert (ho : CE GI X o wo) (ha : CA GI X [e, f] wr)
    (hbase : attributeBase o "insert" X.env (eval o X.env) = eval o X.env := by rfl)
    (hfew : ((backTo cpos (starEach [e, f] X.env)).all (fun x => !x.1) && (backToKw cpos (keywordEach [] X.env)).all (fun x => x.1.isSome) && decide (([e, f] : List Expr).length + ([] : List Keyword).length + (if ([] : List Keyword).isEmpty then 0 else 1) < 30)) = true := by rfl)
    (hline : (apos.endLine == cpos.line) = true := by rfl) (hs : starEach [e, f] X.env = (false, eval e X.env) :: starEach [f] X.env := by rfl) (hplain : (backTo cpos (starEach [f] X.env)).any (·.1) = false := by rfl) : CE GI X (.Call (.Attribute o "insert" apos) [e, f] [] cpos) (wMt "list" insR wo wr) :=
  ce_bm PySem.F.plainAttrs_list PySem.F.slot_list_insert PySem.F.type_list_insert mt_insert (fun F H c v d vs ds Qd Q r h1 h2 q k => by
    unfold insR at q
    split at q
    · obtain ⟨u, w, rfl, h3, h4⟩ := h2.inv2
      obtain ⟨es, e1, b0, b1, b2, q2⟩ := q
      obtain ⟨us, g1, k1⟩ := r.lst e1
      exact ⟨_, us, _, w, h1.ref_inv, by rw [h3.int_inv], g1, by rw [k1.length]; exact b0, b1, b2, lst_wr r e1 g1 (((k1.take _).app (.one h4)).app (k1.drop _)) .non q2 k⟩
    · exact q.elim) ho ha hbase hfew hline hs hplain
theorem ce_reverse (ho : CE GI X o wo) (hbase : attributeBase o "reverse" X.env (eval o X.env) = eval o X.env := by rfl) (hline : (apos.endLine == cpos.line) = true := by rfl) : CE GI X (.Call (.Attribute o "reverse" apos) [] [] cpos) (wMt0 "list" revR wo) :=
  ce_bm0 PySem.F.plainAttrs_list PySem.F.slot_list_reverse PySem.F.type_list_reverse mt_reverse (fun F H c v d vs ds Qd Q r h1 h2 q k => by
    unfold revR at q
    split at q
    · cases h2
      obtain ⟨es, e1, q2⟩ := q
      obtain ⟨us, g1, k1⟩ := r.lst e1
      exact ⟨_, us, h1.ref_inv, rfl, g1, lst_wr r e1 g1 k1.rev .non q2 k⟩
    · exact q.elim) ho hbase hline
theorem ce_clear (ho : CE GI X o wo) (hbase : attributeBase o "clear" X.env (eval o X.env) = eval o X.env := by rfl) (hline : (apos.endLine == cpos.line) = true := by rfl) : CE GI X (.Call (.Attribute o "clear" apos) [] [] cpos) (wMt0 "list" clrR wo) :=
  ce_bm0 PySem.F.plainAttrs_list PySem.F.slot_list_clear PySem.F.type_list_clear mt_clear (fun F H c v d vs ds Qd Q r h1 h2 q k => by
    unfold clrR at q
    split at q
    · cases h2
      obtain ⟨es, e1, q2⟩ := q
      obtain ⟨us, g1, k1⟩ := r.lst e1
      exact ⟨_, us, h1.ref_inv, rfl, g1, lst_wr r e1 g1 .nil .non q2 k⟩
    · exact q.elim) ho hbase hline
theorem ce_lindex (ho : CE GI X o wo) (ha : CA GI X [e] wr)
    (hbase : attributeBase o "index" X.env (eval o X.env) = eval o X.env := by rfl)
    (hfew : ((backTo cpos (starEach [e] X.env)).all (fun x => !x.1) && (backToKw cpos (keywordEach [] X.env)).all (fun x => x.1.isSome) && decide (([e] : List Expr).length + ([] : List Keyword).length + (if ([] : List Keyword).isEmpty then 0 else 1) < 30)) = true := by rfl)
    (hline : (apos.endLine == cpos.line) = true := by rfl) (hs : starEach [e] X.env = (false, eval e X.env) :: starEach [] X.env := by rfl) (hplain : (backTo cpos (starEach [] X.env)).any (·.1) = false := by rfl) : CE GI X (.Call (.Attribute o "index" apos) [e] [] cpos) (wMt "list" lixR wo wr) :=
  ce_bm PySem.F.plainAttrs_list PySem.F.slot_list_index PySem.F.type_list_index mt_index (fun F H c v d vs ds Qd Q r h1 h2 q k => by
    unfold lixR at q
    split at q
    · obtain ⟨u, rfl, h3⟩ := h2.inv1
      split at q
      · rename_i e1
        obtain ⟨p, xs, rfl, g1, k1⟩ := res_lst r h1 e1
        obtain ⟨b1, b2, j, e2, b3, q2⟩ := q
        obtain ⟨w, g2, g3⟩ := k1.at _ e2
        refine ⟨p, xs, u, j, w, rfl, rfl, SqL.of g1, flat_V h3 b1, flat_all k1 b2, g2, ?_, ?_, k F c H _ _ Le.rfl' r (.int _) q2⟩
        · rw [flat_eq g3 h3 b1 b1]; simp
        · intro m z hm hz
          obtain ⟨d2, g4, g5⟩ := k1.at' m hz
          rw [flat_eq g5 h3 (List.all_eq_true.mp b2 _ (List.mem_of_getElem? g4)) b1]
          exact decide_eq_false (b3 m d2 hm g4)
      · exact q.elim
    · exact q.elim) ho ha hbase hfew hline hs hplain
theorem ce_split (ho : CE GI X o wo) (ha : CA GI X [e] wr)
    (hbase : attributeBase o "split" X.env (eval o X.env) = eval o X.env := by rfl)
    (hfew : ((backTo cpos (starEach [e] X.env)).all (fun x => !x.1) && (backToKw cpos (keywordEach [] X.env)).all (fun x => x.1.isSome) && decide (([e] : List Expr).length + ([] : List Keyword).length + (if ([] : List Keyword).isEmpty then 0 else 1) < 30)) = true := by rfl)
    (hline : (apos.endLine == cpos.line) = true := by rfl) (hs : starEach [e] X.env = (false, eval e X.env) :: starEach [] X.env := by rfl) (hplain : (backTo cpos (starEach [] X.env)).any (·.1) = false := by rfl) : CE GI X (.Call (.Attribute o "split" apos) [e] [] cpos) (wMt "str" splR wo wr) :=
  ce_bm PySem.F.plainAttrs_str PySem.F.slot_str_split PySem.F.type_str_split mt_split (fun F H c v d vs ds Qd Q r h1 h2 q k => by
    unfold splR at q
    split at q
    · obtain ⟨u, rfl, h3⟩ := h2.inv1
      refine ⟨_, _, h1.str_inv, by rw [h3.str_inv], by simpa using q.1, q.2.1, fun p hp => ?_⟩
      exact newL_snd (m := false) r (DVs.strs (ns := Txt.split _ _)) (by unfold newL; rw [if_neg (by decide)]; exact q.2.2) k p hp
    · exact q.elim) ho ha hbase hfew hline hs hplain
theorem ce_partition (ho : CE GI X o wo) (ha : CA GI X [e] wr)
    (hbase : attributeBase o "partition" X.env (eval o X.env) = eval o X.env := by rfl)
    (hfew : ((backTo cpos (starEach [e] X.env)).all (fun x => !x.1) && (backToKw cpos (keywordEach [] X.env)).all (fun x => x.1.isSome) && decide (([e] : List Expr).length + ([] : List Keyword).length + (if ([] : List Keyword).isEmpty then 0 else 1) < 30)) = true := by rfl)
    (hline : (apos.endLine == cpos.line) = true := by rfl) (hs : starEach [e] X.env = (false, eval e X.env) :: starEach [] X.env := by rfl) (hplain : (backTo cpos (starEach [] X.env)).any (·.1) = false := by rfl) : CE GI X (.Call (.Attribute o "partition" apos) [e] [] cpos) (wMt "str" parR wo wr) :=
  ce_bm PySem.F.plainAttrs_str PySem.F.slot_str_partition PySem.F.type_str_partition mt_partition (fun F H c v d vs ds Qd Q r h1 h2 q k => by
    unfold parR at q
    split at q
    · obtain ⟨u, rfl, h3⟩ := h2.inv1
      refine ⟨_, _, h1.str_inv, by rw [h3.str_inv], by simpa using q.1, q.2.1, fun p hp => ?_⟩
      exact newT_snd r (.cons (.str _) (.cons (.str _) (.one (.str _)))) q.2.2 k p hp
    · exact q.elim) ho ha hbase hfew hline hs hplain
/-! ### s.index(sign) -/
def sixR : RDm := fun c d ds Q => match d, ds with
  | .str a, [.str b] => ∃ k, Txt.index0 a b = some k ∧ Q (.int (k : Nat)) c
  | _, _ => False
end
end DL
/-! the data layer: a text's index, f-strings, dicts of pairs, setdefault -/
namespace DL
open PySem PySem.Spec L2
open PyProof.Rows hiding St

section
variable {GI : Hp → Hp → Prop} {X : Cx} {o e f : Expr} {wo wk wx we : WE} {wr : WA} {apos cpos pos : Pos}
theorem ce_sindex (hc : X.calm = true) (ho : CE GI X o wo) (ha : CA GI X [e] wr)
    (hbase : attributeBase o "index" X.env (eval o X.env) = eval o X.env := by rfl)
    (hfew : ((backTo cpos (starEach [e] X.env)).all (fun x => !x.1) && (backToKw cpos (keywordEach [] X.env)).all (fun x => x.1.isSome) && decide (([e] : List Expr).length + ([] : List Keyword).length + (if ([] : List Keyword).isEmpty then 0 else 1) < 30)) = true := by rfl)
    (hline : (apos.endLine == cpos.line) = true := by rfl) (hs : starEach [e] X.env = (false, eval e X.env) :: starEach [] X.env := by rfl) (hplain : (backTo cpos (starEach [] X.env)).any (·.1) = false := by rfl) : CE GI X (.Call (.Attribute o "index" apos) [e] [] cpos) (wMt "str" sixR wo wr) := fun W x => by
  refine pe_imp (pe_bmS PySem.F.plainAttrs_str PySem.F.slot_str_index PySem.F.type_str_index (mt_indexX hc x.tk) (ho W x) (ha W x) hbase hfew hline hs hplain) ?_
  rintro σ H Q ⟨F, env, c, E, Qd, re, rp, lx, q, k⟩
  refine ⟨F, env, c, E, _, re, rp, lx, q, ?_⟩
  rintro F1 c1 H1 v d l1 r1 h1 ⟨q0, q1⟩
  refine ⟨tyDl_snd r1 h1 q0, F1, env, c1, E, _, re.le l1, r1, lx.le l1, q1, ?_⟩
  intro F2 c2 H2 vs ds l2 r2 h2 q2
  unfold sixR at q2
  split at q2
  · obtain ⟨u, rfl, h3⟩ := h2.inv1
    obtain ⟨j, e1, q3⟩ := q2
    exact ⟨_, _, (h1.le l2).str_inv, by rw [h3.str_inv], fun k' e2 => by rw [e1] at e2; cases e2; exact k F2 c2 H2 _ _ (l1.trans' l2) r2 (.int _) q3, fun e2 => by rw [e1] at e2; cases e2⟩
  · exact q2.elim
/-! ### f-strings -/
def fmtR (d : D) (c : CMap) (Q : DK) : Prop := match d with
  | .str y => y.length ≤ sizeLine ∧ Q (.str y) c
  | .int i => i.natAbs.log2 < 1920 ∧ Q (.str (toString i)) c
  | _ => False
def wFmt (a : WE) : WE := fun E env c Q => a E env c fun d c1 => fmtR d c1 Q
theorem ce_fmt (he : CE GI X e we) : CE GI X (.FormattedValue e (-1) none pos) (wFmt we) := fun W x => by
  refine pe_imp (pe_fmt (he W x)) ?_
  rintro σ H Q ⟨F, env, c, E, Qd, re, rp, lx, q, k⟩
  refine ⟨F, env, c, E, _, re, rp, lx, q, ?_⟩
  intro F1 c1 H1 v1 d1 l1 r1 h1 q1
  unfold fmtR at q1
  split at q1
  · exact .inl ⟨_, h1.str_inv, q1.1, k F1 c1 H1 _ _ l1 r1 (.str _) q1.2⟩
  · exact .inr ⟨_, h1.int_inv, q1.1, k F1 c1 H1 _ _ l1 r1 (.str _) q1.2⟩
  · exact q1.elim
end
inductive CJ (GI : Hp → Hp → Prop) (X : Cx) : List Expr → List WE → Prop where
  | nil : CJ GI X [] []
  | cons {e : Expr} {t : WE} {es : List Expr} {ts : List WE} (h : CE GI X e t) (r : CJ GI X es ts) : CJ GI X (e :: es) (t :: ts)
def asS : D → (Str → Prop) → Prop
  | .str i, k => k i
  | _, _ => False
def wJs : List WE → Str → XD → DEnv → CMap → (Str → CMap → Prop) → Prop
  | [], acc, _, _, c, Q => Q acc c
  | t :: ts, acc, E, env, c, Q => t E env c fun d c1 => asS d fun y => (acc ++ y).length ≤ sizeLine ∧ wJs ts (acc ++ y) E env c1 Q
def wJoined (ts : List WE) : WE := fun E env c Q => wJs ts Str.empty E env c fun y c1 => Q (.str y) c1
section
variable {GI : Hp → Hp → Prop} {X : Cx} {v1 v2 : Expr} {rest : List Expr} {ts : List WE} {pos : Pos}
theorem CJ.pj {W : WX} {es : List Expr} {ts : List WE} (x : XOk X W) (h : CJ GI X es ts) : PJ X es (ts.map (lowE X.K GI W)) := by
  induction h with
  | nil => exact .nil
  | cons h r ih => exact .cons (h W x) ih
theorem low_js {W : WX} : ∀ (ts : List WE) (acc : Str) (σ : L2.St) (F H : Hp) (env : DEnv) (c : CMap) (E : XD) (Qd : Str → CMap → Prop) (Q : Str → Hp → Prop), RepE X.K F env σ → Rep X.K GI F c H → LX X.K GI W F σ E → wJs ts acc E env c Qd →
    (∀ F' c' H' y, Le F F' → Rep X.K GI F' c' H' → Qd y c' → Q y H') → tJs (ts.map (lowE X.K GI W)) acc σ H Q
  | [], acc, σ, F, H, env, c, E, Qd, Q, re, rp, lx, q, k => k F c H acc Le.rfl' rp q
  | t :: ts, acc, σ, F, H, env, c, E, Qd, Q, re, rp, lx, q, k => by
    refine ⟨F, env, c, E, _, re, rp, lx, q, ?_⟩
    intro F1 c1 H1 v1 d1 l1 r1 h1 q1
    cases d1 <;> first | exact False.elim q1 | skip
    exact ⟨_, h1.str_inv, q1.1, low_js ts _ σ F1 H1 env c1 E Qd Q (re.le l1) r1 (lx.le l1) q1.2 fun F' c' H' y l => k F' c' H' y (l1.trans' l)⟩
theorem ce_joined (h : CJ GI X (v1 :: v2 :: rest) ts) : CE GI X (.JoinedStr (v1 :: v2 :: rest) pos) (wJoined ts) := fun W x => by
  refine pe_imp (pe_joined (h.pj x)) ?_
  rintro σ H Q ⟨F, env, c, E, Qd, re, rp, lx, q, k⟩
  exact low_js ts _ σ F H env c E _ _ re rp lx q fun F' c' H' y l r z => k F' c' H' _ _ l r (.str y) z
end
/-! ### dict(pairs), dict(d) -/
def pairD (c : CMap) (d : D) : Option (Key × D) := match res c d with
  | .tup [k, v] => (keyD k).map fun x => (x, v)
  | .kt [k, v] => (keyD k).map fun x => (x, v)
  | _ => none
def pairsD (c : CMap) : List D → Option (List (Key × D))
  | [] => some []
  | d :: ds => match pairD c d, pairsD c ds with
    | some p, some ps => some (p :: ps)
    | _, _ => none
def mergeKD (kvs more : List (Key × D)) : List (Key × D) := more.foldl (fun acc kv => putKD acc kv.1 kv.2) kvs
def dictPR : RDn := fun c ds Q => match ds with
  | [d] => match res c d with
    | .lst es => ∃ ps, pairsD c es = some ps ∧ ∀ p, c p = none → Q (.ref p) (updc c p (.dK (mergeKD [] ps)))
    | .ref a => ∃ kvs, c a = some (.dK kvs) ∧ ∀ p, c p = none → Q (.ref p) (updc c p (.dK kvs))
    | _ => False
  | _ => False
section
variable {K : PySem.W.Frag} {GI : Hp → Hp → Prop} {F H : Hp} {c : CMap}
theorem pairD_snd {v : V} {d : D} {p : Key × D} (r : Rep K GI F c H) (h : DV K F v d) (e : pairD c d = some p) : ∃ a u, v = .ref a ∧ SqT K H a [kV p.1, u] ∧ DV K F u p.2 := by
  unfold pairD at e
  split at e
  · rename_i k x e1
    obtain rfl := res_oth e1 (by intro _ z; cases z)
    obtain ⟨a, xs, rfl, g, kk⟩ := h.tup_inv
    obtain ⟨y, z, rfl, h1, h2⟩ := kk.inv2
    cases e2 : keyD k with
    | none => rw [e2] at e; cases e
    | some x' =>
      rw [e2] at e
      cases e
      exact ⟨a, z, rfl, by rw [← keyD_kV h1 e2]; exact SqT.of (r.sub _ _ g), h2⟩
  · rename_i k x e1
    obtain rfl := res_oth e1 (by intro _ z; cases z)
    obtain ⟨a, xs, rfl, g, kk⟩ := h.kt_inv
    obtain ⟨y, z, rfl, h1, h2⟩ := kk.inv2
    cases e2 : keyD k with
    | none => rw [e2] at e; cases e
    | some x' =>
      rw [e2] at e
      cases e
      exact ⟨a, z, rfl, by rw [← keyD_kV h1 e2]; exact sqT_le r.sub g, h2⟩
  · cases e
theorem pairsD_snd (r : Rep K GI F c H) : ∀ {vs : List V} {ds : List D} {ps : List (Key × D)}, DVs K F vs ds → pairsD c ds = some ps → ∃ (as : List Addr) (us : List (Key × V)), vs = as.map V.ref ∧ Paired (fun p kv => SqT K H p [kV kv.1, kv.2]) as us ∧ KD K F us ps
  | _, _, _, .nil, e => by cases e; exact ⟨[], [], rfl, .nil, .nil⟩
  | _, _, _, .cons (d := d) (ds := ds) h k, e => by
    unfold pairsD at e
    split at e
    · rename_i p ps e1 e2
      cases e
      obtain ⟨a, u, rfl, g1, g2⟩ := pairD_snd r h e1
      obtain ⟨as, us, rfl, g3, g4⟩ := pairsD_snd r k e2
      exact ⟨a :: as, (p.1, u) :: us, rfl, .cons g1 g3, .cons ⟨rfl, g2⟩ g4⟩
    · cases e
theorem KD.merge {us more : List (Key × V)} {es more' : List (Key × D)} (h : KD K F us es) (h2 : KD K F more more') : KD K F (mergeK us more) (mergeKD es more') := by
  unfold KD at h2
  induction h2 generalizing us es with
  | nil => exact h
  | @cons a b l1 l2 q t ih =>
    have h3 : KD K F (putK us a.1 a.2) (putKD es b.1 b.2) := by rw [← q.1]; exact h.put _ q.2
    exact ih h3
end
theorem dictP_snd {GI : Hp → Hp → Prop} {X : Cx} : SndN X.K GI (fun xs H Q => (∃ (a : Addr) (ps : List Addr) (kvs : List (Key × V)), xs = [.ref a] ∧ SqL X.K H a (ps.map V.ref) ∧ Paired (fun p kv => SqT X.K H p [kV kv.1, kv.2]) ps kvs ∧ ∀ p, H p = none → Q (.ref p) (upd H p (.dK (mergeK [] kvs)))) ∨
    ∃ (a : Addr) (kvs : List (Key × V)), xs = [.ref a] ∧ Rd H a (.dK kvs) ∧ ∀ p, H p = none → Q (.ref p) (upd H p (.dK kvs))) dictPR := by
  intro F H c vs ds Qd Q r h q k
  unfold dictPR at q
  split at q
  · obtain ⟨v, rfl, h0⟩ := h.inv1
    split at q
    · rename_i e1
      obtain ⟨p, xs, rfl, g1, k1⟩ := res_lst r h0 e1
      obtain ⟨ps, e2, q2⟩ := q
      obtain ⟨as, us, rfl, g3, g4⟩ := pairsD_snd r k1 e2
      exact .inl ⟨p, as, us, rfl, SqL.of g1, g3, fun p' hp => k F _ _ _ _ Le.rfl' (r.newC (k := .dK _) hp ⟨_, rfl, KD.merge .nil g4⟩) (.ref p') (q2 p' (r.frc hp))⟩
    · rename_i e1
      obtain rfl := res_oth e1 (by intro _ z; cases z)
      obtain ⟨kvs, e2, q2⟩ := q
      obtain ⟨_, o, h1, us, rfl, h2⟩ := r.cel _ _ e2
      exact .inr ⟨_, us, by rw [h0.ref_inv], .inl h1, fun p' hp => k F _ _ _ _ Le.rfl' (r.newC (k := .dK kvs) hp ⟨_, rfl, h2⟩) (.ref p') (q2 p' (r.frc hp))⟩
    · exact q.elim
  · exact q.elim
theorem ce_dictc {GI : Hp → Hp → Prop} {X : Cx} {e : Expr} {wr : WA} {p pos : Pos} (hc : X.calm = true) (hm : X.mg "dict" = none) (ha : CA GI X [e] wr) (hg : Gl X "dict" := by rfl) (he : starEach [e] X.env = (false, eval e X.env) :: starEach [] X.env := by rfl) (hpl : (backTo pos (starEach [] X.env)).any (·.1) = false := by rfl) :
    CE GI X (.Call (.Name "dict" p) [e] [] pos) (wFn dictPR wr) := ce_bcl ((call_dictP hc).or call_dictD) dictP_snd hm ha (hg := hg) (he := he) (hpl := hpl)
end DL
/-! the data layer: the law's call where defs make functions -/
namespace DL
open PySem PySem.Spec L2
open PyProof.Rows hiding St
/-- tables of code objects stand; none of them is known for ever -/
def GIT (T : List (Addr × Str)) : Hp → Hp → Prop := fun F H => LamX.Tabs T H ∧ ∀ b ps, F b ≠ some (.tbl ps)
theorem tabs_upd {T : List (Addr × Str)} {H : Hp} {p : Addr} {o : HO} (t : LamX.Tabs T H) (h1 : ∀ ps, H p ≠ some (.tbl ps)) (h2 : ∀ c q, H p ≠ some (LamX.CodeO c q)) : LamX.Tabs T (upd H p o) := by
  intro x hx
  obtain ⟨ps, e1, e2, e3⟩ := t x hx
  refine ⟨ps, by rw [upd_ne (fun z => h1 ps (by rw [← z]; exact e1))]; exact e1, e2, fun pos cv hc => ?_⟩
  obtain ⟨c, e4, e5⟩ := e3 pos cv hc
  exact ⟨c, e4, by rw [upd_ne (fun z => h2 c x.2 (by rw [← z]; exact e5))]; exact e5⟩
theorem notbl_upd {F : Hp} {p : Addr} {o : HO} (h : ∀ b ps, F b ≠ some (.tbl ps)) (n : ∀ ps, o ≠ .tbl ps) : ∀ b ps, upd F p o b ≠ some (.tbl ps) := by
  intro b ps z
  by_cases e : b = p
  · subst e; rw [upd_same] at z; cases z; exact n ps rfl
  · rw [upd_ne e] at z; exact h b ps z
theorem lamG_git (T : List (Addr × Str)) : LamG (GIT T) T where
  gg := ⟨fun F H p o h n => ⟨tabs_upd h.1 (by rw [n]; intro _ z; cases z) (by rw [n]; intro _ _ z; cases z), h.2⟩,
    fun F H p o h f n nt => ⟨tabs_upd h.1 (by rw [n]; intro _ z; cases z) (by rw [n]; intro _ _ z; cases z), notbl_upd h.2 nt⟩,
    fun F H p o h m => ⟨tabs_upd h.1 (fun ps z => by rw [z] at m; exact m) (fun c q z => by rw [z] at m; exact m), h.2⟩,
    fun F H p o h f e nt => ⟨h.1, notbl_upd h.2 nt⟩⟩
  tabs := fun F H h => h.1
  notbl := fun F H h => h.2
  step := fun F H H1 h e t => ⟨t, h.2⟩
  code := fun F H c q h l e => ⟨h.1, notbl_upd h.2 (fun _ z => by unfold LamX.CodeO at z; cases z)⟩
theorem law_spT {K : PySem.W.Frag} {T : List (Addr × Str)} {H : Hp} {a : Addr} {ns : List Int} (hT : ∀ p ∈ T, H p.1 = some (.tbl #[])) (hl : ns.length ≤ 63) (h : SqL K H a (ns.map V.int)) : lowSp K (GIT T) sp_law [.ref a] H (fun v _ => v = .bl true) fun _ _ _ => False := by
  let F : Hp := fun b => match H b with | some (.tbl _) => none | o => o
  have le : Le F H := fun b o e => by
    show H b = some o
    revert e
    show (match H b with | some (.tbl _) => none | o => o) = some o → _
    split
    · intro z; cases z
    · exact id
  have hF : ∀ b o, H b = some o → (∀ ps, o ≠ .tbl ps) → F b = some o := fun b o e n => by
    show (match H b with | some (.tbl _) => none | o => o) = some o
    rw [e]
    split
    · rename_i z; cases z; exact absurd rfl (n _)
    · rfl
  have hS : SqL K F a (ns.map V.int) := by
    rcases h with (e | ⟨o, e⟩) | e
    · exact .inl (.inl (hF _ _ e (fun _ z => by cases z)))
    · exact .inl (.inr ⟨o, hF _ _ e (fun _ z => by cases z)⟩)
    · exact .inr e
  have nt : ∀ b ps, F b ≠ some (.tbl ps) := fun b ps => by
    show (match H b with | some (.tbl _) => none | o => o) ≠ _
    split
    · intro z; cases z
    · rename_i o hn; intro z; exact hn ps z
  refine ⟨F, [.scr ns], fun _ => none, fun _ _ _ => False, fun d _ => d = .bl true, .one (.scr hS), ⟨le, (fun a k e => by cases e), ⟨fun p hp => LamX.TabS.nil (hT p hp), nt⟩, (lamG_git T).gg⟩, ⟨ns, rfl, hl, fun _ => rfl⟩, ?_, ?_⟩
  · rintro F c H' v d _ _ hd rfl
    exact hd.bl_inv
  · rintro F c H' cls od _ _ q
    exact q
theorem tabB_up {B B' : Heap} {mg : Str → Option Value} {c P : Addr} (t : LamX.TabB B mg c P) (k : ∀ b o, B.get? b = some o → B'.get? b = some o) : LamX.TabB B' mg c P := ⟨t.code.keeps k, t.bm.keeps k, t.gP⟩
theorem hasG_ofC {GI : Hp → Hp → Prop} {P : Program} {w : World} {K : PySem.W.Frag} {mg : Str → Option Value} {base h : Heap} {x qual : Str} {st : Stmt} {f : Addr} {fd : FuncData} {N ps : List Str} {k n : Nat} {sp : DSpec} {ws : WS}
    (X : K.In h) (G : h.Ns mainGlobals mg) (D : DefAt K x qual st f fd) (hb : Binds K fd ps []) (S : FnScope N ps (defScope st)) (hn : ps.length = n) (len : ∀ ds c E Q, sp ds c E Q → ds.length = ps.length)
    (body : ∀ (A : Around) (outer : List Env) (s : Shared) (H : Hp) (E : XK), Room k (A.deeper (envOfC qual (defScope st) s.heap.objs.size f (.ref (He.codeOf K (x, none))))) →
      CSs GI (cxOf (L2.CX P w) P w K mg base N qual (defScope st) f (.ref (He.codeOf K (x, none))) A outer s H E) (defBody st) ws)
    (ok : ∀ ds c (E : XD) (Q : DK), sp ds c E Q → ws (endD E Q) (startE N.length ds) c) : HasG GI P w K mg base (k + 1) x n sp :=
  ⟨f, PySem.W.mg_of X G D.ns, ⟨fd, ps, hn, D.fn.kp, hb, fnok_ofC D.fn D.at_ S len body ok⟩⟩
/-- the makers' tables, each with the name that its functions bear -/
abbrev Mks : Type := List (He.Defn × Str)
def tabsM (K : PySem.W.Frag) (m : Mks) : List (Addr × Str) := m.map fun p => ((He.cT K p.1).2, p.2)
def csM (K : PySem.W.Frag) (m : Mks) : List (Addr × Addr) := m.map fun p => He.cT K p.1
def ndM (m : Mks) (K : PySem.W.Frag) : Bool := decide ((m.map fun p => (He.cT K p.1).2).Nodup)
theorem tabsM_mem {K : PySem.W.Frag} {m : Mks} {p : He.Defn × Str} (h : p ∈ m) : ((He.cT K p.1).2, p.2) ∈ tabsM K m := List.mem_map.mpr ⟨p, h, rfl⟩
theorem csM_mem {K : PySem.W.Frag} {m : Mks} {p : He.Defn × Str} (h : p ∈ m) : He.cT K p.1 ∈ csM K m := List.mem_map.mpr ⟨p, h, rfl⟩
theorem nd_inj {α β : Type} {f : α → β} {l : List α} (h : (l.map f).Nodup) {a b : α} (ha : a ∈ l) (hb : b ∈ l) (e : f a = f b) : a = b := by
  induction l with
  | nil => cases ha
  | cons x l ih =>
    rw [List.map_cons, List.nodup_cons] at h
    by_cases h1 : a = x
    · by_cases h2 : b = x
      · rw [h1, h2]
      · have hb' : b ∈ l := by rcases List.mem_cons.mp hb with z | z; exact absurd z h2; exact z
        exact absurd (List.mem_map.mpr ⟨b, hb', by rw [← e, h1]⟩) h.1
    · have ha' : a ∈ l := by rcases List.mem_cons.mp ha with z | z; exact absurd z h1; exact z
      by_cases h2 : b = x
      · exact absurd (List.mem_map.mpr ⟨a, ha', by rw [e, h2]⟩) h.1
      · exact ih h.2 ha' (by rcases List.mem_cons.mp hb with z | z; exact absurd z h2; exact z)
theorem tabsM_hu {K : PySem.W.Frag} {m : Mks} (nd : ndM m K = true) {p : He.Defn × Str} (h : p ∈ m) : ∀ q ∈ tabsM K m, q.1 = (He.cT K p.1).2 → q.2 = p.2 := by
  intro q hq e
  obtain ⟨r, hr, rfl⟩ := List.mem_map.mp hq
  have := nd_inj (of_decide_eq_true nd) hr h e
  rw [this]
theorem emptyM {K : PySem.W.Frag} {h : Heap} {m : Mks} (c : ∀ p ∈ m.map (·.1), h.get? (He.cT K p).2 = some { cls := .none, data := .fields #[] }) : ∀ p ∈ csM K m, h.get? p.2 = some { cls := .none, data := .fields #[] } := by
  intro p hp
  obtain ⟨r, hr, rfl⟩ := List.mem_map.mp hp
  exact c r.1 (List.mem_map.mpr ⟨r, hr, rfl⟩)
theorem outM {K : PySem.W.Frag} {m : Mks} (c : ∀ p ∈ m.map (·.1), K.lookup (He.cT K p).2 = none) : ∀ p ∈ csM K m, K.lookup p.2 = none := by
  intro p hp
  obtain ⟨r, hr, rfl⟩ := List.mem_map.mp hp
  exact c r.1 (List.mem_map.mpr ⟨r, hr, rfl⟩)
theorem codeM {K : PySem.W.Frag} {h : Heap} {m : Mks} (KX : K.In h) (c : ∀ p ∈ m.map (·.1), PySem.W.codeHdIn K (He.cT K p).1 (He.cT K p).2 = true) : ∀ p ∈ csM K m, PySem.W.CodeHd h p.1 p.2 := by
  intro p hp
  obtain ⟨r, hr, rfl⟩ := List.mem_map.mp hp
  exact PySem.W.codeHd_of_K KX (c r.1 (List.mem_map.mpr ⟨r, hr, rfl⟩))
theorem tblM {K : PySem.W.Frag} {H : Hp} {m : Mks} (c : ∀ p ∈ csM K m, H p.2 = some (.tbl #[])) : ∀ p ∈ tabsM K m, H p.1 = some (.tbl #[]) := by
  intro p hp
  obtain ⟨r, hr, rfl⟩ := List.mem_map.mp hp
  exact c _ (csM_mem hr)
end DL
/-! the data layer: how the further constructs are gone through -/
namespace DL
open PySem PySem.Spec L2
open PyProof.Rows hiding St
section
variable {E : XD} {env env' : DEnv} {c c1 : CMap} {Q : DK} {DD : DEnds} {i j l : Nat} {d e x y : D} {ds es xs : List D} {p f : Addr} {sp : DSpec} {Φ : FEnv}
theorem wCall0_i (h : sp [] c E Q) : wCall0 sp E env c Q := h
theorem wCallV_i {r : WA} (h : getE env i = some (.ref f)) (hf : Φ f = some sp) (q : r E env c fun ds c1 => sp ds c1 E Q) : wCallV Φ i r E env c Q := by
  refine ⟨.ref f, h, ⟨f, sp, rfl, hf⟩, ?_⟩
  have e : (fun (ds : List D) (c1 : CMap) => callF Φ (.ref f) ds c1 E Q) = fun ds c1 => sp ds c1 E Q := by
    funext ds c1
    refine propext ⟨fun ⟨f', sp', e1, e2, q⟩ => ?_, fun q => ⟨f, sp, rfl, hf, q⟩⟩
    cases e1; rw [hf] at e2; cases e2; exact q
  rw [e]; exact q
theorem wCallL_i {S : FEnv → DSpec} {lam : DEnv → DSpec} {r : WA} (q : r E env c fun ds c1 => ∀ f, S (addF Φ f (lam env)) (ds ++ [.ref f]) c1 E Q) : wCallL S Φ lam r E env c Q := q
theorem addF_same {sp : DSpec} : addF Φ f sp f = some sp := by unfold addF; rw [if_pos rfl]
theorem spLam_i {n m : Nat} {we : WE} {cs : DEnv} (h : ds.length = m) (q : we E (startL n ds cs) c (wkQ Q)) : spLam n m we cs ds c E Q := ⟨h, q⟩
theorem wkQ_i (q : Q d c) : wkQ Q d c := ⟨c, SubC.rfl', q⟩
theorem wChain_i {R R' : RD2} {a b t : WE} (q : a E env c fun d c1 => b E env c1 fun e c2 => R c2 d e fun z c3 => asB z c3 fun k c4 => if k = true then t E env c4 fun f c5 => R' c5 e f Q else Q (.bl false) c4) : wChain R R' a b t E env c Q := q
theorem wAug_i {R : RD2} {a : WE} (h : getE env i = some d) (q : a (exE DD env) env c fun e c1 => R c1 d e fun z c2 => DD.nx (env.set i (some z)) c2) : wAug i R a DD env c := ⟨d, h, q⟩
theorem addI_i {a b : Int} (q : Q (.int (a + b)) c) : addI c (.int a) (.int b) Q := q
theorem mulI_i {a b : Int} (h : CMul a b) (q : Q (.int (a * b)) c) : mulI c (.int a) (.int b) Q := ⟨h, q⟩
theorem wPar2_i {r : WA} (q : r (exE DD env) env c fun ds c1 => ∃ u v, ds = [u, v] ∧ DD.nx ((env.set i (some u)).set j (some v)) c1) : wPar2 i j r DD env c := q
theorem wPar3_i {r : WA} (q : r (exE DD env) env c fun ds c1 => ∃ u v w, ds = [u, v, w] ∧ DD.nx (((env.set i (some u)).set j (some v)).set l (some w)) c1) : wPar3 i j l r DD env c := q
theorem ex2_i {A : D → D → Prop} {u v : D} (q : A u v) : ∃ u' v', [u, v] = [u', v'] ∧ A u' v' := ⟨u, v, rfl, q⟩
theorem ex3_i {A : D → D → D → Prop} {u v w : D} (q : A u v w) : ∃ u' v' w', [u, v, w] = [u', v', w'] ∧ A u' v' w' := ⟨u, v, w, rfl, q⟩
theorem wMt0_i {T : String} {R : RDm} {o : WE} (q : o E env c fun d c1 => tyDl T c1 d ∧ R c1 d [] Q) : wMt0 T R o E env c Q := q
theorem wSl3_i {m : Bool} {a : WE} {lo hi st : WO} (q : a E env c fun d c1 => lo E env c1 fun l c2 => hi E env c2 fun h c3 => st E env c3 fun k c4 => sl3R m c4 d l h k Q) : wSl3 m a lo hi st E env c Q := q
theorem sl3_l {m : Bool} {lo hi st : Option Int} (h : st ≠ some 0) (h2 : (pickG ds lo hi st).length ≤ 16777216) (q : newL m c (pickG ds lo hi st) Q) : sl3R m c (.lst ds) lo hi st Q := ⟨h, len_le h2, q⟩
theorem sl3_s {m : Bool} {lo hi : Option Int} {k : Int} {z : Str} (h0 : k ≠ 0) (h1 : k ≠ 1) (h2 : (Builtin.Str.strSliceIndices lo hi k z.length).length ≤ 16777216) (q : Q (.str ⟨((Builtin.Str.strSliceIndices lo hi k z.length).filterMap (z.cps[·]?)).toArray⟩) c) : sl3R m c (.str z) lo hi (some k) Q := ⟨k, rfl, h0, h1, len_le h2, q⟩
theorem wFmt_i {a : WE} (q : a E env c fun d c1 => fmtR d c1 Q) : wFmt a E env c Q := q
theorem fmt_s {y : Str} (h : y.length ≤ 16777216) (q : Q (.str y) c) : fmtR (.str y) c Q := ⟨len_le h, q⟩
theorem fmt_i {k : Int} (h : k.natAbs.log2 < 1920) (q : Q (.str (toString k)) c) : fmtR (.int k) c Q := ⟨h, q⟩
theorem wJoined_i {ts : List WE} (q : wJs ts Str.empty E env c fun y c1 => Q (.str y) c1) : wJoined ts E env c Q := q
theorem wJs_nil {acc : Str} {N : Str → CMap → Prop} (q : N acc c) : wJs [] acc E env c N := q
theorem wJs_cons {t : WE} {ts : List WE} {acc : Str} {N : Str → CMap → Prop} (q : t E env c fun d c1 => asS d fun y => (acc ++ y).length ≤ sizeLine ∧ wJs ts (acc ++ y) E env c1 N) : wJs (t :: ts) acc E env c N := q
theorem asS_i {y : Str} {N : Str → Prop} (q : N y) : asS (.str y) N := q
theorem ext_c {xs : List D} (h : c p = some (.lst es)) (h2 : res c e = .lst xs) (h3 : es.length + xs.length ≤ 16777216) (q : Q .non (updc c p (.lst (es ++ xs)))) : extR c (.ref p) [e] Q := ⟨es, xs, h, h2, len_le h3, q⟩
theorem pop_c (h : c p = some (.lst es)) (h2 : es[es.length - 1]? = some y) (q : Q y (updc c p (.lst es.dropLast))) : popR c (.ref p) [] Q := ⟨es, y, h, h2, q⟩
theorem seqIx {n k : Nat} (h : k < n) : PySem.seqIndex? (k : Int) n = some k := by
  unfold PySem.seqIndex?
  have e : ¬ (k : Int) < 0 := by omega
  simp only [e, if_false]
  rw [if_pos (by simp; omega)]; simp
theorem popAt_c {k : Nat} (h : c p = some (.lst es)) (hi : (k : Int) < 2 ^ 63) (h2 : es[k]? = some y) (q : Q y (updc c p (.lst (es.eraseIdx k)))) : popR c (.ref p) [.int (k : Nat)] Q :=
  ⟨es, k, y, h, by omega, hi, seqIx (List.getElem?_eq_some_iff.mp h2).1, h2, q⟩
theorem ins_c {k : Int} (h : c p = some (.lst es)) (h1 : es.length < 16777216) (h2 : 0 ≤ k) (h3 : k < 2 ^ 63) (q : Q .non (updc c p (.lst (es.take k.toNat ++ [y] ++ es.drop k.toNat)))) : insR c (.ref p) [.int k, y] Q := ⟨es, h, len_lt h1, h2, h3, q⟩
theorem rev_c (h : c p = some (.lst es)) (q : Q .non (updc c p (.lst es.reverse))) : revR c (.ref p) [] Q := ⟨es, h, q⟩
theorem clr_c (h : c p = some (.lst es)) (q : Q .non (updc c p (.lst []))) : clrR c (.ref p) [] Q := ⟨es, h, q⟩
theorem lix_l (h : res c d = .lst es) (h1 : flatD y = true) (h2 : es.all flatD = true) (h3 : es[j]? = some y) (h4 : ∀ m z, m < j → es[m]? = some z → z ≠ y) (q : Q (.int (j : Nat)) c) : lixR c d [y] Q := by
  unfold lixR; dsimp only; rw [h]; exact ⟨h1, h2, j, h3, h4, q⟩
theorem spl_s {a b : Str} (h1 : b.length ≠ 0) (h2 : a.length + 2 ≤ 16777216) (q : Q (.lst ((Txt.split a b).map D.str)) c) : splR c (.str a) [.str b] Q := ⟨h1, len_le h2, q⟩
theorem par_s {a b : Str} (h1 : b.length ≠ 0) (h2 : a.length ≤ 16777216) (q : Q (.tup [.str (Txt.partition a b).1, .str (Txt.partition a b).2.1, .str (Txt.partition a b).2.2]) c) : parR c (.str a) [.str b] Q := ⟨h1, len_le h2, q⟩
theorem six_s {a b : Str} {k : Nat} (h : Txt.index0 a b = some k) (q : Q (.int (k : Nat)) c) : sixR c (.str a) [.str b] Q := ⟨k, h, q⟩
theorem dict_l {ps : List (Key × D)} (h : res c d = .lst es) (h2 : pairsD c es = some ps) (q : ∀ p, c p = none → Q (.ref p) (updc c p (.dK (mergeKD [] ps)))) : dictPR c [d] Q := by
  unfold dictPR; dsimp only; rw [h]; exact ⟨ps, h2, q⟩
theorem dict_d {kvs : List (Key × D)} (h : c p = some (.dK kvs)) (q : ∀ p', c p' = none → Q (.ref p') (updc c p' (.dK kvs))) : dictPR c [.ref p] Q := by
  unfold dictPR; dsimp only; rw [res_K h]; exact ⟨kvs, h, q⟩
theorem ty_l {es : List D} : tyDl "list" c (.lst es) := rfl
theorem min_l {ns : List Int} (h : res c d = .lst ds) (h1 : intsD ds = some ns) (h2 : 0 < ns.length) (q : ∀ m, m ∈ ns → (∀ y, y ∈ ns → m ≤ y) → Q (.int m) c) : minLR c [d] Q := by
  unfold minLR; dsimp only; rw [h]; exact ⟨ns, h1, h2, q⟩
theorem max_l {ns : List Int} (h : res c d = .lst ds) (h1 : intsD ds = some ns) (h2 : 0 < ns.length) (q : ∀ m, m ∈ ns → (∀ y, y ∈ ns → y ≤ m) → Q (.int m) c) : maxLR c [d] Q := by
  unfold maxLR; dsimp only; rw [h]; exact ⟨ns, h1, h2, q⟩
theorem sum_l {ns : List Int} (h : res c d = .lst ds) (h1 : intsD ds = some ns) (q : Q (.int ns.sum) c) : sumR c [d] Q := by
  unfold sumR; dsimp only; rw [h]; exact ⟨ns, h1, q⟩
theorem is_n {n : Bool} (q : Q (.bl (n ^^ decide (d = .non))) c) : isNR n c d .non Q := q
end
end DL
/-! the data layer: defs with defaults -/
namespace DL
open PySem PySem.Spec L2
open PyProof.Rows hiding St
structure DefAtD (K : PySem.W.Frag) (x qual : Str) (st : Stmt) (f : Addr) (fd : FuncData) (dvs : List V) : Prop where
  ns : PySem.W.nsIn K mainGlobals x = some (some (.ref f))
  fn : FunD K x qual (defArgs st) (defBody st) (defScope st) dvs [] f fd
theorem defAtD_of {K : PySem.W.Frag} {fa : List He.Fa} {fn : List He.DefD} {x qual : Str} {st : Stmt} {dl : List He.Dv} (c : He.SaysD fa fn K) (i j : Nat) (h : fn[i]? = some ⟨(x, none), x, qual, defArgs st, defBody st, defScope st, dl, []⟩) (h2 : fa[j]? = some (.glo x)) : ∃ f fd, DefAtD K x qual st f fd (dl.map (He.Dv.v K)) := by
  obtain ⟨fd, F⟩ := c.def_ i h
  exact ⟨He.ga K x, fd, He.eqO_ok (c.fact j h2), F⟩
abbrev HasGD (GI : Hp → Hp → Prop) (P : Program) (w : World) (K : PySem.W.Frag) (mg : Str → Option Value) (base : Heap) (k : Nat) (x : Str) (dds : List D) (sp : DSpec) : Prop :=
  ∃ f, mg x = some (.ref f) ∧ ∃ fd ps ds dvs, PySem.W.keepIn K (.ref f) = true ∧ Binds K fd ps ds ∧ Vals dvs ds ∧ (∀ F, DVs K F dvs dds) ∧ FnOk P w K mg base (L2.CX P w) k f fd ps (lowSp K GI sp)
def wCallD (sp : DSpec) (dds : List D) (r : WA) : WE := fun E env c Q => r E env c fun ds c1 => sp (ds ++ dds) c1 E Q
theorem ce_callD {GI : Hp → Hp → Prop} {X : Cx} {x : Str} {p pos : Pos} {e : Expr} {es : List Expr} {wr : WA} {sp : DSpec} {k : Nat} {dds : List D} (h : HasGD GI X.prog X.w X.K X.mg X.base k x dds sp) (hr : Room k X.A) (ha : CA GI X (e :: es) wr) (hg : Gl X x := by rfl) (hdb : (x == ("__debug__" : Str)) = false := by decide)
    (he : starEach (e :: es) X.env = (false, eval e X.env) :: starEach es X.env := by rfl) (hpl : (backTo pos (starEach es X.env)).any (·.1) = false := by rfl) : CE GI X (.Call (.Name x p) (e :: es) [] pos) (wCallD sp dds wr) := fun W xo => by
  obtain ⟨f, hm, fd, ps, dsv, dvs, kp, b, hv, hd, F⟩ := h
  refine pe_imp (pe_callSD F hr hg hm kp b hv (fun σ => passAt xo.tk σ) (ha W xo) hdb he hpl) ?_
  rintro σ H Q ⟨F, env, c, E, Qd, re, rp, lx, q, k⟩
  refine ⟨F, env, c, E, _, re, rp, lx, q, ?_⟩
  intro F1 c1 H1 vs ds l1 r1 h1 q1
  exact ⟨F1, ds ++ dds, c1, E, Qd, h1.app (hd F1), r1, q1, k.le l1, lx.le l1⟩
section
variable {GI : Hp → Hp → Prop} {P : Program} {w : World} {K : PySem.W.Frag} {mg : Str → Option Value} {base h : Heap} {x qual : Str} {st : Stmt} {f : Addr} {fd : FuncData} {N ps : List Str} {k n j : Nat} {sp : DSpec} {ws : WS} {dvs : List V} {dds : List D}
theorem HasGD.mono {i : Nat} (h : HasGD GI P w K mg base i x dds sp) (l : i ≤ k) : HasGD GI P w K mg base k x dds sp := by
  obtain ⟨f, a, fd, ps, ds, dvs, h1, h2, h3, h4, h5⟩ := h
  exact ⟨f, a, fd, ps, ds, dvs, h1, h2, h3, h4, h5.mono l⟩
theorem hasGD_of (X : K.In h) (G : h.Ns mainGlobals mg) (D : DefAtD K x qual st f fd dvs) (hb : ∃ ds, Vals (dvs.drop j) ds ∧ Binds K fd ps ds) (S : FnScope N ps (defScope st)) (hd : ∀ F, DVs K F (dvs.drop j) dds) (len : ∀ ds c E Q, sp ds c E Q → ds.length = ps.length)
    (body : ∀ (cdv : Value) (A : Around) (outer : List Env) (s : Shared) (H : Hp) (E : XK), Room k (A.deeper (envOfC qual (defScope st) s.heap.objs.size f cdv)) →
      CSs GI (cxOf (L2.CX P w) P w K mg base N qual (defScope st) f cdv A outer s H E) (defBody st) ws)
    (ok : ∀ ds c (E : XD) (Q : DK), sp ds c E Q → ws (endD E Q) (startE N.length ds) c) : HasGD GI P w K mg base (k + 1) x dds sp := by
  obtain ⟨dsv, hv, b⟩ := hb
  refine ⟨f, PySem.W.mg_of X G D.ns, fd, ps, dsv, _, D.fn.kp, b, hv, hd, ?_⟩
  obtain ⟨oc, od, dV, kV, doc, pm, an, cdv, ct, osl, rfl, lk, hcd, _, _⟩ := D.fn.ex
  refine fn_of lk hcd S (fun vs H Q E h => ?_) fun A outer s H vs Q E hr h => ?_
  · obtain ⟨G, ds, c, E', Qd, h1, h2, h3, _⟩ := h
    rw [h1.length, len _ _ _ _ h3]
  · obtain ⟨G, ds, c, E', Qd, h1, h2, h3, h4, h5⟩ := h
    refine ⟨_, body cdv A outer s H E hr (fun cls d _ H => E cls d H) ⟨S.nd, takes_of rfl rfl rfl rfl, PassesOwn.leaving⟩, G, _, c, _, RepE.start h1, h2, ok ds c E' Qd h3, ⟨?_, ?_, ?_, ?_, ?_⟩⟩
    · rintro G' env' c' σ' H' l re r ⟨c2, s2, q⟩
      exact h4 G' c2 H' _ _ l (r.sub' s2) .non q
    · rintro G' c' H' v d l r hd ⟨c2, s2, q⟩
      exact h4 G' c2 H' _ _ l (r.sub' s2) hd q
    · rintro G' env' c' σ' H' l re r q
      exact q
    · rintro G' env' c' σ' H' l re r q
      exact q
    · rintro G' env' c' σ' H' cls od l re r ⟨c2, s2, q⟩
      exact h5 G' c2 H' cls od l (r.sub' s2) q
end
theorem wCallD_i {E : XD} {env : DEnv} {c : CMap} {Q : DK} {sp : DSpec} {dds : List D} {r : WA} (q : r E env c fun ds c1 => sp (ds ++ dds) c1 E Q) : wCallD sp dds r E env c Q := q
theorem eq_bb {c : CMap} {Q : DK} {n a b : Bool} (q : Q (.bl (n ^^ decide (a = b))) c) : eqR n c (.bl a) (.bl b) Q := q
end DL
/-! the data layer: exceptions -/
namespace DL
open PySem PySem.Spec L2
open PyProof.Rows hiding St
/-- a class of errors, as the top leaves it -/
structure ExcD (K : PySem.W.Frag) (mg : Str → Option Value) (x : Str) : Prop where
  g : mg x = some (.ref (He.ga K x))
  q : PySem.W.excIn K (He.ga K x) He.veBase "ValueError.__new__" = true
  k : PySem.W.keepIn K (.ref (He.ga K x)) = true
  b : PySem.W.subIn K (.ref (He.ga K x)) (.type "BaseException") = some true
  t : PySem.W.typeIn K (.ref (He.ga K x)) = some (.type "type")
theorem excD_of {K : PySem.W.Frag} {h : Heap} {fa : List He.Fa} {fn : List He.DefD} {x : Str} (X : K.In h) (c : He.SaysD fa fn K) (i j : Nat) (h1 : fa[i]? = some (.glo x)) (h2 : fa[j]? = some (.exc x)) (mg : Str → Option Value) (G : h.Ns mainGlobals mg) : ExcD K mg x := by
  obtain ⟨a, b, d, e⟩ := He.exc_ok (c.fact j h2)
  exact ⟨He.glo_ok X G (c.fact i h1), a, b, d, e⟩
def excV (K : PySem.W.Frag) (x : Str) : Value := .ref (He.ga K x)
/-- raise X('..') -/
def wRaise (K : PySem.W.Frag) (x : Str) : WS := fun DD env c => DD.ex (excV K x) none env c
/-- try: b except X: s -/
def excM (K : PySem.W.Frag) (y : Str) (cls : Value) : Option Bool := PySem.W.exmOne K cls (.ref (He.ga K y))
def wTry1 (K : PySem.W.Frag) (y : Str) (b s : WS) : WS := fun DD env c => b { DD with ex := fun cls od env' c' => ∃ k, excM K y cls = some k ∧ (k = true → s { DD with ex := fun _ _ _ _ => False } env' c') ∧ (k = false → DD.ex cls od env' c') } env c
section
variable {GI : Hp → Hp → Prop} {X : Cx} {x m : Str} {j : Nat} {p p2 pos pos' cpos np : Pos} {body suite : List Stmt} {b₀ : Stmt} {wb ws : WS}
theorem cs_raise (D : ExcD X.K X.mg x) (hc : X.calm = true) (hg : Gl X x := by rfl) (hdb : (x == ("__debug__" : Str)) = false := by decide) : CS GI X (.Raise (some (.Call (.Name x p) [.Constant (.str m) j p2] [] cpos)) none pos) (wRaise X.K x) := fun W xo => by
  refine ps_imp (ps_raise hc xo.tk (pmk_own PySem.F.excBase_ValueError D.q D.g D.k (raises_own D.b D.t) hg hdb)) ?_
  rintro Dn σ H ⟨F, env, c, DD, re, r, q, l⟩
  exact l.ex F env c σ H _ _ Le.rfl' re r q
theorem cs_try1 (hx : X.mg x = some (.ref (He.ga X.K x))) (hb : ∀ (pn : List (Addr × Obj)) (xe : Value → Shared → Prop), CSs GI (X.tr pn xe) body wb) (hs : ∀ (a : Addr) (oe : Obj) (pn : List (Addr × Obj)), CSs GI (X.suite a ((a, oe) :: pn)) (b₀ :: suite) ws)
    (hst : X.stack = X.env :: X.outer := by rfl) (hf : X.env.frame = some X.env.locals := by rfl) (hg : Gl X x := by rfl) (hdb : (x == ("__debug__" : Str)) = false := by decide) :
    CS GI X (.Try body [.ExceptHandler (some (.Name x np)) none (b₀ :: suite) pos'] [] [] pos) (wTry1 X.K x wb ws) := fun W xo => by
  refine ps_imp (ps_try_only (tb := fun W => lowS X.K GI W wb) (ts := fun a cls d => lowS X.K GI (fun _ _ _ _ => False) ws) hst hf ⟨hg, hdb, .inl hx⟩ xo.tk (fun W pn xe tk own => hb pn xe W ⟨xo.nd, tk, own⟩) fun a oe cls d pn _ _ => hs a oe pn _ ⟨xo.nd, L2.takes0, PassesOwn.never⟩) ?_
  rintro Dn σ H ⟨F, env, c, DD, re, r, q, l⟩
  refine ⟨F, env, c, _, re, r, q, ⟨l.nx, l.rt, l.bk, l.ct, ?_⟩⟩
  rintro F1 env1 c1 σ1 H1 cls od l1 re1 r1 ⟨b, e1, h1, h2⟩
  refine ⟨b, e1, fun hb a na => ?_, fun hb => l.ex F1 env1 c1 σ1 H1 cls od l1 re1 r1 (h2 hb)⟩
  exact ⟨F1, env1, c1, _, re1, r1, h1 hb, ⟨fun F2 e2 c2 s2 H2 l2 => l.nx F2 e2 c2 s2 H2 (l1.trans' l2), fun F2 c2 H2 v d l2 => l.rt F2 c2 H2 v d (l1.trans' l2), fun F2 e2 c2 s2 H2 l2 => l.bk F2 e2 c2 s2 H2 (l1.trans' l2), fun F2 e2 c2 s2 H2 l2 => l.ct F2 e2 c2 s2 H2 (l1.trans' l2), fun _ _ _ _ _ _ _ _ _ _ z => z.elim⟩⟩
end
section
variable {E : XD} {env env' : DEnv} {c c1 : CMap} {Q : DK} {DD : DEnds} {K : PySem.W.Frag} {x y : Str}
theorem wRaise_i (h : DD.ex (excV K x) none env c) : wRaise K x DD env c := h
theorem wTry1_i {b s : WS} (h : b { DD with ex := fun cls od env' c' => ∃ k, excM K y cls = some k ∧ (k = true → s { DD with ex := fun _ _ _ _ => False } env' c') ∧ (k = false → DD.ex cls od env' c') } env c) : wTry1 K y b s DD env c := h
theorem wNever_e {A : Prop} (h : wNever DD env c) : A := h.elim
/-- the clause that takes it -/
theorem exT {cls : Value} {A B : Prop} (h : excM K y cls = some true) (q : A) : ∃ k, excM K y cls = some k ∧ (k = true → A) ∧ (k = false → B) := ⟨true, h, fun _ => q, fun z => by cases z⟩
end
end DL
/-! the data layer: sorting, finding, greatest of data -/
namespace DL
open PySem PySem.Spec L2
open PyProof.Rows hiding St
/-- Python's order of data -/
noncomputable def leD (a b : D) : Bool := PySem.W.dataLe false toPy a b
theorem each_vals : ∀ {out : List Value} {bs : List (V × D)}, PySem.W.EachIs (fun u b => RelV b.1 u) out bs → Vals (bs.map (·.1)) out
  | _, _, .nil => .nil
  | _, _, .cons h t => .cons h (each_vals t)
theorem vals_each : ∀ {xs : List V} {us : List Value} {es : List D}, Vals xs us → xs.length = es.length → PySem.W.EachIs (fun u b => RelV b.1 u) us (xs.zip es)
  | [], _, [], .nil, _ => .nil
  | x :: xs, _, e :: es, .cons h t, hl => .cons h (vals_each t (by simpa using hl))
  | [], _, _ :: _, .nil, hl => by simp at hl
  | _ :: _, _, [], .cons _ _, hl => by simp at hl
theorem reads_each {X : Cx} {pins : List (Addr × Obj)} {σ : L2.St} {H : Hp} {s : Shared} (I : L2.Inv X pins σ H s) : ∀ {xs : List V} {us : List Value} {es : List D}, Vals xs us → DpAll X.K H xs (es.map toPy) → PySem.W.EachIs (fun u b => ∃ as, Reads s.heap u (toPy b.2) as) us (xs.zip es)
  | [], _, [], .nil, _ => .nil
  | x :: xs, _, e :: es, .cons h t, hd => by
    cases hd with
    | cons h1 h2 => exact .cons (Dp.reads I _ _ _ h1 h) (reads_each I t h2)
  | [], _, _ :: _, .nil, hd => by cases hd
  | _ :: _, _, [], .cons _ _, hd => by cases hd
theorem dpAll_len {K : PySem.W.Frag} {H : Hp} : ∀ {xs : List V} {ds : List PyData}, DpAll K H xs ds → xs.length = ds.length
  | _, _, .nil => rfl
  | _, _, .cons _ t => by simp [dpAll_len t]
theorem cr_sortedD {X : Cx} (hu : X.A.units + 64 < cLine) (hd0 : Room 0 X.A) : CallR X (.builtin "sorted") (fun vs H Q => ∃ (a : Addr) (xs : List V) (es : List D), vs = [.ref a] ∧ SqL X.K H a xs ∧ DpAll X.K H xs (es.map toPy) ∧ PySem.W.AllAlike (es.map toPy) ∧ PySem.W.Sortable (es.map toPy) ∧ (∀ e ∈ es, (toPy e).depth ≤ 60) ∧
    ∀ p, H p = none → Q (.ref p) (upd H p (.lst (((xs.zip es).mergeSort fun p q => leD p.2 q.2).map (·.1))))) := by
  intro pins s σ H vs us Q I r h
  obtain ⟨a, xs, es, rfl, hs, hD, hal, hk, hdp, q⟩ := h
  obtain ⟨u, rfl, ru⟩ := vals1 r
  cases (show u = Value.ref a from ru)
  obtain ⟨its, rv, p1, hz⟩ := I.list hs
  have hl : xs.length = es.length := by have := dpAll_len hD; simpa using this
  have hzl : (xs.zip es).length = xs.length := by rw [List.length_zip]; omega
  have em : (xs.zip es).map (fun b : V × D => toPy b.2) = es.map toPy := by
    have : (xs.zip es).map (fun b : V × D => b.2) = es := List.map_snd_zip (by omega)
    exact (List.map_map (l := xs.zip es) (f := fun b : V × D => b.2) (g := toPy)).symm.trans (by rw [this])
  refine PySem.W.sorted_data (β := V × D) (bs := xs.zip es) (enc := fun b => toPy b.2) (R := fun u b => RelV b.1 u) p1.isList (vals_each rv hl) (reads_each I rv hD) (by rw [em]; exact hal) (by rw [em]; exact hk) (by rw [hzl]; exact hz) (fun b hb => ?_) fun out ho he => ?_
  · have hb2 : b.2 ∈ es := (List.of_mem_zip (show (b.1, b.2) ∈ xs.zip es from hb)).2
    have := hdp _ hb2
    omega
  · have hv := each_vals he
    have eo : ((xs.zip es).mergeSort (PySem.W.dataLe false fun b : V × D => toPy b.2)) = (xs.zip es).mergeSort fun p q => leD p.2 q.2 := rfl
    rw [eo] at hv
    have hlen : (((xs.zip es).mergeSort fun p q => leD p.2 q.2).map (·.1)).length ≤ sizeLine := by rw [List.length_map, List.length_mergeSort, hzl]; exact (by simpa using hz)
    obtain ⟨ep, hat⟩ := PyProof.Rows.sortedAll_at s.heap its (List.toArray out)
    exact ⟨.ref (s.heap.objs.size + 1), _, I.laid (t' := s.toks) (o := .lst _) (fun b o e => PyProof.Rows.sortedAll_old e) (Nat.le_succ _) ⟨hlen, out, ep, hv, hat⟩, rfl, q _ (I.hok.fresh (Nat.le_succ _))⟩
def sortDR (m : Bool) : RDn := fun c ds Q => match ds with
  | [d] => match res c d with
    | .lst es => okDs es = true ∧ deps es ≤ 60 ∧ PySem.W.AllAlike (es.map toPy) ∧ PySem.W.Sortable (es.map toPy) ∧ newL m c (es.mergeSort leD) Q
    | _ => False
  | _ => False
theorem okDs_mem : ∀ {es : List D} {e : D}, okDs es = true → e ∈ es → okD e = true ∧ dep e ≤ deps es
  | x :: xs, e, h, hm => by
    simp only [okDs, Bool.and_eq_true] at h
    rcases List.mem_cons.mp hm with rfl | hm
    · exact ⟨h.1, by simp only [deps]; omega⟩
    · have := okDs_mem h.2 hm; exact ⟨this.1, by simp only [deps]; omega⟩
theorem toPys_map : ∀ es : List D, toPys es = es.map toPy
  | [] => rfl
  | e :: r => by simp only [toPys, List.map_cons, toPys_map r]
theorem dvs_zip {K : PySem.W.Frag} {F : Hp} : ∀ {xs : List V} {es : List D}, DVs K F xs es → ∀ p ∈ xs.zip es, DV K F p.1 p.2
  | _, _, .nil, p, h => by cases h
  | _, _, .cons h t, p, hp => by
    rcases List.mem_cons.mp hp with rfl | hp
    · exact h
    · exact dvs_zip t p hp
theorem zip_dvs {K : PySem.W.Frag} {F : Hp} : ∀ {l : List (V × D)}, (∀ p ∈ l, DV K F p.1 p.2) → DVs K F (l.map (·.1)) (l.map (·.2))
  | [], _ => .nil
  | p :: l, h => .cons (h p List.mem_cons_self) (zip_dvs fun q hq => h q (List.mem_cons_of_mem _ hq))
theorem sortD_snd {X : Cx} {GI : Hp → Hp → Prop} (m : Bool) : SndN X.K GI (fun vs H Q => ∃ (a : Addr) (xs : List V) (es : List D), vs = [.ref a] ∧ SqL X.K H a xs ∧ DpAll X.K H xs (es.map toPy) ∧ PySem.W.AllAlike (es.map toPy) ∧ PySem.W.Sortable (es.map toPy) ∧ (∀ e ∈ es, (toPy e).depth ≤ 60) ∧
    ∀ p, H p = none → Q (.ref p) (upd H p (.lst (((xs.zip es).mergeSort fun p q => leD p.2 q.2).map (·.1))))) (sortDR m) := by
  intro F H c vs ds Qd Q r h q k
  unfold sortDR at q
  split at q
  · obtain ⟨v, rfl, h0⟩ := h.inv1
    split at q
    · rename_i es e1
      obtain ⟨p, xs, rfl, g1, k1⟩ := res_lst r h0 e1
      obtain ⟨q1, q2, q3, q4, q5⟩ := q
      have hd := DVs.dp r.sub k1 q1
      rw [toPys_map] at hd
      refine ⟨p, xs, es, rfl, SqL.of g1, hd, q3, q4, fun e he => ?_, ?_⟩
      · obtain ⟨o1, o2⟩ := okDs_mem q1 he
        rw [dep_py e o1]; omega
      · have hz : DVs X.K F (((xs.zip es).mergeSort fun p q => leD p.2 q.2).map (·.1)) (((xs.zip es).mergeSort fun p q => leD p.2 q.2).map (·.2)) := zip_dvs fun p hp => dvs_zip k1 p (List.mem_mergeSort.mp hp)
        have e2 : ((xs.zip es).mergeSort fun p q => leD p.2 q.2).map (·.2) = es.mergeSort leD := by
          rw [List.map_mergeSort (s := leD) (fun _ _ _ _ => rfl), List.map_snd_zip (by have := k1.length; omega)]
        rw [e2] at hz
        exact newL_snd r hz q5 k
    · exact q.elim
  · exact q.elim
theorem ce_sortedD {GI : Hp → Hp → Prop} {X : Cx} {p pos : Pos} {e : Expr} {wr : WA} (m : Bool) (hr : Room 0 X.A) (hm : X.mg "sorted" = none) (ha : CA GI X [e] wr) (hg : Gl X "sorted" := by rfl) (he : starEach [e] X.env = (false, eval e X.env) :: starEach [] X.env := by rfl) (hpl : (backTo pos (starEach [] X.env)).any (·.1) = false := by rfl) :
    CE GI X (.Call (.Name "sorted" p) [e] [] pos) (wFn (sortDR m) wr) := ce_bfn (cr_sortedD hr.units hr) (sortD_snd m) hm ha (hg := hg) (he := he) (hpl := hpl)
/-! ### d in e, data within data -/
def plD (d : D) : Prop := okD d = true ∧ dep d ≤ 60
theorem plain_of {d : D} (h : okD d = true) : (toPy d).plain = true := PySem.PyData.plain_of_canLay0 _ (okD_can d h)
theorem any_dec {d : D} (hd : okD d = true) : ∀ {es : List D}, okDs es = true → (es.map toPy).any (fun y => PyData.eqv y (toPy d)) = decide (d ∈ es)
  | [], _ => by simp
  | e :: es, h => by
    simp only [okDs, Bool.and_eq_true] at h
    rw [List.map_cons, List.any_cons, any_dec hd h.2, eqv_dec h.1 hd]
    by_cases z : e = d
    · simp [z]
    · have z2 : ¬ d = e := fun q => z q.symm
      simp [z, z2]
def inDR (neg : Bool) : RD2 := fun c d e Q => match res c e with
  | .lst ds => okD (res c d) = true ∧ dep (res c d) ≤ 60 ∧ okDs ds = true ∧ deps ds ≤ 60 ∧ Q (.bl (neg ^^ decide (res c d ∈ ds))) c
  | .tup ds => okD (res c d) = true ∧ dep (res c d) ≤ 60 ∧ okDs ds = true ∧ deps ds ≤ 60 ∧ Q (.bl (neg ^^ decide (res c d ∈ ds))) c
  | _ => False
section
variable {GI : Hp → Hp → Prop} {X : Cx} {pos : Pos} {a b : Expr} {wa wb : WE}
def rInD (K : PySem.W.Frag) (neg : Bool) : R2 := fun x y H Q => ∃ (d : PyData) (ds : List PyData), Dp K H x d ∧ (Dp K H y (.list ds) ∨ Dp K H y (.tuple ds)) ∧ d.plain = true ∧ PyData.plainAll ds = true ∧ PyData.depthAll ds ≤ 60 ∧ Q (.bl (neg ^^ ds.any fun y => PyData.eqv y d)) H
theorem op_inDD (hu : X.A.units + 64 < cLine) : OpR X (compareOp .In) (rInD X.K false) := by
  intro pins s σ H x y v u Q I rx ry ⟨d, ds, h1, h2, h3, h4, h5, q⟩
  obtain ⟨as, r1⟩ := Dp.reads I _ _ _ h1 rx
  rw [Bool.false_xor] at q
  rcases h2 with h2 | h2
  · obtain ⟨bs, r2⟩ := Dp.reads I _ _ _ h2 ry
    exact PySem.SeqAt.in_list_data r2 r1 h4 h3 (by omega) ⟨.bl _, H, I, rfl, q⟩
  · obtain ⟨bs, r2⟩ := Dp.reads I _ _ _ h2 ry
    exact PySem.SeqAt.in_tuple_data r2 r1 h4 h3 (by omega) ⟨.bl _, H, I, rfl, q⟩
theorem op_niDD (hu : X.A.units + 64 < cLine) : OpR X (compareOp .NotIn) (rInD X.K true) := by
  intro pins s σ H x y v u Q I rx ry ⟨d, ds, h1, h2, h3, h4, h5, q⟩
  obtain ⟨as, r1⟩ := Dp.reads I _ _ _ h1 rx
  rw [Bool.true_xor] at q
  rcases h2 with h2 | h2
  · obtain ⟨bs, r2⟩ := Dp.reads I _ _ _ h2 ry
    exact PySem.SeqAt.notIn_list_data r2 r1 h4 h3 (by omega) ⟨.bl _, H, I, rfl, q⟩
  · obtain ⟨bs, r2⟩ := Dp.reads I _ _ _ h2 ry
    exact PySem.SeqAt.notIn_tuple_data r2 r1 h4 h3 (by omega) ⟨.bl _, H, I, rfl, q⟩
theorem plainAll_of {es : List D} (h : okDs es = true) : PyData.plainAll (es.map toPy) = true := by
  have := PySem.PyData.plainAll_of_canLay0 _ (okDs_can es h)
  rwa [toPys_map] at this
theorem inD_snd (neg : Bool) : Snd2 X.K GI (rInD X.K neg) (inDR neg) := by
  intro F H c v1 v2 d1 d2 Qd Q r h1 h2 q k
  unfold inDR at q
  split at q
  · rename_i ds e2
    obtain ⟨p, xs, rfl, g1, k1⟩ := res_lst r h2 e2
    obtain ⟨q1, q1', q2, q3, q4⟩ := q
    refine ⟨toPy (res c d1), ds.map toPy, res_dp r h1 rfl q1, .inl (.lst (SqL.of g1) (by have := DVs.dp r.sub k1 q2; rwa [toPys_map] at this)), plain_of q1, plainAll_of q2, by have := deps_py ds q2; rw [toPys_map] at this; omega, ?_⟩
    rw [any_dec q1 q2]
    exact k F c H _ _ Le.rfl' r (.bl _) q4
  · rename_i ds e2
    obtain rfl := res_oth e2 (by intro _ z; cases z)
    obtain ⟨p, xs, rfl, g1, k1⟩ := h2.tup_inv
    obtain ⟨q1, q1', q2, q3, q4⟩ := q
    refine ⟨toPy (res c d1), ds.map toPy, res_dp r h1 rfl q1, .inr (.tup (SqT.of (r.sub _ _ g1)) (by have := DVs.dp r.sub k1 q2; rwa [toPys_map] at this)), plain_of q1, plainAll_of q2, by have := deps_py ds q2; rw [toPys_map] at this; omega, ?_⟩
    rw [any_dec q1 q2]
    exact k F c H _ _ Le.rfl' r (.bl _) q4
  · exact q.elim
theorem ct_inD (hr : Room 0 X.A) (ha : CE GI X a wa) (hb : CE GI X b wb) (hm : behindInMarks .In b = false := by rfl) : CT GI X (.Compare a [.In] [b] pos) (wTst (wOp (inDR false) wa wb)) := ct_cmp (op_inDD hr.units) (inD_snd false) ha hb hm
theorem ct_niD (hr : Room 0 X.A) (ha : CE GI X a wa) (hb : CE GI X b wb) (hm : behindInMarks .NotIn b = false := by rfl) : CT GI X (.Compare a [.NotIn] [b] pos) (wTst (wOp (inDR true) wa wb)) := ct_cmp (op_niDD hr.units) (inD_snd true) ha hb hm
theorem ce_inD (hr : Room 0 X.A) (ha : CE GI X a wa) (hb : CE GI X b wb) (hm : behindInMarks .In b = false := by rfl) : CE GI X (.Compare a [.In] [b] pos) (wOp (inDR false) wa wb) := ce_cmp (op_inDD hr.units) (inD_snd false) ha hb hm
theorem ce_niD (hr : Room 0 X.A) (ha : CE GI X a wa) (hb : CE GI X b wb) (hm : behindInMarks .NotIn b = false := by rfl) : CE GI X (.Compare a [.NotIn] [b] pos) (wOp (inDR true) wa wb) := ce_cmp (op_niDD hr.units) (inD_snd true) ha hb hm
end
/-! ### xs.index(data) -/
def lixDR : RDm := fun c d ds Q => match ds with
  | [y] => match res c d with
    | .lst es => eqOk (res c y) ∧ okDs es = true ∧ deps es ≤ 60 ∧ ∃ j, es[j]? = some (res c y) ∧ (∀ m z, m < j → es[m]? = some z → z ≠ res c y) ∧ Q (.int (j : Nat)) c
    | _ => False
  | _ => False
theorem ce_lindexD {GI : Hp → Hp → Prop} {X : Cx} {o e : Expr} {wo : WE} {wr : WA} {apos cpos : Pos} (hr : Room 0 X.A) (ho : CE GI X o wo) (ha : CA GI X [e] wr)
    (hbase : attributeBase o "index" X.env (eval o X.env) = eval o X.env := by rfl)
    (hfew : ((backTo cpos (starEach [e] X.env)).all (fun x => !x.1) && (backToKw cpos (keywordEach [] X.env)).all (fun x => x.1.isSome) && decide (([e] : List Expr).length + ([] : List Keyword).length + (if ([] : List Keyword).isEmpty then 0 else 1) < 30)) = true := by rfl)
    (hline : (apos.endLine == cpos.line) = true := by rfl) (hs : starEach [e] X.env = (false, eval e X.env) :: starEach [] X.env := by rfl) (hplain : (backTo cpos (starEach [] X.env)).any (·.1) = false := by rfl) : CE GI X (.Call (.Attribute o "index" apos) [e] [] cpos) (wMt "list" lixDR wo wr) :=
  ce_bm PySem.F.plainAttrs_list PySem.F.slot_list_index PySem.F.type_list_index (mt_indexD (by have := hr.un; omega)) (fun F H c v d vs ds Qd Q r h1 h2 q k => by
    unfold lixDR at q
    split at q
    · obtain ⟨u, rfl, h3⟩ := h2.inv1
      split at q
      · rename_i es e1
        obtain ⟨p, xs, rfl, g1, k1⟩ := res_lst r h1 e1
        obtain ⟨b1, b2, b3, j, e2, b4, q2⟩ := q
        have hd := DVs.dp r.sub k1 b2
        rw [toPys_map] at hd
        have hl : eqOk (.lst es) := ⟨b2, by simp only [dep]; omega⟩
        have hsl := shaped_of hl
        simp only [toPy, toPys_map] at hsl
        refine ⟨p, u, toPy (res c _), es.map toPy, j, toPy (res c _), rfl, rfl, .lst (SqL.of g1) hd, res_dp r h3 rfl b1.1, hsl, shaped_of b1, by rw [List.getElem?_map, e2]; rfl, by rw [eqv_dec b1.1 b1.1]; simp, ?_, k F c H _ _ Le.rfl' r (.int _) q2⟩
        intro m z hm hz
        rw [List.getElem?_map] at hz
        cases g : es[m]? with
        | none => rw [g] at hz; cases hz
        | some w =>
          rw [g] at hz
          cases hz
          rw [eqv_dec (okDs_mem b2 (List.mem_of_getElem? g)).1 b1.1]
          exact decide_eq_false (b4 m w hm g)
      · exact q.elim
    · exact q.elim) ho ha hbase hfew hline hs hplain
/-! ### max(xs, default=i), min -/
def maxI (i : Int) (ns : List Int) : Int := match ns with
  | [] => i
  | n :: r => r.foldl max n
def maxDfR : List D → List D → CMap → DK → Prop := fun ds es c Q => match ds, es with
  | [d], [.int i] => match res c d with
    | .lst xs => ∃ ns, intsD xs = some ns ∧ Q (.int (maxI i ns)) c
    | _ => False
  | _, _ => False
def wMaxDf (r : WA) (e : WE) : WE := fun E env c Q => r E env c fun ds c1 => e E env c1 fun d c2 => maxDfR ds [d] c2 Q
theorem dp_ints {K : PySem.W.Frag} {H : Hp} : ∀ ns : List Int, DpAll K H (ns.map V.int) (ns.map .int)
  | [] => .nil
  | n :: r => .cons (.int n) (dp_ints r)
theorem cr_maxDf {X : Cx} (hc : X.calm = true) (hu : X.A.units + 64 < cLine) : CallRK X (.builtin "max") [Str.ofString "default"] (fun vs zs H Q => ∃ (a : Addr) (ns : List Int) (i : Int), vs = [.ref a] ∧ zs = [.int i] ∧ SqL X.K H a (ns.map V.int) ∧ Q (.int (maxI i ns)) H) := by
  intro pins s σ H vs zs us ws Q I r rz h
  obtain ⟨a, ns, i, rfl, rfl, hs, q⟩ := h
  obtain rfl := Vals.ref1 r
  obtain ⟨w1, rfl, e1⟩ := vals1 rz
  obtain ⟨t, rfl⟩ := e1
  obtain ⟨its, rv, p1, hz⟩ := I.list hs
  obtain ⟨as, hr⟩ := Dp.readsAll I _ _ _ (dp_ints ns) rv
  have hal : PySem.W.AlikeAll (ns.map PyData.int) := ⟨fun x hx y hy => by
    obtain ⟨n, _, rfl⟩ := List.mem_map.mp hx
    obtain ⟨m, _, rfl⟩ := List.mem_map.mp hy
    simp [PySem.W.alike], fun x hx => by
    obtain ⟨n, _, rfl⟩ := List.mem_map.mp hx
    intro z; cases z⟩
  refine PySem.W.max_list_default (I.ok.hd hc) p1.isList hr hal (by rw [PySem.W.depth_ints]; omega) (fun e h' tk hk => ?_) (fun y ys j v h' tk bs e ev rd hk => ?_)
  · have e2 : ns = [] := by cases ns with
      | nil => rfl
      | cons _ _ => simp at e
    subst e2
    exact ⟨.int i, H, I.kept (t' := tk) hk, ⟨t, rfl⟩, q⟩
  · cases ns with
    | nil => cases e
    | cons n r =>
      simp only [List.map_cons, List.cons.injEq] at e
      obtain ⟨rfl, rfl⟩ := e
      rw [PySem.W.maxD_ints] at rd
      cases rd
      exact ⟨.int (r.foldl max n), H, I.kept (t' := tk) hk, ⟨_, rfl⟩, q⟩
theorem ce_maxDf {GI : Hp → Hp → Prop} {X : Cx} {p pos kpos : Pos} {e f : Expr} {wr : WA} {we : WE} (hc : X.calm = true) (hr : Room 0 X.A) (hm : X.mg "max" = none) (ha : CA GI X [e] wr) (hf : CE GI X f we) (hg : Gl X "max" := by rfl)
    (he : backTo pos (starEach [e] X.env) = (false, eval e X.env) :: backTo pos (starEach [] X.env) := by rfl) (hpl : (backTo pos (starEach [e] X.env)).any (·.1) = false := by rfl)
    (hall : (backToKw pos (keywordEach [⟨some "default", f, kpos⟩] X.env)).all (·.1.isSome) = true := by rfl) (hnone : (backToKw pos (keywordEach [⟨some "default", f, kpos⟩] X.env)).any (·.1.isNone) = false := by rfl) (hks : (backToKw pos (keywordEach [⟨some "default", f, kpos⟩] X.env)).filterMap (·.1) = [Str.ofString "default"] := by rfl) :
    CE GI X (.Call (.Name "max" p) [e] [⟨some "default", f, kpos⟩] pos) (wMaxDf wr we) := fun W x => by
  refine pe_imp (pe_callBK (cr_maxDf hc hr.units) hg hm (by decide +kernel) (ha W x) (pk_cons (hf W x) pk_nil) (he := he) (hpl := hpl) (hall := hall) (hnone := hnone) (hks := hks)) ?_
  rintro σ H Q ⟨F, env, c, E, Qd, re, rp, lx, q, k⟩
  refine ⟨F, env, c, E, _, re, rp, lx, q, ?_⟩
  intro F1 c1 H1 vs ds l1 r1 h1 q1
  refine ⟨F1, env, c1, E, _, re.le l1, r1, lx.le l1, q1, ?_⟩
  intro F2 c2 H2 v d l2 r2 h2 q2
  match ds, d, q2, h1, h2 with
  | [d0], .int i, q2, h1, h2 =>
    obtain ⟨u, rfl, h3⟩ := h1.inv1
    unfold maxDfR at q2
    dsimp only at q2
    split at q2
    · rename_i e3
      obtain ⟨pp, xs, rfl, g1, k1⟩ := res_lst r2 (h3.le l2) e3
      obtain ⟨ns, e4, q3⟩ := q2
      obtain rfl := ints_V k1 e4
      exact ⟨pp, ns, i, rfl, by rw [h2.int_inv], SqL.of g1, k F2 c2 H2 _ _ (l1.trans' l2) r2 (.int _) q3⟩
    · exact q2.elim
/-! ### x is True -/
def isBR (neg : Bool) : RD2 := fun c d e Q => match e with
  | .bl b => ∃ a, d = .bl a ∧ Q (.bl (neg ^^ decide (a = b))) c
  | _ => False
section
variable {GI : Hp → Hp → Prop} {X : Cx} {pos : Pos} {a b : Expr} {wa wb : WE}
theorem isB_snd : Snd2 X.K GI rIsB (isBR false) := by
  intro F H c v1 v2 d1 d2 Qd Q r h1 h2 q k
  unfold isBR at q
  split at q
  · obtain ⟨x, rfl, q⟩ := q
    rw [Bool.false_xor] at q
    exact ⟨x, _, h1.bl_inv, h2.bl_inv, k F c H _ _ Le.rfl' r (.bl _) q⟩
  · exact q.elim
theorem notB_snd : Snd2 X.K GI rNotB (isBR true) := by
  intro F H c v1 v2 d1 d2 Qd Q r h1 h2 q k
  unfold isBR at q
  split at q
  · obtain ⟨x, rfl, q⟩ := q
    rw [Bool.true_xor] at q
    exact ⟨x, _, h1.bl_inv, h2.bl_inv, k F c H _ _ Le.rfl' r (.bl _) q⟩
  · exact q.elim
theorem ct_isB (ha : CE GI X a wa) (hb : CE GI X b wb) : CT GI X (.Compare a [.Is] [b] pos) (wTst (wOp (isBR false) wa wb)) := ct_cmp op_isBl isB_snd ha hb (nomark _)
theorem ce_isB (ha : CE GI X a wa) (hb : CE GI X b wb) : CE GI X (.Compare a [.Is] [b] pos) (wOp (isBR false) wa wb) := ce_cmp op_isBl isB_snd ha hb (nomark _)
theorem ct_isnotB (ha : CE GI X a wa) (hb : CE GI X b wb) : CT GI X (.Compare a [.IsNot] [b] pos) (wTst (wOp (isBR true) wa wb)) := ct_cmp op_notBl notB_snd ha hb (nomark _)
theorem ce_isnotB (ha : CE GI X a wa) (hb : CE GI X b wb) : CE GI X (.Compare a [.IsNot] [b] pos) (wOp (isBR true) wa wb) := ce_cmp op_notBl notB_snd ha hb (nomark _)
end
section
variable {E : XD} {env : DEnv} {c : CMap} {Q : DK} {d e d' : D} {ds es : List D} {n m : Bool}
theorem sortD_i (h : res c d = .lst es) (h1 : okDs es = true) (h2 : deps es ≤ 60) (h3 : PySem.W.AllAlike (es.map toPy)) (h4 : PySem.W.Sortable (es.map toPy)) (q : newL m c (es.mergeSort leD) Q) : sortDR m c [d] Q := by
  unfold sortDR; dsimp only; rw [h]; exact ⟨h1, h2, h3, h4, q⟩
theorem inD_l (h : res c e = .lst ds) (h0 : res c d = d') (h1 : okD d' = true) (h2 : dep d' ≤ 60) (h3 : okDs ds = true) (h4 : deps ds ≤ 60) (q : Q (.bl (n ^^ decide (d' ∈ ds))) c) : inDR n c d e Q := by
  unfold inDR; rw [h, h0]; exact ⟨h1, h2, h3, h4, q⟩
theorem lixD_l {y : D} {j : Nat} (h : res c d = .lst es) (h0 : res c y = d') (h1 : eqOk d') (h2 : okDs es = true) (h3 : deps es ≤ 60) (h4 : es[j]? = some d') (h5 : ∀ m z, m < j → es[m]? = some z → z ≠ d') (q : Q (.int (j : Nat)) c) : lixDR c d [y] Q := by
  unfold lixDR; dsimp only; rw [h, h0]; exact ⟨h1, h2, h3, j, h4, h5, q⟩
theorem wMaxDf_i {r : WA} {f : WE} (q : r E env c fun ds c1 => f E env c1 fun d c2 => maxDfR ds [d] c2 Q) : wMaxDf r f E env c Q := q
theorem maxDf_i {ns : List Int} {i : Int} (h : res c d = .lst es) (h1 : intsD es = some ns) (q : Q (.int (maxI i ns)) c) : maxDfR [d] [.int i] c Q := by
  unfold maxDfR; dsimp only; rw [h]; exact ⟨ns, h1, q⟩
theorem isB_i {a b : Bool} (q : Q (.bl (n ^^ decide (a = b))) c) : isBR n c (.bl a) (.bl b) Q := ⟨a, rfl, q⟩
end
end DL
/-! the data layer: a module's constant tuples and dicts -/
namespace DL
open PySem PySem.Spec L2
open PyProof.Rows hiding St
/-- what may stand in them -/
inductive Cv where
  | str (z : Str)
  | int (i : Int)
  | glo (g : Str)
def Cv.d (K : PySem.W.Frag) : Cv → D
  | .str z => .str z
  | .int i => .int i
  | .glo g => .ref (He.ga K g)
def Cv.v (K : PySem.W.Frag) : Cv → V
  | .str z => .str z
  | .int i => .int i
  | .glo g => .ref (He.ga K g)
def cvB (K : PySem.W.Frag) : Cv → Value → Bool
  | .str z, .str y _ => decide (y = z)
  | .int i, .int j _ => decide (j = i)
  | .glo g, .ref a => decide (a = He.ga K g)
  | _, _ => false
theorem cvB_ok {K : PySem.W.Frag} {x : Cv} {u : Value} (h : cvB K x u = true) : RelV (x.v K) u := by
  cases x <;> cases u <;> simp only [cvB, decide_eq_true_eq, Bool.false_eq_true] at h
  · subst h; exact ⟨_, rfl⟩
  · subst h; exact ⟨_, rfl⟩
  · subst h; rfl
theorem cv_dv {K : PySem.W.Frag} {F : Hp} (x : Cv) : DV K F (x.v K) (x.d K) := by
  cases x with
  | str z => exact .str z
  | int i => exact .int i
  | glo g => exact .ref _
def cvsB (K : PySem.W.Frag) : List Cv → List Value → Bool
  | [], [] => true
  | x :: xs, u :: us => cvB K x u && cvsB K xs us
  | _, _ => false
theorem cvsB_ok {K : PySem.W.Frag} : ∀ {xs : List Cv} {us : List Value}, cvsB K xs us = true → Vals (xs.map (Cv.v K)) us
  | [], [], _ => .nil
  | x :: xs, u :: us, h => by
    simp only [cvsB, Bool.and_eq_true] at h
    exact .cons (cvB_ok h.1) (cvsB_ok h.2)
  | [], _ :: _, h => by simp [cvsB] at h
  | _ :: _, [], h => by simp [cvsB] at h
theorem cvs_dv {K : PySem.W.Frag} {F : Hp} : ∀ xs : List Cv, DVs K F (xs.map (Cv.v K)) (xs.map (Cv.d K))
  | [] => .nil
  | x :: xs => .cons (cv_dv x) (cvs_dv xs)
/-- a constant tuple -/
def tupB (K : PySem.W.Frag) (x : Str) (xs : List Cv) : Bool := match K.lookup (He.ga K x) with
  | some ⟨.type c, _, .seq its _, _⟩ => decide (c = "tuple") && (decide (its.size ≤ 1000) && cvsB K xs its.toList)
  | _ => false
theorem tupB_ok {K : PySem.W.Frag} {x : Str} {xs : List Cv} (h : tupB K x xs = true) {H : Hp} : SqT K H (He.ga K x) (xs.map (Cv.v K)) := by
  unfold tupB at h
  split at h
  · rename_i c od its n sl e
    simp only [Bool.and_eq_true, decide_eq_true_eq] at h
    obtain ⟨rfl, h2, h3⟩ := h
    exact .inr ⟨_, its, n, e, rfl, rfl, len_le (by omega), cvsB_ok h3⟩
  · cases h
theorem glD_tup {K : PySem.W.Frag} {h : Heap} {fa : List He.Fa} {fn : List He.DefD} {x : Str} {xs : List Cv} (X : K.In h) (c : He.SaysD fa fn K) (j : Nat) (h2 : fa[j]? = some (.glo x)) (hb : tupB K x xs = true) (mg : Str → Option Value) (G : h.Ns mainGlobals mg) : GlD K mg x (.kt (xs.map (Cv.d K))) :=
  ⟨⟨.ref (He.ga K x), .ref (He.ga K x), PySem.W.mg_of X G (He.eqO_ok (c.fact j h2)), rfl, fun F => .kt (tupB_ok hb) (cvs_dv xs)⟩⟩
/-- a constant dict -/
structure TabD (K : PySem.W.Frag) (w : World) (mg : Str → Option Value) (x : Str) (T : List (Str × Cv)) : Prop where
  g : mg x = some (.ref (He.ga K x))
  at_ : ∀ q ∈ T, KDct K w (He.ga K x) q.1 (q.2.v K)
def dicB (K : PySem.W.Frag) (x : Str) (T : List (Str × Cv)) : Bool := T.all fun q => match PySem.W.nsIn K (He.ga K x) q.1 with
  | some (some u) => cvB K q.2 u
  | _ => false
theorem tabD_of {K : PySem.W.Frag} {w : World} {h : Heap} {fa : List He.Fa} {fn : List He.DefD} {x : Str} {T : List (Str × Cv)} (X : K.In h) (c : He.SaysD fa fn K) (j : Nat) (h2 : fa[j]? = some (.glo x)) (ht : ∃ es n, KDict K w (He.ga K x) es n) (hb : dicB K x T = true) (mg : Str → Option Value) (G : h.Ns mainGlobals mg) : TabD K w mg x T := by
  refine ⟨PySem.W.mg_of X G (He.eqO_ok (c.fact j h2)), fun q hq => ?_⟩
  obtain ⟨es, n, D⟩ := ht
  have h3 := List.all_eq_true.mp hb q hq
  split at h3
  · rename_i u e
    exact ⟨es, n, u, D.at_, D.lit, e, cvB_ok h3⟩
  · cases h3
def tabAt (T : List (Str × Cv)) (z : Str) : Option Cv := (T.find? fun q => decide (q.1 = z)).map (·.2)
def wTab (K : PySem.W.Frag) (T : List (Str × Cv)) (a : WE) : WE := fun E env c Q => a E env c fun d c1 => ∃ z x, d = .str z ∧ tabAt T z = some x ∧ Q (x.d K) c1
theorem ce_tab {GI : Hp → Hp → Prop} {X : Cx} {x : Str} {T : List (Str × Cv)} {np pos : Pos} {b : Expr} {wb : WE} (h : TabD X.K X.w X.mg x T) (hb : CE GI X b wb) (hs : PlainIx b := by exact fun _ _ => rfl) (hg : Gl X x := by rfl) (hd : (x == ("__debug__" : Str)) = false := by decide) :
    CE GI X (.Subscript (.Name x np) b pos) (wTab X.K T wb) := fun W xo => by
  refine pe_imp (pe_ix ix_kdict (pe_glob hg h.g (v := .ref (He.ga X.K x)) rfl hd) (hb W xo) hs) ?_
  rintro σ H Q ⟨F, env, c, E, Qd, re, rp, lx, q, k⟩
  refine ⟨F, env, c, E, _, re, rp, lx, q, ?_⟩
  rintro F1 c1 H1 v d l1 r1 h1 ⟨z, y, rfl, e, q1⟩
  unfold tabAt at e
  obtain ⟨p, e1, rfl⟩ := Option.map_eq_some_iff.mp e
  have e2 := List.find?_some e1
  have e3 : p.1 = z := of_decide_eq_true e2
  subst e3
  exact ⟨_, _, _, rfl, h1.str_inv, h.at_ p (List.mem_of_find?_eq_some e1), k F1 c1 H1 _ _ l1 r1 (cv_dv _) q1⟩
/-! ### str(x) of a whole number or a text -/
def strAR : RDn := fun c ds Q => match ds with
  | [.int i] => i.natAbs.log2 < 1920 ∧ Q (.str (toString i)) c
  | [.str z] => Q (.str z) c
  | _ => False
theorem ce_strA {GI : Hp → Hp → Prop} {X : Cx} {p pos : Pos} {e : Expr} {wr : WA} (hm : X.mg "str" = none) (ha : CA GI X [e] wr) (hg : Gl X "str" := by rfl) (he : starEach [e] X.env = (false, eval e X.env) :: starEach [] X.env := by rfl) (hpl : (backTo pos (starEach [] X.env)).any (·.1) = false := by rfl) :
    CE GI X (.Call (.Name "str" p) [e] [] pos) (wFn strAR wr) := ce_bcl (call_str_int.or SkE.call_str_str) (fun F H c vs ds Qd Q r h q k => by
  unfold strAR at q
  split at q
  · obtain ⟨v, rfl, h0⟩ := h.inv1
    exact .inl ⟨_, by rw [h0.int_inv], q.1, k F c H _ _ Le.rfl' r (.str _) q.2⟩
  · obtain ⟨v, rfl, h0⟩ := h.inv1
    exact .inr ⟨_, by rw [h0.str_inv], k F c H _ _ Le.rfl' r (.str _) q⟩
  · exact q.elim) hm ha (hg := hg) (he := he) (hpl := hpl)
theorem strA_i {c : CMap} {Q : DK} {i : Int} (h : i.natAbs.log2 < 1920) (q : Q (.str (toString i)) c) : strAR c [.int i] Q := ⟨h, q⟩
theorem strA_s {c : CMap} {Q : DK} {z : Str} (q : Q (.str z) c) : strAR c [.str z] Q := q
theorem wTab_i {E : XD} {env : DEnv} {c : CMap} {Q : DK} {K : PySem.W.Frag} {T : List (Str × Cv)} {a : WE} (q : a E env c fun d c1 => ∃ z x, d = .str z ∧ tabAt T z = some x ∧ Q (x.d K) c1) : wTab K T a E env c Q := q
/-! ### a top with text keys: hashing asks the world for one rule; by cases on its word -/
def wset (w : World) (b : Bool) : World := ⟨w.draws, { w.params with followText := fun s => match decide (s = "special-get-raises") with | true => b | false => w.params.followText s }⟩
theorem wset_eq (w : World) : w = wset w (w.params.followText "special-get-raises") := by
  obtain ⟨d, P⟩ := w
  unfold wset
  have e : P.followText = fun s => match decide (s = "special-get-raises") with | true => P.followText "special-get-raises" | false => P.followText s := by
    funext s
    by_cases h : s = "special-get-raises"
    · subst h; simp
    · simp [h]
  show World.mk d P = ⟨d, { P with followText := _ }⟩
  rw [← e]
theorem by_wset {p : World → Prop} (h1 : ∀ w, p (wset w true)) (h2 : ∀ w, p (wset w false)) (w : World) : p w := by
  rw [wset_eq w]
  cases w.params.followText "special-get-raises"
  · exact h2 w
  · exact h1 w
end DL
/-! the data layer: tests of texts that stand there; what a name holds, resolved -/
namespace DL
open PySem PySem.Spec L2
open PyProof.Rows hiding St
theorem lits_flat (ss : List Str) : (ss.map D.str).all flatD = true := by simp [flatD]
theorem lit_mem {x : Str} {ss : List Str} : D.str x ∈ ss.map D.str ↔ x ∈ ss := by simp [List.mem_map]
theorem eq_lit {c : CMap} {Q : DK} {n : Bool} {x y : Str} (r : Bool) (o : (PyData.strOk x && PyData.strOk y) = true) (h : (n ^^ decide (x = y)) = r) (q : Q (.bl r) c) : eqR n c (.str x) (.str y) Q := by
  simp only [Bool.and_eq_true] at o
  refine eq_dd (d' := .str x) (e' := .str y) rfl rfl ⟨o.1, Nat.zero_le _⟩ ⟨o.2, Nat.zero_le _⟩ ?_
  have e : decide (D.str x = D.str y) = decide (x = y) := decide_eq_decide.mpr ⟨fun z => by injection z, fun z => by rw [z]⟩
  rw [e, h]; exact q
theorem in_lit {c : CMap} {Q : DK} {n : Bool} {x : Str} (ys : List Str) (r : Bool) (h : (n ^^ decide (x ∈ ys)) = r) (q : Q (.bl r) c) : inR n c (.str x) (.tup (ys.map D.str)) Q := by
  refine in_t rfl (lits_flat ys) ?_
  have e : decide (D.str x ∈ ys.map D.str) = decide (x ∈ ys) := decide_eq_decide.mpr lit_mem
  rw [e, h]; exact q
theorem in_litk {c : CMap} {Q : DK} {n : Bool} {x : Str} (ys : List Str) (r : Bool) (h : (n ^^ decide (x ∈ ys)) = r) (q : Q (.bl r) c) : inR n c (.str x) (.kt (ys.map D.str)) Q := by
  refine in_k rfl (lits_flat ys) ?_
  have e : decide (D.str x ∈ ys.map D.str) = decide (x ∈ ys) := decide_eq_decide.mpr lit_mem
  rw [e, h]; exact q
theorem join_c {c : CMap} {Q : DK} {a : Str} {ys : List Str} {f : Addr} (hc : c f = some (.lst (ys.map D.str))) (h2 : (ys.map (·.length)).sum + ys.length * a.length ≤ 16777216) (q : Q (.str (Txt.join a ys)) c) : joinR c (.str a) [.ref f] Q := by
  show (match res c (.ref f) with | .lst es => _ | _ => False)
  rw [res_c hc]
  exact ⟨ys, rfl, h2, q⟩

theorem res_ref {c : CMap} {d : D} {ds : List D} (h : res c d = .lst ds) : d = .lst ds ∨ ∃ p, d = .ref p ∧ c p = some (.lst ds) := by
  cases d with
  | ref p =>
    right
    rcases resAt_cases (c p) p with ⟨es, e1, e2⟩ | e2
    · have q : D.lst es = .lst ds := e2.symm.trans h
      injection q with q
      subst q
      exact ⟨p, rfl, e1⟩
    · have q : D.ref p = .lst ds := e2.symm.trans h
      cases q
  | _ => exact .inl h
theorem ix_res {c : CMap} {Q : DK} {d x : D} {ds : List D} {i : Int} (h : res c d = .lst ds) (h2 : atI ds i = some x) (q : Q x c) : idxR c d (.int i) Q := by
  rcases res_ref h with rfl | ⟨p, rfl, e⟩
  · exact ix_l h2 q
  · exact ix_c e h2 q
theorem add_res {c : CMap} {Q : DK} {m : Bool} {d e : D} {a b : List D} (h : res c d = .lst a) (h2 : res c e = .lst b) (l : a.length + b.length ≤ 16777216) (q : newL m c (a ++ b) Q) : addR m c d e Q := by
  unfold addR
  rw [h, h2]
  exact ⟨len_le l, q⟩
end DL
/-! the data layer: a name that holds a def out of a table, called -/
namespace DL
open PySem PySem.Spec L2
open PyProof.Rows hiding St
/-- the defs of a table, each with what it promises -/
def TabF (GI : Hp → Hp → Prop) (P : Program) (w : World) (K : PySem.W.Frag) (mg : Str → Option Value) (base : Heap) (k : Nat) : List (Str × DSpec) → Prop
  | [] => True
  | (x, sp) :: r => ((∃ n, HasG GI P w K mg base k x n sp) ∧ mg x = some (.ref (He.ga K x))) ∧ TabF GI P w K mg base k r
def spAt (T : List (Str × DSpec)) (z : Str) : Option DSpec := (T.find? fun q => decide (q.1 = z)).map (·.2)
theorem tabF_at {GI : Hp → Hp → Prop} {P : Program} {w : World} {K : PySem.W.Frag} {mg : Str → Option Value} {base : Heap} {k : Nat} {z : Str} {sp : DSpec} : ∀ {T : List (Str × DSpec)}, TabF GI P w K mg base k T → spAt T z = some sp → ∃ n, FnD GI P w K mg base k (He.ga K z) n sp
  | [], _, h => by simp [spAt] at h
  | (x, s) :: r, ⟨⟨⟨n, f, h1, h2⟩, h3⟩, hr⟩, h => by
    unfold spAt at h
    rw [List.find?_cons] at h
    by_cases e : x = z
    · subst e
      simp at h
      subst h
      rw [h3] at h1
      cases h1
      exact ⟨n, h2⟩
    · rw [show decide ((x, s).1 = z) = false from decide_eq_false e] at h
      exact tabF_at hr h
theorem DefAt.mgA {K : PySem.W.Frag} {h : Heap} {mg : Str → Option Value} {x qual : Str} {st : Stmt} {f : Addr} {fd : FuncData} (D : DefAt K x qual st f fd) (X : K.In h) (G : h.Ns mainGlobals mg) : mg x = some (.ref (He.ga K x)) := by
  have e : He.ga K x = f := by
    unfold He.ga
    rw [D.ns]
  rw [e]
  exact PySem.W.mg_of X G D.ns
def wCallT (K : PySem.W.Frag) (T : List (Str × DSpec)) (i : Nat) (r : WA) : WE := fun E env c Q => ∃ z sp, getE env i = some (.ref (He.ga K z)) ∧ spAt T z = some sp ∧ r E env c fun ds c1 => sp ds c1 E Q
section
variable {GI : Hp → Hp → Prop} {X : Cx} {x : Str} {p pos : Pos} {e : Expr} {es : List Expr} {wr : WA} {k : Nat} {T : List (Str × DSpec)}
theorem ce_callT (i : Nat) (hT : TabF GI X.prog X.w X.K X.mg X.base k T) (hr : Room k X.A) (ha : CA GI X (e :: es) wr) (hN : X.N[i]? = some x := by rfl) (hv : Vis X.env.scope x := by first | exact Or.inl rfl | exact Or.inr (.inl rfl) | exact Or.inr (.inr rfl))
    (hd : (x == ("__debug__" : Str)) = false := by decide) (hcd : (x == ("__classdict__" : Str)) = false := by decide)
    (he : starEach (e :: es) X.env = (false, eval e X.env) :: starEach es X.env := by rfl) (hpl : (backTo pos (starEach es X.env)).any (·.1) = false := by rfl) : CE GI X (.Call (.Name x p) (e :: es) [] pos) (wCallT X.K T i wr) := fun W xo => by
  refine ⟨fun pins s σ H Q I h => ?_⟩
  obtain ⟨F, env, c, E, Qd, re, rp, lx, q, kk⟩ := h
  obtain ⟨z, sp, hd1, hf, q⟩ := q
  obtain ⟨n, ⟨fd, ps, hl, kp, b, G⟩⟩ := tabF_at hT hf
  obtain ⟨v, hs, hv1⟩ := re.val i (.ref (He.ga X.K z)) (getE_at hd1)
  obtain rfl := hv1.ref_inv
  refine wpAny_Call_Name_kw (thn ((pe_var (pos := p) hN hv hd hcd).run pins s σ H (fun v H1 => v = .ref (He.ga X.K z) ∧ H1 = H) I ⟨.ref (He.ga X.K z), hs, rfl, rfl⟩) fun u s1 ⟨v, H1, I1, r1, q1⟩ => ?_)
  obtain ⟨ev, eH⟩ := q1
  subst ev
  rw [eH] at I1
  obtain rfl : u = Value.ref (He.ga X.K z) := r1
  refine PySem.W.callWith_K (h₀ := X.base) I1.ok.mod.kin kp (thn ((ha W xo).run pos pins s1 σ H (fun vs H2 => ∃ F2 ds c2, Le F F2 ∧ Rep X.K GI F2 c2 H2 ∧ DVs X.K F2 vs ds ∧ sp ds c2 E Qd) I1 ⟨F, env, c, E, _, re, rp, lx, q, fun F' c' H' vs ds l r' h' q' => ⟨F', ds, c', l, r', h', q'⟩⟩) fun us s2 ⟨vs, H2, I2, r, F2, ds, c2, l2, rp2, hds, q2⟩ => ⟨I2.kIn, ?_⟩) he hpl
  exact run_fnS G hr b (passAt xo.tk σ) I2 r ⟨F2, ds, c2, E, Qd, hds, rp2, q2, kk.le l2, fun F' c' H' cls od l' r' hE => lx F' c' H' cls od (l2.trans' l') r' hE⟩
end
theorem wCallT_i {E : XD} {env : DEnv} {c : CMap} {Q : DK} {K : PySem.W.Frag} {T : List (Str × DSpec)} {i : Nat} {r : WA} {z : Str} {sp : DSpec} (h : getE env i = some (.ref (He.ga K z))) (h2 : spAt T z = some sp) (q : r E env c fun ds c1 => sp ds c1 E Q) : wCallT K T i r E env c Q := ⟨z, sp, h, h2, q⟩
end DL
/-! the data layer: sorted(set(xs)), xs a list of whole numbers -/
namespace SX
open PySem PySem.Spec PyProof.Rows L2
section
variable {P : Program} {w : World} {A : Around} {E : Value → Shared → Prop} {s : Shared}
/-- an empty set, laid behind all -/
abbrev mtO (w : World) : Obj := { cls := .type "set", dict := none, data := .set #[] 0 (.fresh 0 0 (!w.params.followText "set-order")) }
abbrev mtH (w : World) (h : Heap) : Heap := h.push (mtO w)
theorem mt_at (h : Heap) : (mtH w h).get? h.objs.size = some (mtO w) := Heap.get?_push_size _ rfl
abbrev itL (l : Addr) : Obj := { cls := .type "list_iterator", data := .fields #[.ref l, .int 0 0] }
abbrev Full (w : World) (s : Shared) (ns : List Int) (s2 : Shared) : Prop := ∃ h' tk c, s2 = { s with heap := h', toks := tk } ∧ SetR w h' s.heap.objs.size (fun j => decide (j ∈ ns)) c ∧ c ≤ ns.length ∧ ∀ b o, s.heap.get? b = some o → h'.get? b = some o
theorem vals_ints {its : Array Value} {ns : List Int} (hi : IntsAre its.toList ns) (hz : its.size = ns.length) : ∀ (i : Nat) (v : Value), its[i]? = some v → ∃ k t, ns[i]? = some k ∧ v = .int k t := by
  intro i v e
  have lt : i < ns.length := by rw [← hz]; exact (Array.getElem?_eq_some_iff.mp e).1
  obtain ⟨t, e2⟩ := IntsAre.int_at hi i v (by rw [Array.getElem?_toList]; exact e)
  exact ⟨ns[i], t, List.getElem?_eq_getElem lt, by rw [e2, List.getD_eq_getElem?_getD, List.getElem?_eq_getElem lt]; rfl⟩
set_option maxHeartbeats 8000000 in
theorem call_setL {l : Addr} {its : Array Value} (ns : List Int) {Q : Value → Shared → Prop} (hh : A.handled = none) (hl : s.heap.IsList l its) (hi : IntsAre its.toList ns) (hb : ns.length + 1 < scanBound)
    (h : ∀ s2, Full w s ns s2 → Q (.ref s.heap.objs.size) s2) : wpAny (model P w) A (call (.type "set") [.ref l]) Q E s := by
  have sz : its.size = ns.length := by have q := IntsAre.length hi; rwa [Array.length_toList] at q
  obtain ⟨c0, t0, m0⟩ := F.called_set.mro
  have m1 := F.called_set.made
  have m2 := F.called_set.sub
  refine wpAny_call (codeAny_of_tree (wpAny_pure ⟨Code.quiet_builtin _ (by decide +kernel), codeAny_builtin F.entry_type_call ?_⟩))
  rw [Around.under_plain (weight_type_call_type "set" [.ref l] []) rfl]
  have m3 := F.called_set.notType
  have m4 := F.called_set.canCreate
  have m5 := F.typeCall_set_1 (.ref l)
  repeat (any_goals (first | assumption | wp_step))
  refine codeAny_mono (code_set_led1 (.ref l) (E := E) (Q₁ := fun o z => o = .ref s.heap.objs.size ∧ z = { s with heap := mtH w s.heap }) ⟨rfl, rfl⟩) fun r z hr => ?_
  cases r with
  | error e => exact hr
  | ok fl =>
    cases fl with
    | ret o =>
      obtain ⟨rfl, rfl⟩ := hr
      have ty : Shared.TypeIs { s with heap := mtH w s.heap } (.ref s.heap.objs.size) "set" := ⟨_, mt_at _, rfl⟩
      have i1 := F.called_set.init.lookup
      have i2 := F.called_set.init.bind (.ref s.heap.objs.size)
      repeat (any_goals (first | assumption | wp_step))
      refine codeAny_mono (codeAny_call_builtin (R := wants (fun v z => v = .none ∧ Full w s ns z) E) F.called_set.init.plain F.entry_set_init (check_set_init_1 ty ?_)) fun r2 z2 hr2 => ?_
      · obtain ⟨⟨oc, od, dt, sl⟩, h1, h2, n, h3⟩ := hl
        simp only at h2 h3
        subst h2; subst h3
        have at1 : (mtH w s.heap).get? l = some ⟨.type "list", od, .seq its n, sl⟩ := Heap.get?_push_of_some _ h1
        have n1 := F.sub_list_set
        have n2 := F.sub_list_frozenset
        have n3 : (Value.type "list" == Value.type "dict") = false := by decide
        have il : (mtH w s.heap).IsList l its := ⟨_, at1, rfl, n, rfl⟩
        unfold Builtin.«set.__init__» noKeywords Builtin.Frozenset.updateFrom
        generalize hPI : pyIter = PI
        wp_walk
        subst hPI
        refine wpAny_pyIter_list il (wpAny_bind (wpAny_runValue ?_))
        have lt : l < s.heap.objs.size := Heap.lt_size h1
        have sz1 : (mtH w s.heap).objs.size = s.heap.objs.size + 1 := Heap.size_push _ _
        have ne1 : l ≠ (mtH w s.heap).objs.size := fun q => by rw [q, sz1] at lt; exact Nat.not_succ_lt_self lt
        have ne2 : s.heap.objs.size ∉ [(mtH w s.heap).objs.size, l] := by
          intro q
          rw [sz1] at q
          rcases List.mem_cons.mp q with q | q
          · exact absurd q (Nat.ne_of_lt (Nat.lt_succ_self _))
          · exact absurd (List.mem_singleton.mp q) (Nat.ne_of_gt lt)
        have WL := Walks.list (prog := P) (w := w) (A := A.in1.in1.in1) (by simp [hh]) (mtH w s.heap).objs.size l ne1 its
        refine set_update_ints WL.toS s.heap.objs.size ne2 ns sz hb (vals_ints hi sz) (its.size - 0) 0 _ (by omega) (Nat.zero_le _) ⟨⟨_, Heap.get?_push_size _ rfl, rfl, rfl⟩, il.push _⟩ ⟨0, Nat.le_refl 0, setR_new_at (Heap.get?_push_of_some (itL l) (mt_at s.heap))⟩ ?_
        rintro ⟨h', g2, d', tk', os'⟩ c' hm hc' hS'
        have q1 : g2 = s.gens := hm.gens
        have q2 : d' = s.drawn := hm.drawn
        have q3 : os' = s.os := hm.os
        subst q1; subst q2; subst q3
        refine wpAny_pure (wpAny_pure ⟨rfl, h', tk', c', rfl, hS', by rw [← sz]; exact hc', fun b o e => ?_⟩)
        have b0 : b < s.heap.objs.size := Heap.lt_size e
        refine hm.heap b o (fun q => ?_) (Heap.get?_push_of_some _ (Heap.get?_push_of_some _ e))
        rcases List.mem_cons.mp q with q | q
        · exact absurd q (Nat.ne_of_lt b0)
        · have q := List.mem_singleton.mp q
          rw [sz1] at q
          rw [q] at b0
          exact Nat.not_succ_lt_self b0
      · cases r2 with
        | error e => exact hr2
        | ok fl =>
          cases fl with
          | ret v =>
            obtain ⟨rfl, F2⟩ := hr2
            have F2' := F2
            obtain ⟨h', tk, c', rfl, _⟩ := F2
            repeat (any_goals (first | assumption | wp_step))
            exact h _ F2'
          | _ => exact hr2.elim
    | _ => exact hr.elim
end
end SX
namespace DL
open PySem PySem.Spec L2
open PyProof.Rows hiding St
/-- what sorted(set(..)) of whole numbers gives: those that are there, rising -/
def tSorSet (K : PySem.W.Frag) (ta : TE) : TE := fun σ H Q => ta σ H fun x H1 => ∃ (l : Addr) (ns : List Int), x = .ref l ∧ SqL K H1 l (ns.map V.int) ∧ ns.length < 64 ∧ ∀ (ms : List Int) p, ms.Pairwise (· < ·) → (∀ k, k ∈ ms ↔ k ∈ ns) → H1 p = none → Q (.ref p) (upd H1 p (.lst (ms.map V.int)))
theorem pe_sorSet {X : Cx} {a : Expr} {ta : TE} {p p2 q pos : Pos} (hc : X.calm = true) (hm : X.mg "sorted" = none) (hm2 : X.mg "set" = none) (ha : PE X a ta) (hg : Gl X "sorted" := by rfl) (hg2 : Gl X "set" := by rfl)
    (na : starEach [a] X.env = (false, eval a X.env) :: starEach [] X.env := by rfl) : PE X (.Call (.Name "sorted" p) [.Call (.Name "set" p2) [a] [] q] [] pos) (tSorSet X.K ta) := by
  refine ⟨fun pins s σ H Q I h => ?_⟩
  have b1 : bootBuiltins ("sorted" : Str) = some (.builtin "sorted") := by decide +kernel
  have b2 : bootBuiltins ("set" : Str) = some (.type "set") := by decide +kernel
  refine Call_ (ld_blt I hg hm b1 ?_)
  refine PyProof.Rows.callWith_builtin1 (PyProof.Rows.args_cons ?_ rfl) rfl rfl
  refine Call_ (ld_blt I hg2 hm2 b2 ?_)
  refine PyProof.Rows.callWith_type1 (PyProof.Rows.args_cons (thn (ha.run pins s σ H _ I h) fun v s1 ⟨x, H1, I1, r1, q1⟩ => PyProof.Rows.args_nil ?_) na) na rfl
  obtain ⟨l, ns, rfl, hq, hl, q1⟩ := q1
  cases r1
  obtain ⟨its, r, pl, hz⟩ := I1.list hq
  refine SX.call_setL ns (I1.ok.hd hc) pl.isList (by simpa using RZ.intsAre_vals r) (by unfold scanBound; omega) fun s2 hF => ?_
  obtain ⟨h', tk, c', rfl, R, hc', hk⟩ := hF
  refine PyProof.Rows.args_nil ?_
  have I2 : Inv X pins σ H1 { s1 with heap := h', toks := tk } := I1.kept hk
  have key : ∀ s2 : Shared, SetR X.w s2.heap s1.heap.objs.size (fun j => decide (j ∈ ns)) c' → Inv X pins σ H1 s2 → wpAny (model X.prog X.w) X.A (call (.builtin "sorted") [.ref s1.heap.objs.size]) (EP X pins σ Q) X.xe s2 := by
    intro s2 R2 J2
    refine sorted_set R2 (J2.ok.hd hc) (by omega) fun s' p out cc ms k g o hp hg2 hi hs hm3 hl3 => ?_
    have e : s' = { s2 with heap := s'.heap, gens := s'.gens, drawn := s'.drawn, toks := s'.toks } := by
      cases s'; cases s2; cases o; rfl
    have hlen : (ms.map V.int).length ≤ sizeLine := by rw [List.length_map, hl3, sizeLine_eq]; omega
    have hn : H1 p = none := J2.hok.fresh hp
    have J : Inv X pins σ (upd H1 p (.lst (ms.map V.int))) { s2 with heap := s'.heap, gens := s'.gens, drawn := s'.drawn, toks := s'.toks } :=
      J2.call (ch := []) (Un.laid k hp hn) (J2.hok.laid k hp ⟨hlen, out.toList, cc, vals_of_ints hi, hg2⟩) (by rw [g]; exact J2.bare) (fun _ z => nomatch z)
    rw [e]
    exact ⟨.ref p, _, J, rfl, q1 ms p hs (fun k => by rw [hm3 k]; exact decide_eq_true_iff) hn⟩
  exact key _ R I2
def sorSetR (m : Bool) (d : D) (c : CMap) (Q : DK) : Prop := ∃ ns : List Int, res c d = .lst (ns.map D.int) ∧ ns.length < 64 ∧ ∀ ms : List Int, ms.Pairwise (· < ·) → (∀ k, k ∈ ms ↔ k ∈ ns) → newL m c (ms.map D.int) Q
def wSorSet (m : Bool) (a : WE) : WE := fun E env c Q => a E env c fun d c1 => sorSetR m d c1 Q
theorem ce_sorSet {GI : Hp → Hp → Prop} {X : Cx} {a : Expr} {wa : WE} {p p2 q pos : Pos} (m : Bool) (hc : X.calm = true) (hm : X.mg "sorted" = none) (hm2 : X.mg "set" = none) (ha : CE GI X a wa) (hg : Gl X "sorted" := by rfl) (hg2 : Gl X "set" := by rfl)
    (na : starEach [a] X.env = (false, eval a X.env) :: starEach [] X.env := by rfl) : CE GI X (.Call (.Name "sorted" p) [.Call (.Name "set" p2) [a] [] q] [] pos) (wSorSet m wa) := fun W x => by
  refine pe_imp (pe_sorSet hc hm hm2 (ha W x) (hg := hg) (hg2 := hg2) (na := na)) ?_
  rintro σ H Q ⟨F, env, c, E, Qd, re, rp, lx, q, k⟩
  refine ⟨F, env, c, E, _, re, rp, lx, q, ?_⟩
  rintro F1 c1 H1 v d l1 r1 h1 ⟨ns, e1, e2, q1⟩
  obtain ⟨l, xs, rfl, g1, k1⟩ := res_lst r1 h1 e1
  obtain rfl := ints_V k1 (intsD_map ns)
  exact ⟨l, ns, rfl, SqL.of g1, e2, fun ms p m1 m2 hp => newL_snd r1 DVs.ints (q1 ms m1 m2) (k.le l1) p hp⟩
theorem wSorSet_i {E : XD} {env : DEnv} {c : CMap} {Q : DK} {m : Bool} {a : WE} (h : a E env c fun d c1 => sorSetR m d c1 Q) : wSorSet m a E env c Q := h
end DL
/-! the data layer: range(a, b, -1) -/
namespace DL
open PySem PySem.Spec L2
open PyProof.Rows hiding St
theorem rangeSize_neg (a b : Int) : Builtin.Range.rangeSize a b (-1) = if b < a then a - b else 0 := by
  unfold Builtin.Range.rangeSize
  simp only [show ¬ ((-1 : Int) > 0) by decide, if_false, Int.neg_neg, Int.ediv_one]
  split <;> omega
theorem small_neg {a b : Int} (ha : -1000000 ≤ a) (ha' : a < 1000000) (hb : -1000000 ≤ b) (hb' : b < 1000000) : Builtin.Range.small a b (-1) = true := by
  unfold Builtin.Range.small
  rw [rangeSize_neg]
  simp only [Builtin.Range.rangeFitsLong, Bool.and_eq_true, Bool.or_eq_true, decide_eq_true_eq, beq_iff_eq, show ¬ ((-1 : Int) > 0) by decide, if_false]
  split <;> omega
def downto (a : Int) (n : Nat) : List Int := (List.range n).map fun (i : Nat) => a - (i : Int)
def ItrD (lo : Int) (n : Nat) : It := ⟨fun i _ => i < n, fun i H x H' => H' = H ∧ x = .int (lo - i), fun i _ => n ≤ i⟩
theorem turn_down {P : Program} {w : World} {K : PySem.W.Frag} {tg : Expr} (it : Addr) (lo : Int) (n : Nat) : Turn P w K tg (ItrD lo n) [it] it (fun i h => IsRangeIter h it (lo + (i : Nat) * (-1)) ((n : Int) - (i : Nat)) (-1)) where
  mem := by simp
  obj := fun i h st b hb => by
    have e : b = it := by simpa using hb
    subst e
    exact ⟨_, st, fun v z => by
      have z' : Data.fields _ = Data.cell v := z
      cases z'⟩
  keep := fun i h h' st k => k it (by simp) _ st
  item := by
    intro X hP hw hK hc i pins s σ H E I hf st hg
    subst hP hw hK
    obtain ⟨f0, f1, f2, f3, f4, f5⟩ := hf it (by simp)
    have W := Walks.range (prog := X.prog) (w := X.w) (I.ok.hd hc) it lo (-1) n
    refine W.item i s _ _ hg st fun v h' tk hv st' kk => ?_
    obtain ⟨t, rfl⟩ := hv
    have I1 : Inv X pins σ H { s with heap := h', toks := tk } := I.turned (fun b o hb e => kk b o (by simpa using hb) e) f0 f1 f3 f4 f5
    refine ⟨_, rfl, go_of (s := { s with heap := h', toks := tk }) (n := "range_iterator") st' rfl rfl (by decide) ⟨.int (lo - i), H, I1, ⟨t, ?_⟩, ⟨rfl, rfl⟩, st', fun b hb => (hf b hb).1⟩⟩
    rw [show (i : Int) * (-1) = -(i : Int) by omega]
    rfl
  done := by
    intro X hP hw hK hc i pins s σ H E I hf st hg
    subst hP hw hK
    obtain ⟨f0, f1, f2, f3, f4, f5⟩ := hf it (by simp)
    exact wpAny_pyNext_range_end (I.ok.hd hc) st (by have : n ≤ i := hg; omega) fun h' eb => ⟨rfl, I.turned (t' := s.toks) (fun b o hb e => eb b o hb e) f0 f1 f3 f4 f5⟩
  self := fun _ _ _ _ _ st h => wpAny_pyIter_rangeiter st h
section
variable {X : Cx} {tg : Expr}
theorem down_it {pins : List (Addr × Obj)} {σ : St} {H : Hp} {s : Shared} {R : It → Hp → Prop} {E : Value → Shared → Prop} {lo hi : Int} {t u v : Tok} {tk : Nat} (I : Inv X pins σ H s) (h1 : -1000000 ≤ lo) (h2 : lo < 1000000) (h3 : -1000000 ≤ hi) (h4 : hi < 1000000)
    (q : R (ItrD lo (lo - hi).toNat) H) : wpAny (model X.prog X.w) X.A (pyIter (.ref s.heap.objs.size)) (PIE X pins σ tg R) E { s with heap := s.heap.push { cls := .type "range", data := .fields #[.int lo t, .int hi u, .int (-1) v] }, toks := tk } := by
  refine wpAny_pyIter_range (IsRange.new ..) (small_neg h1 h2 h3 h4) ?_
  have I1 : Inv X pins σ H { s with heap := s.heap.push { cls := .type "range", data := .fields #[.int lo t, .int hi u, .int (-1) v] }, toks := tk } := I.kept fun b o e => Heap.get?_push_of_some _ e
  refine ⟨(s.heap.push { cls := .type "range", data := .fields #[.int lo t, .int hi u, .int (-1) v] }).objs.size, [(s.heap.push { cls := .type "range", data := .fields #[.int lo t, .int hi u, .int (-1) v] }).objs.size], _, _, H, rfl,
    I1.kept (t' := tk) fun b o e => Heap.get?_push_of_some _ e, turn_down _ lo (lo - hi).toNat, ?_, fun b hb => ?_, q⟩
  · have e1 : lo + ((0 : Nat) : Int) * (-1) = lo := by simp
    have e2 : (((lo - hi).toNat : Nat) : Int) - ((0 : Nat) : Int) = Builtin.Range.rangeSize lo hi (-1) := by rw [rangeSize_neg]; split <;> omega
    show IsRangeIter _ _ (lo + ((0 : Nat) : Int) * (-1)) ((((lo - hi).toNat : Nat) : Int) - ((0 : Nat) : Int)) (-1)
    rw [e1, e2]
    exact Heap.get?_push_size _ rfl
  · have e : b = (s.heap.push { cls := .type "range", data := .fields #[.int lo t, .int hi u, .int (-1) v] }).objs.size := by simpa using hb
    subst e
    exact I1.fpOk (Nat.le_refl _) (I1.hok.fresh (Nat.le_refl _))
def iDown (ta : TA) : TI := fun σ H R => ta σ H fun vs H1 => ∃ i j : Int, vs = [.int i, .int j, .int (-1)] ∧ (-1000000 ≤ i ∧ i < 1000000 ∧ -1000000 ≤ j ∧ j < 1000000) ∧ R (ItrD i (i - j).toNat) H1
theorem pi_down {a b d : Expr} {ta : TA} {p pos : Pos} (hg : Gl X "range") (hm : X.mg "range" = none) (ha : PA X [a, b, d] ta) (hs : starEach [a, b, d] X.env = [(false, eval a X.env), (false, eval b X.env), (false, eval d X.env)] := by rfl) (hs2 : starEach [b, d] X.env = [(false, eval b X.env), (false, eval d X.env)] := by rfl) :
    PI X tg (.Call (.Name "range" p) [a, b, d] [] pos) (iDown ta) := by
  refine ⟨fun pins s σ H R I h => ?_⟩
  refine Call_ (ld_blt I hg hm boot_range (PyProof.Rows.callWith_type1 (thn (ha.run pos pins s σ H _ I h) fun us s1 ⟨vs, H1, I1, r1, q1⟩ => ?_) (by rw [hs, hs2]) (by rw [hs2]; rfl)))
  obtain ⟨i, j, e, ⟨q1, q2, q3, q4⟩, q⟩ := q1
  subst e
  cases r1 with
  | cons r rr =>
    cases rr with
    | cons r' rr =>
      cases rr with
      | cons r'' rr =>
        cases rr
        obtain ⟨t, rfl⟩ := r
        obtain ⟨t', rfl⟩ := r'
        obtain ⟨t'', rfl⟩ := r''
        exact PySem.call_range_3 (by decide) (down_it I1 q1 q2 q3 q4 q) (Or.inl (PyProof.noPylong_small (by omega)))
end
theorem diter_down {K : PySem.W.Frag} {GI : Hp → Hp → Prop} {F : Hp} (lo : Int) (n : Nat) : DIter K GI (ItrD lo n) ((downto lo n).map D.int) noG F := by
  intro F1 c H i l r _
  refine ⟨fun d e => ?_, fun e => ?_⟩
  · unfold downto at e
    rw [List.map_map, List.getElem?_map] at e
    cases g : (List.range n)[i]? with
    | none => rw [g] at e; cases e
    | some k =>
      rw [g] at e
      simp only [Option.map_some, Option.some.injEq] at e
      obtain ⟨g1, g2⟩ := List.getElem?_eq_some_iff.mp g
      rw [List.getElem_range] at g2
      subst g2 e
      refine ⟨by show i < n; simpa using g1, ?_⟩
      rintro x H' ⟨rfl, rfl⟩
      exact ⟨F1, Le.rfl', r, .int _⟩
  · show n ≤ i
    simpa [downto] using e
section
variable {GI : Hp → Hp → Prop} {X : Cx} {tg e : Expr} {wa : WE} {wr : WA} {p pos : Pos}
def rgR3 (ds : List D) (c : CMap) (N : List D → (CMap → Prop) → CMap → Prop) : Prop := match ds with
  | [.int a, .int b, .int s] => s = -1 ∧ -1000000 ≤ a ∧ a < 1000000 ∧ -1000000 ≤ b ∧ b < 1000000 ∧ N ((downto a (a - b).toNat).map D.int) noG c
  | _ => False
def wRg3 (r : WA) : WI := fun E env c Q => r E env c fun ds c1 => rgR3 ds c1 Q
theorem ci_range3 {a b d : Expr} (hm : X.mg "range" = none) (ha : CA GI X [a, b, d] wr) (hg : Gl X "range" := by rfl) (hs : starEach [a, b, d] X.env = [(false, eval a X.env), (false, eval b X.env), (false, eval d X.env)] := by rfl) (hs2 : starEach [b, d] X.env = [(false, eval b X.env), (false, eval d X.env)] := by rfl) :
    CI GI X tg (.Call (.Name "range" p) [a, b, d] [] pos) (wRg3 wr) := fun W x => by
  refine pi_imp (pi_down hg hm (ha W x) hs hs2) ?_
  rintro σ H R ⟨F, env, c, E, Qd, re, r, lx, q, k⟩
  refine ⟨F, env, c, E, _, re, r, lx, q, ?_⟩
  intro F1 c1 H1 vs ds l1 r1 h1 q1
  unfold rgR3 at q1
  split at q1
  · obtain ⟨rfl, q1⟩ := q1
    cases h1 with
    | cons h2 h1 =>
      obtain ⟨v, u, rfl, h3, h4⟩ := h1.inv2
      exact ⟨_, _, by rw [h2.int_inv, h3.int_inv, h4.int_inv], ⟨q1.1, q1.2.1, q1.2.2.1, q1.2.2.2.1⟩, k F1 c1 H1 _ _ _ l1 r1 (diter_down _ _) q1.2.2.2.2⟩
  · exact q1.elim
theorem wRg3_i {E : XD} {env : DEnv} {c : CMap} {r : WA} {N : List D → (CMap → Prop) → CMap → Prop} (h : r E env c fun ds c1 => rgR3 ds c1 N) : wRg3 r E env c N := h
theorem rg3_i {c : CMap} {a b : Int} {N : List D → (CMap → Prop) → CMap → Prop} (h1 : -1000000 ≤ a) (h2 : a < 1000000) (h3 : -1000000 ≤ b) (h4 : b < 1000000) (q : N ((downto a (a - b).toNat).map D.int) noG c) : rgR3 [.int a, .int b, .int (-1)] c N := ⟨rfl, h1, h2, h3, h4, q⟩
end
end DL
namespace DL
open PySem PySem.Spec L2
open PyProof.Rows hiding St
def b_law_bag : WS :=
  (wSeq (wAsg 1 (wC (.int 1)))
  (wSeq (wFor (wIt (wVar 0)) (gNm 2) (wAsg 1 (wOp (modR) (wOp (addR false) (wOp (addR false) (wOp (mulR false) (wVar 1) (wC (.int 1000003))) (wOp (modR) (wVar 2) (wC (.int 2305843009213693951)))) (wC (.int 1))) (wC (.int 2305843009213693951)))))
  (wRet (wLst true (wCons (wFn (listR false) (wCons (wVar 0) wNil)) (wCons (wC (.int 0)) (wCons (wC (.int 0)) (wCons (wC (.int 0)) (wCons (wVar 1) wNil)))))))))

def b_law_stir : WS :=
  (wSeq (wAsg 2 (wOp (modR) (wOp (addR false) (wOp (addR false) (wOp (mulR false) (wVar 0) (wC (.int 998244353))) (wOp (mulR false) (wVar 1) (wC (.int 1000000007)))) (wC (.int 5))) (wC (.int 2305843009213693951))))
  (wSeq (wAsg 3 (wOp (modR) (wOp (mulR false) (wVar 2) (wVar 2)) (wC (.int 2305843009213693951))))
  (wRet (wOp (fdivR) (wOp (modR) (wOp (addR false) (wOp (addR false) (wOp (mulR false) (wVar 3) (wC (.int 2860486313))) (wOp (mulR false) (wOp (mulR false) (wVar 1) (wVar 1)) (wC (.int 48271)))) (wOp (fdivR) (wVar 2) (wC (.int 3)))) (wC (.int 2305843009213693921))) (wC (.int 1024))))))

def b_law_draw (s_law_stir : DSpec) : WS :=
  (wSeq (wIf (wTst (wOp (eqR false) (wVar 1) (wC (.int 1)))) (wRet (wC (.int 0))) wSkip)
  (wSeq (wSet (wVar 0) (wC (.int 3)) (wOp (addR false) (wOp idxR (wVar 0) (wC (.int 3))) (wC (.int 1))))
  (wSeq (wIf (wAnd (wTst (wOp (ltA) (wOp idxR (wVar 0) (wC (.int 2))) (wC (.int 2)))) (wTst (wOp (eqR false) (wOp idxR (wVar 0) (wC (.int 1))) (wFn lenR (wCons (wOp idxR (wVar 0) (wC (.int 0))) wNil))))) (wRet (wOp (modR) (wCall s_law_stir (wCons (wOp idxR (wVar 0) (wC (.int 4))) (wCons (wOp idxR (wVar 0) (wC (.int 3))) wNil))) (wVar 1))) wSkip)
  (wSeq (wIf (wTst (wOp (ltA) (wOp idxR (wVar 0) (wC (.int 2))) (wC (.int 2)))) (wSeq (wAsg 2 (wOp idxR (wOp idxR (wVar 0) (wC (.int 0))) (wOp idxR (wVar 0) (wC (.int 1)))))
  (wSeq (wSet (wVar 0) (wC (.int 1)) (wOp (addR false) (wOp idxR (wVar 0) (wC (.int 1))) (wC (.int 1))))
  (wSeq (wIf (wTst (wOp (ltA) (wVar 2) (wOp (powR) (wC (.int 10)) (wC (.int 18))))) (wRet (wOp (modR) (wCall s_law_stir (wCons (wOp (modR) (wVar 2) (wC (.int 2305843009213693951))) (wCons (wOp idxR (wVar 0) (wC (.int 3))) wNil))) (wVar 1))) wSkip)
  (wSet (wVar 0) (wC (.int 2)) (wOp (subR) (wVar 2) (wOp (powR) (wC (.int 10)) (wC (.int 18)))))))) wSkip)
  (wSeq (wAsg 3 (wOp (modR) (wOp idxR (wVar 0) (wC (.int 2))) (wVar 1)))
  (wSeq (wSet (wVar 0) (wC (.int 2)) (wOp (fdivR) (wOp idxR (wVar 0) (wC (.int 2))) (wVar 1)))
  (wRet (wVar 3))))))))

def b_law_marks (s_law_draw : DSpec) : WS :=
  (wRet (wOp idxR (wLst false (wCons (wCall s_law_draw (wCons (wVar 0) (wCons (wC (.int 4)) wNil))) (wCons (wC (.int 2)) (wCons (wC (.int 3)) (wCons (wCall s_law_draw (wCons (wVar 0) (wCons (wC (.int 4)) wNil))) (wCons (wC (.int 2)) (wCons (wC (.int 3)) (wCons (wC (.int 1)) (wCons (wCall s_law_draw (wCons (wVar 0) (wCons (wC (.int 7)) wNil))) wNil))))))))) (wCall s_law_draw (wCons (wVar 0) (wCons (wC (.int 8)) wNil)))))

def b_law_words_6 (s_law_draw : DSpec) : WS :=
  (wRet (wComp false (wRg1 (wCons (wVar 1) wNil)) (gNm 5) wYes (wMt "list" popR (wVar 7) (wCons (wCall s_law_draw (wCons (wVar 0) (wCons (wFn lenR (wCons (wVar 7) wNil)) wNil))) wNil)) [5]))
def b_law_words (s_law_draw : DSpec) : WS :=
  (wSeq (wAsg 2 (wC (.str "abcdefghijklmnopqrstuvwxyz")))
  (wSeq (wAsg 3 (wCall s_law_draw (wCons (wVar 0) (wCons (wC (.int 5)) wNil))))
  (wSeq (wAsg 4 (wOp (addR false) (wOp idxR (wC (.str "jkqvxz")) (wCall s_law_draw (wCons (wVar 0) (wCons (wC (.int 6)) wNil)))) (wMt "str" joinR (wC (.str "")) (wCons (wComp false (wRg1 (wCons (wCall s_law_draw (wCons (wVar 0) (wCons (wC (.int 7)) wNil))) wNil)) (gNm 5) wYes (wOp idxR (wVar 2) (wCall s_law_draw (wCons (wVar 0) (wCons (wC (.int 26)) wNil)))) [5]) wNil))))
  (wSeq (wAsg 6 (wCall s_law_draw (wCons (wVar 0) (wCons (wOp (addR false) (wFn lenR (wCons (wVar 4) wNil)) (wC (.int 1))) wNil))))
  (wSeq (wAsg 7 (wComp true (wIt (wVar 2)) (gNm 8) wYes (wOp (addR false) (wOp (addR false) (wSl false (wVar 4) wNo (wSome (wVar 6))) (wVar 8)) (wSl false (wVar 4) (wSome (wVar 6)) wNo)) [8]))
  (wSeq (wIf (wAnd (wTst (wOp (ltA) (wVar 1) (wC (.int 9)))) (wTst (wOp (gtA) (wVar 3) (wC (.int 0))))) (wSeq (wAsg 9 (wOp (addR false) (wVar 4) (wC (.str "abcdefgh"))))
  (wSeq (wAsg 10 (wOp (addR false) (wC (.str "abcdefg")) (wOp idxR (wVar 4) (wC (.int 0)))))
  (wSeq (wAsg 11 (wLst true (wCons (wC (.str "a")) (wCons (wC (.str "b")) (wCons (wC (.str "c")) (wCons (wC (.str "names")) (wCons (wC (.str "letters")) (wCons (wC (.str "said")) (wCons (wC (.str "box")) (wCons (wC (.str "whom")) (wCons (wC (.str "ab")) (wCons (wC (.str "abc")) (wCons (wOp (addR false) (wSl false (wVar 4) (wSome (wC (.int 1))) wNo) (wC (.str "q"))) wNil)))))))))))))
  (wSeq (wAsg 7 (wLst true (wCons (wComp true (wRg1 (wCons (wC (.int 8)) wNil)) (gNm 5) wYes (wSl false (wVar 9) wNo (wSome (wOp (addR false) (wVar 5) (wC (.int 1))))) [5]) (wCons (wComp true (wRg1 (wCons (wC (.int 8)) wNil)) (gNm 5) wYes (wSl3 false (wVar 9) (wSome (wVar 5)) wNo (wSome (wNeg (wC (.int 1))))) [5]) wNil))))
  (wAsg 7 (wOp idxR (wOp (addR false) (wVar 7) (wLst false (wCons (wComp true (wRg1 (wCons (wC (.int 8)) wNil)) (gNm 5) wYes (wOp (addR false) (wSl false (wVar 10) (wSome (wVar 5)) wNo) (wSl false (wVar 10) wNo (wSome (wVar 5)))) [5]) (wCons (wVar 11) wNil)))) (wOp (subR) (wVar 3) (wC (.int 1))))))))) wSkip)
  (b_law_words_6 s_law_draw)))))))

def b_law_names (s_law_draw s_law_words : DSpec) : WS :=
  (wRet (wCall s_law_words (wCons (wVar 0) (wCons (wOp (addR false) (wC (.int 2)) (wCall s_law_draw (wCons (wVar 0) (wCons (wOp idxR (wLst false (wCons (wC (.int 3)) (wCons (wC (.int 3)) (wCons (wC (.int 3)) (wCons (wC (.int 23)) wNil))))) (wCall s_law_draw (wCons (wVar 0) (wCons (wC (.int 4)) wNil)))) wNil)))) wNil))))

def b_law_plain (s_law_draw : DSpec) : WS :=
  (wSeq (wAsg 2 (wCall s_law_draw (wCons (wVar 0) (wCons (wC (.int 4)) wNil))))
  (wSeq (wIf (wTst (wOp (eqR false) (wVar 2) (wC (.int 0)))) (wRet (wTup (wCons (wC (.str "number")) (wCons (wOp idxR (wLst false (wCons (wCall s_law_draw (wCons (wVar 0) (wCons (wC (.int 10)) wNil))) (wCons (wCall s_law_draw (wCons (wVar 0) (wCons (wC (.int 1000)) wNil))) wNil))) (wCall s_law_draw (wCons (wVar 0) (wCons (wC (.int 2)) wNil)))) wNil)))) wSkip)
  (wSeq (wIf (wTst (wOp (eqR false) (wVar 2) (wC (.int 1)))) (wRet (wTup (wCons (wC (.str "name")) (wCons (wC (.str "who")) wNil)))) wSkip)
  (wRet (wTup (wCons (wC (.str "name")) (wCons (wOp idxR (wVar 1) (wCall s_law_draw (wCons (wVar 0) (wCons (wFn lenR (wCons (wVar 1) wNil)) wNil)))) wNil)))))))

def b_law_e (s_law_draw s_law_plain : DSpec) : WS :=
  (wSeq (wAsg 2 (wCall s_law_draw (wCons (wVar 0) (wCons (wC (.int 5)) wNil))))
  (wSeq (wAsg 3 (wCall s_law_plain (wCons (wVar 0) (wCons (wVar 1) wNil))))
  (wSeq (wIf (wTst (wOp (ltA) (wVar 2) (wC (.int 3)))) (wRet (wVar 3)) wSkip)
  (wRet (wTup (wCons (wOp idxR (wC (.str "+-*")) (wCall s_law_draw (wCons (wVar 0) (wCons (wC (.int 3)) wNil)))) (wCons (wVar 3) (wCons (wCall s_law_plain (wCons (wVar 0) (wCons (wVar 1) wNil))) wNil))))))))

def b_law_rule (s_law_draw s_law_e : DSpec) : WS :=
  (wRet (wTup (wCons (wOp idxR (wC (.str "=<")) (wCall s_law_draw (wCons (wVar 0) (wCons (wC (.int 2)) wNil)))) (wCons (wCall s_law_e (wCons (wVar 0) (wCons (wVar 1) wNil))) (wCons (wCall s_law_e (wCons (wVar 0) (wCons (wVar 1) wNil))) wNil)))))

def b_law_least (s_law_least : DSpec) : WS :=
  (wSeq (wIf (wTst (wOp (eqR false) (wVar 1) (wLst false wNil))) (wRet (wOp idxR (wVar 0) (wC (.int 0)))) wSkip)
  (wSeq (wAsg 2 (wCall s_law_least (wCons (wSl3 false (wVar 0) (wSome (wC (.int 1))) wNo (wSome (wC (.int 2)))) (wCons (wSl false (wVar 1) (wSome (wC (.int 1))) wNo) wNil))))
  (wSeq (wAsg 3 (wCall s_law_least (wCons (wSl3 false (wVar 0) wNo wNo (wSome (wC (.int 2)))) (wCons (wSl false (wVar 1) (wSome (wC (.int 1))) wNo) wNil))))
  (wSeq (wIf (wTst (wOp (eqR false) (wVar 2) (wVar 3))) (wRet (wVar 2)) wSkip)
  (wRet (wTup (wCons (wC (.str "face")) (wCons (wOp idxR (wVar 1) (wC (.int 0))) (wCons (wVar 2) (wCons (wVar 3) wNil))))))))))

def b_law_worth (s_law_draw s_law_least : DSpec) : WS :=
  (wSeq (wAsg 2 (wOp idxR (wLst false (wCons (wC (.int 2)) (wCons (wC (.int 4)) (wCons (wC (.int 4)) (wCons (wC (.int 1000)) wNil))))) (wCall s_law_draw (wCons (wVar 0) (wCons (wC (.int 4)) wNil)))))
  (wSeq (wAsg 3 (wComp false (wRg1 (wCons (wVar 1) wNil)) (gNm 4) (wTst (wOp (eqR false) (wCall s_law_draw (wCons (wVar 0) (wCons (wC (.int 2)) wNil))) (wC (.int 1)))) (wVar 4) [4]))
  (wRet (wCall s_law_least (wCons (wComp false (wRg1 (wCons (wOp (shlR) (wC (.int 1)) (wFn lenR (wCons (wVar 3) wNil))) wNil)) (gNm 5) wYes (wCall s_law_draw (wCons (wVar 0) (wCons (wVar 2) wNil))) [5]) (wCons (wVar 3) wNil))))))

def b_law_some_boxes (s_law_worth : DSpec) : WS :=
  (wSeq (wAsg 3 (wLst true wNil))
  (wSeq (wFor (wIt (wFn (sortR false) (wCons (wVar 1) wNil))) (gNm 4) (wSeq (wAsg 5 (wCall s_law_worth (wCons (wVar 0) (wCons (wVar 2) wNil))))
  (wIf (wTst (wOp (eqR true) (wVar 5) (wC (.int 0)))) (wDrop (wMt "list" appR (wVar 3) (wCons (wTup (wCons (wVar 4) (wCons (wVar 5) wNil))) wNil))) wSkip)))
  (wRet (wFrz (wVar 3)))))

def b_seen_by : WS :=
  (wSeq (wWhile (wTst (wFn isiR (wCons (wVar 0) (wCons (wC (.ty "tuple")) wNil)))) (wSeq (wAsgG (gTp 4 (gCn (gNm 2) (gCn (gNm 3) (gCn (gNm 4) (gCn (gNm 5) gNl))))) (wVar 0))
  (wAsg 0 (wIfE (wTst (wOp (inR false) (wVar 3) (wVar 1))) (wVar 4) (wVar 5)))))
  (wRet (wVar 0)))

def b_named_for (s_seen_by : DSpec) : WS :=
  (wSeq (wAsg 3 (wFn dictPR (wCons (wComp false (wIt (wVar 0)) (gTp 2 (gCn (gNm 4) (gCn (gNm 5) gNl))) wYes (wTup (wCons (wVar 4) (wCons (wCall s_seen_by (wCons (wVar 5) (wCons (wVar 2) wNil))) wNil))) [4, 5]) wNil)))
  (wSeq (wSet (wVar 3) (wC (.str "who")) (wVar 1))
  (wRet (wVar 3))))

def b_added : WS :=
  (wRet (wOp (addR false) (wVar 0) (wVar 1)))

def b_lessened : WS :=
  (wRet (wOp (subR) (wVar 0) (wVar 1)))

def b_multiplied : WS :=
  (wRet (wOp (mulR false) (wVar 0) (wVar 1)))

def b_number_of (K : PySem.W.Frag) (s_number_of s_added s_lessened s_multiplied : DSpec) : WS :=
  (wSeq (wIf (wTst (wOp (eqR false) (wOp idxR (wVar 0) (wC (.int 0))) (wC (.str "number")))) (wRet (wOp idxR (wVar 0) (wC (.int 1)))) wSkip)
  (wSeq (wIf (wTst (wOp (eqR false) (wOp idxR (wVar 0) (wC (.int 0))) (wC (.str "name")))) (wRet (wGet2 (wVar 1) (wOp idxR (wVar 0) (wC (.int 1))) (wC (.int 0)))) wSkip)
  (wSeq (wAsg 2 (wTab K [("+", .glo "added"), ("-", .glo "lessened"), ("*", .glo "multiplied")] (wOp idxR (wVar 0) (wC (.int 0)))))
  (wRet (wOp (modR) (wCallT K [("added", s_added), ("lessened", s_lessened), ("multiplied", s_multiplied)] 2 (wCons (wCall s_number_of (wCons (wOp idxR (wVar 0) (wC (.int 1))) (wCons (wVar 1) wNil))) (wCons (wCall s_number_of (wCons (wOp idxR (wVar 0) (wC (.int 2))) (wCons (wVar 1) wNil))) wNil))) (wC (.int 1000)))))))

def b_rule_holds (s_named_for s_number_of : DSpec) : WS :=
  (wSeq (wAsgG (gTp 3 (gCn (gNm 4) (gCn (gNm 5) (gCn (gNm 6) gNl)))) (wVar 0))
  (wSeq (wAsg 7 (wCall s_named_for (wCons (wVar 1) (wCons (wVar 2) (wCons (wVar 3) wNil)))))
  (wSeq (wAsg 8 (wCall s_number_of (wCons (wVar 5) (wCons (wVar 7) wNil))))
  (wSeq (wAsg 9 (wCall s_number_of (wCons (wVar 6) (wCons (wVar 7) wNil))))
  (wRet (wIfE (wTst (wOp (eqR false) (wVar 4) (wC (.str "=")))) (wOp (eqR false) (wVar 8) (wVar 9)) (wOp (ltA) (wVar 8) (wVar 9))))))))

def b_law_by_numbers (s_seen_by s_rule_holds : DSpec) : WS :=
  (wSeq (wAsg 4 (wComp false (wIt (wVar 1)) (gTp 2 (gCn (gNm 5) (gCn (gNm 6) gNl))) wYes (wTup (wCons (wVar 5) (wCons (wCall s_seen_by (wCons (wVar 6) (wCons (wVar 3) wNil))) wNil))) [5, 6]))
  (wSeq (wAsg 4 (wComp false (wIt (wVar 4)) (gNm 7) (wTst (wOp (eqR true) (wOp idxR (wVar 7) (wC (.int 1))) (wC (.int 0)))) (wVar 7) [7]))
  (wSeq (wFor (wIt (wVar 0)) (gNm 8) (wIf (wTst (wOp (eqR true) (wCall s_rule_holds (wCons (wVar 8) (wCons (wVar 1) (wCons (wVar 2) (wCons (wVar 3) wNil))))) (wCall s_rule_holds (wCons (wVar 8) (wCons (wVar 4) (wCons (wVar 2) (wCons (wLst false wNil) wNil))))))) (wRet (wC (.bl false))) wSkip))
  (wRet (wC (.bl true))))))

def b_law_seen : WS :=
  (wSeq (wWhile (wNot (wTst (wFn isiR (wCons (wVar 0) (wCons (wC (.ty "int")) wNil))))) (wAsg 0 (wOp idxR (wVar 0) (wOp (addR false) (wC (.int 2)) (wFn intR (wCons (wOp (inR true) (wOp idxR (wVar 0) (wC (.int 1))) (wVar 1)) wNil))))))
  (wRet (wVar 0)))

def b_law_faced (s_law_seen s_law_least : DSpec) : WS :=
  (wSeq (wAsg 3 (wLst true wNil))
  (wSeq (wFor (wRg1 (wCons (wC (.int 64)) wNil)) (gNm 4) (wSeq (wAsg 5 (wComp false (wRg1 (wCons (wC (.int 6)) wNil)) (gNm 6) (wTst (wOp (eqR false) (wOp (bandR) (wOp (shrR) (wVar 4) (wVar 6)) (wC (.int 1))) (wC (.int 1)))) (wVar 6) [6]))
  (wDrop (wMt "list" appR (wVar 3) (wCons (wCall s_law_seen (wCons (wOp idxR (wLst false (wCons (wVar 2) (wCons (wVar 1) wNil))) (wFn intR (wCons (wOp (inR false) (wVar 0) (wVar 5)) wNil))) (wCons (wVar 5) wNil))) wNil)))))
  (wRet (wCall s_law_least (wCons (wFrz (wVar 3)) (wCons (wLst false (wCons (wC (.int 0)) (wCons (wC (.int 1)) (wCons (wC (.int 2)) (wCons (wC (.int 3)) (wCons (wC (.int 4)) (wCons (wC (.int 5)) wNil))))))) wNil))))))

def b_law_others_changed (s_law_worth s_law_faced : DSpec) : WS :=
  (wSeq (wAsg 3 (wLst true wNil))
  (wSeq (wFor (wIt (wVar 1)) (gTp 2 (gCn (gNm 4) (gCn (gNm 5) gNl))) (wSeq (wAsg 6 (wCall s_law_worth (wCons (wVar 0) (wCons (wC (.int 6)) wNil))))
  (wSeq (wAsg 7 (wVar 5))
  (wSeq (wFor (wRg3 (wCons (wC (.int 5)) (wCons (wNeg (wC (.int 1))) (wCons (wNeg (wC (.int 1))) wNil)))) (gNm 8) (wIf (wTst (wOp (inR false) (wVar 8) (wVar 2))) (wAsg 7 (wCall s_law_faced (wCons (wVar 8) (wCons (wVar 7) (wCons (wVar 6) wNil))))) (wAsg 7 (wCall s_law_faced (wCons (wVar 8) (wCons (wVar 6) (wCons (wVar 7) wNil)))))))
  (wDrop (wMt "list" appR (wVar 3) (wCons (wTup (wCons (wVar 4) (wCons (wVar 7) wNil))) wNil)))))))
  (wRet (wComp false (wIt (wVar 3)) (gNm 9) (wTst (wOp (eqR true) (wOp idxR (wVar 9) (wC (.int 1))) (wC (.int 0)))) (wVar 9) [9]))))

def b_need_viewer (K : PySem.W.Frag) : WS :=
  (wIf (wOr (wTst (wOp (ltA) (wVar 0) (wC (.int 0)))) (wTst (wOp (gtA) (wVar 0) (wC (.int 9))))) (wRaise K "NoNumber") wSkip)

def b_need_view (K : PySem.W.Frag) : WS :=
  (wIf (wOr (wTst (wOp (eqR true) (wVar 0) (wSorSet false (wVar 0)))) (wTst (wOp (eqR true) (wComp false (wIt (wVar 0)) (gNm 2) (wOr (wTst (wOp (ltA) (wVar 2) (wC (.int 0)))) (wTst (wOp (geA) (wVar 2) (wVar 1)))) (wVar 2) [2]) (wLst false wNil)))) (wRaise K "NoMark") wSkip)

def b_all_hold (s_rule_holds : DSpec) : WS :=
  (wRet (wFn allR (wCons (wComp false (wIt (wVar 3)) (gNm 4) wYes (wCall s_rule_holds (wCons (wOp idxR (wVar 0) (wVar 4)) (wCons (wVar 1) (wCons (wVar 2) (wCons (wVar 3) wNil))))) [4]) wNil)))

def b_is_let (s_need_viewer s_need_view s_all_hold : DSpec) : WS :=
  (wSeq (wDrop (wCall s_need_viewer (wCons (wVar 2) wNil)))
  (wSeq (wDrop (wCall s_need_view (wCons (wVar 3) (wCons (wFn lenR (wCons (wVar 0) wNil)) wNil))))
  (wRet (wCall s_all_hold (wCons (wVar 0) (wCons (wVar 1) (wCons (wVar 2) (wCons (wVar 3) wNil))))))))

def b_views_of : WS :=
  (wSeq (wAsg 1 (wLst false (wCons (wLst false wNil) wNil)))
  (wSeq (wFor (wRg1 (wCons (wVar 0) wNil)) (gNm 2) (wAsg 1 (wOp (addR false) (wVar 1) (wComp false (wIt (wVar 1)) (gNm 3) wYes (wOp (addR false) (wVar 3) (wLst false (wCons (wVar 2) wNil))) [3]))))
  (wRet (wFn (sortDR false) (wCons (wVar 1) wNil)))))

def b_let_views (s_need_viewer s_views_of s_all_hold : DSpec) : WS :=
  (wSeq (wDrop (wCall s_need_viewer (wCons (wVar 2) wNil)))
  (wRet (wComp false (wIt (wCall s_views_of (wCons (wFn lenR (wCons (wVar 0) wNil)) wNil))) (gNm 3) (wTst (wCall s_all_hold (wCons (wVar 0) (wCons (wVar 1) (wCons (wVar 2) (wCons (wVar 3) wNil)))))) (wVar 3) [3])))

def b_view_for (s_let_views : DSpec) : WS :=
  (wSeq (wAsg 3 (wCall s_let_views (wCons (wVar 0) (wCons (wVar 1) (wCons (wVar 2) wNil)))))
  (wSeq (wFor (wRg1 (wCons (wFn lenR (wCons (wVar 0) wNil)) wNil)) (gNm 4) (wSeq (wAsg 5 (wComp false (wIt (wVar 3)) (gNm 6) (wTst (wOp (inR false) (wVar 4) (wVar 6))) (wVar 6) [6]))
  (wIf (wTst (wOp (eqR true) (wVar 5) (wLst false wNil))) (wAsg 3 (wVar 5)) wSkip)))
  (wRet (wOp idxR (wVar 3) (wC (.int 0))))))

def b_law_more (s_let_views s_view_for : DSpec) : WS :=
  (wSeq (wAsg 3 (wCall s_let_views (wCons (wVar 0) (wCons (wVar 1) (wCons (wVar 2) wNil)))))
  (wSeq (wAsg 4 (wCall s_view_for (wCons (wVar 0) (wCons (wVar 1) (wCons (wVar 2) wNil)))))
  (wSeq (wAsg 5 (wTup (wCons (wC (.str "number")) (wCons (wVar 2) wNil))))
  (wSeq (wAsg 6 (wOp (addR false) (wVar 0) (wLst false (wCons (wTup (wCons (wC (.str "=")) (wCons (wTup (wCons (wC (.str "name")) (wCons (wC (.str "who")) wNil))) (wCons (wVar 5) wNil)))) wNil))))
  (wSeq (wAsg 7 (wFn lenR (wCons (wVar 0) wNil)))
  (wSeq (wIf (wTst (wOp (eqR true) (wCall s_let_views (wCons (wVar 6) (wCons (wVar 1) (wCons (wVar 2) wNil)))) (wFn (sortDR false) (wCons (wOp (addR false) (wVar 3) (wComp false (wIt (wVar 3)) (gNm 8) wYes (wOp (addR false) (wVar 8) (wLst false (wCons (wVar 7) wNil))) [8])) wNil)))) (wRet (wC (.bl false))) wSkip)
  (wSeq (wIf (wTst (wOp (eqR true) (wCall s_view_for (wCons (wVar 6) (wCons (wVar 1) (wCons (wVar 2) wNil)))) (wOp (addR false) (wVar 4) (wLst false (wCons (wVar 7) wNil))))) (wRet (wC (.bl false))) wSkip)
  (wSeq (wAsg 9 (wOp (addR false) (wVar 0) (wLst false (wCons (wTup (wCons (wC (.str "<")) (wCons (wTup (wCons (wC (.str "name")) (wCons (wC (.str "who")) wNil))) (wCons (wVar 5) wNil)))) wNil))))
  (wRet (wAndV (wOp (eqR false) (wCall s_let_views (wCons (wVar 9) (wCons (wVar 1) (wCons (wVar 2) wNil)))) (wVar 3)) (wOp (eqR false) (wCall s_view_for (wCons (wVar 9) (wCons (wVar 1) (wCons (wVar 2) wNil)))) (wVar 4))))))))))))

def b_law_5 (s_law_bag s_law_marks s_law_names s_law_rule s_law_draw s_law_some_boxes s_law_by_numbers s_law_others_changed s_is_let s_view_for s_let_views s_law_more : DSpec) : WS :=
  (wSeq (wAsg 6 (wCall s_law_draw (wCons (wVar 1) (wCons (wC (.int 10)) wNil))))
  (wSeq (wAsg 7 (wCall s_law_some_boxes (wCons (wVar 1) (wCons (wVar 3) (wCons (wC (.int 6)) wNil)))))
  (wSeq (wAsg 8 (wComp false (wRg1 (wCons (wVar 2) wNil)) (gNm 5) (wTst (wOp (eqR false) (wCall s_law_draw (wCons (wVar 1) (wCons (wC (.int 2)) wNil))) (wC (.int 1)))) (wVar 5) [5]))
  (wSeq (wIf (wNot (wTst (wCall s_law_by_numbers (wCons (wVar 4) (wCons (wVar 7) (wCons (wVar 6) (wCons (wVar 8) wNil))))))) (wRet (wC (.bl false))) wSkip)
  (wSeq (wAsg 9 (wCall s_law_others_changed (wCons (wVar 1) (wCons (wVar 7) (wCons (wVar 8) wNil)))))
  (wSeq (wIf (wTst (wOp (eqR true) (wCall s_is_let (wCons (wVar 4) (wCons (wVar 9) (wCons (wVar 6) (wCons (wVar 8) wNil))))) (wCall s_is_let (wCons (wVar 4) (wCons (wVar 7) (wCons (wVar 6) (wCons (wVar 8) wNil))))))) (wRet (wC (.bl false))) wSkip)
  (wSeq (wAsg 10 (wCall s_view_for (wCons (wVar 4) (wCons (wVar 7) (wCons (wVar 6) wNil)))))
  (wSeq (wIf (wOr (wTst (wOp (inDR true) (wVar 10) (wCall s_let_views (wCons (wVar 4) (wCons (wVar 7) (wCons (wVar 6) wNil)))))) (wNot (wTst (wCall s_is_let (wCons (wVar 4) (wCons (wVar 7) (wCons (wVar 6) (wCons (wVar 10) wNil)))))))) (wRet (wC (.bl false))) wSkip)
  (wRet (wCall s_law_more (wCons (wVar 4) (wCons (wCall s_law_some_boxes (wCons (wVar 1) (wCons (wVar 3) (wCons (wVar 2) wNil)))) (wCons (wVar 6) wNil)))))))))))))
def b_law (s_law_bag s_law_marks s_law_names s_law_rule s_law_draw s_law_some_boxes s_law_by_numbers s_law_others_changed s_is_let s_view_for s_let_views s_law_more : DSpec) : WS :=
  (wSeq (wAsg 1 (wCall s_law_bag (wCons (wVar 0) wNil)))
  (wSeq (wAsg 2 (wFn min2R (wCons (wC (.int 5)) (wCons (wCall s_law_marks (wCons (wVar 1) wNil)) wNil))))
  (wSeq (wAsg 3 (wCall s_law_names (wCons (wVar 1) wNil)))
  (wSeq (wAsg 4 (wComp true (wRg1 (wCons (wVar 2) wNil)) (gNm 5) wYes (wCall s_law_rule (wCons (wVar 1) (wCons (wVar 3) wNil))) [5]))
  (wSeq (wIf (wAnd (wTst (wOp (gtA) (wVar 2) (wC (.int 1)))) (wTst (wOp (eqR false) (wCall s_law_draw (wCons (wVar 1) (wCons (wC (.int 4)) wNil))) (wC (.int 0))))) (wSet (wVar 4) (wCall s_law_draw (wCons (wVar 1) (wCons (wVar 2) wNil))) (wOp idxR (wVar 4) (wCall s_law_draw (wCons (wVar 1) (wCons (wVar 2) wNil))))) wSkip)
  (b_law_5 s_law_bag s_law_marks s_law_names s_law_rule s_law_draw s_law_some_boxes s_law_by_numbers s_law_others_changed s_is_let s_view_for s_let_views s_law_more))))))
local macro_rules | `(tactic| walk_at "ne") => `(tactic| first | assumption | (apply Ne.symm; assumption) | exact ne_some_none (by assumption) (by assumption) | exact ne_none_some (by assumption) (by assumption))
local macro_rules | `(tactic| walk_at "clr") => `(tactic| with_reducible (first | exact updc_same | assumption | exact updc_ne' (by walk_at "ne") (by walk_at "clr") | exact delc_ne' (by walk_at "ne") (by walk_at "clr")))
local macro_rules | `(tactic| walk_at "cl0") => `(tactic| first | exact updc_same | assumption | exact updc_ne' (by walk_at "ne") (by walk_at "cl0") | exact delc_ne' (by walk_at "ne") (by walk_at "cl0"))
local macro_rules | `(tactic| walk_at "cl") => `(tactic| first | walk_at "clr" | walk_at "cl0")
local macro_rules | `(tactic| walk_at "cnr") => `(tactic| with_reducible (first | assumption | exact updc_ne' (by walk_at "ne") (by walk_at "cnr") | exact delc_ne' (by walk_at "ne") (by walk_at "cnr")))
local macro_rules | `(tactic| walk_at "cn0") => `(tactic| first | assumption | exact updc_ne' (by walk_at "ne") (by walk_at "cn0") | exact delc_ne' (by walk_at "ne") (by walk_at "cn0"))
local macro_rules | `(tactic| walk_at "cn") => `(tactic| first | walk_at "cnr" | walk_at "cn0")
local macro_rules | `(tactic| walk_at "sbr") => `(tactic| with_reducible (first | assumption | exact SubC.rfl' | exact sub_p (by walk_at "sbr") | exact SubC.newr (by walk_at "sbr") (by walk_at "cnr") | exact SubC.del (by walk_at "sbr") (by walk_at "cnr")))
local macro_rules | `(tactic| walk_at "sb0") => `(tactic| first | assumption | exact SubC.rfl' | exact sub_p (by walk_at "sb0") | exact SubC.newr (by walk_at "sb0") (by walk_at "cn0") | exact SubC.del (by walk_at "sb0") (by walk_at "cn0"))
local macro_rules | `(tactic| walk_at "sb") => `(tactic| first | walk_at "sbr" | walk_at "sb0")
local macro_rules | `(tactic| walk_at "st") => `(tactic| (first
  | with_reducible refine wSeq_i ?_
  | with_reducible refine wAsg_i ?_
  | with_reducible refine wOp_i ?_
  | with_reducible refine wC_i ?_
  | with_reducible refine wCons_i ?_
  | with_reducible refine wNil_i ?_
  | with_reducible refine wFn_i ?_
  | with_reducible refine wCall_i ?_
  | with_reducible refine wIf_i ?_
  | with_reducible refine wRet_i ?_
  | with_reducible refine wSkip_i ?_
  | with_reducible refine wTst_i ?_
  | with_reducible refine asB_i ?_
  | with_reducible refine asI_i ?_
  | with_reducible refine wSet_i ?_
  | with_reducible refine wDrop_i ?_
  | with_reducible refine wTup_i ?_
  | with_reducible refine wLst_i ?_
  | with_reducible refine newL_f ?_
  | with_reducible refine wAsgG_i ?_
  | with_reducible refine gNm_i ?_
  | with_reducible refine gCn_i ?_
  | with_reducible refine gNl_i ?_
  | with_reducible refine wSl_i ?_
  | with_reducible refine wNo_i ?_
  | with_reducible refine wSome_i ?_
  | with_reducible refine wNot_i ?_
  | with_reducible refine wAnd_i ?_
  | with_reducible refine wOr_i ?_
  | with_reducible refine wAndV_i ?_
  | with_reducible refine wOrV_i ?_
  | with_reducible refine wNotV_i ?_
  | with_reducible refine wIfE_i ?_
  | with_reducible refine wYes_i ?_
  | with_reducible refine wMt_i ?_
  | with_reducible refine wIt_i ?_
  | with_reducible refine wFor_i ?_
  | with_reducible refine wComp_i ?_
  | with_reducible refine compS_i ?_
  | with_reducible refine forS_i ?_
  | with_reducible refine wRetN_i ?_
  | with_reducible refine wFrz_i ?_
  | with_reducible refine wDict_i ?_
  | with_reducible refine wGet2_i ?_
  | with_reducible refine wWk_i ?_
  | with_reducible refine wNeg_i ?_
  | with_reducible refine neg_i ?_
  | with_reducible refine wRg1_i ?_
  | with_reducible refine wRg2_i ?_
  | with_reducible refine wZip_i ?_
  | with_reducible refine wEnum_i ?_
  | with_reducible refine zip_i ?_
  | with_reducible refine zip_t ?_
  | with_reducible refine enum_i ?_
  | with_reducible refine add_ii ?_
  | with_reducible refine sub_ii ?_
  | with_reducible refine lt_ii ?_
  | with_reducible refine ltI_ii ?_
  | with_reducible refine eq_ii ?_
  | with_reducible refine eq_bb ?_
  | with_reducible refine abs_i ?_
  | with_reducible refine int_i ?_
  | with_reducible refine int_b ?_
  | with_reducible refine max2_i ?_
  | with_reducible refine min2_i ?_
  | with_reducible refine sl_l ?_
  | with_reducible refine sl_r ?_
  | with_reducible refine len_l ?_
  | with_reducible refine len_t ?_
  | with_reducible refine len_k ?_
  | with_reducible refine len_r ?_
  | with_reducible refine ite_bt ?_
  | with_reducible refine ite_bf ?_
  | with_reducible refine ite_n ?_
  | with_reducible refine lst_l ?_
  | with_reducible refine lst_s ?_
  | with_reducible refine tup_l ?_
  | with_reducible refine tup_t ?_
  | with_reducible refine wCall0_i ?_
  | with_reducible refine wCallD_i ?_
  | with_reducible refine wCallL_i ?_
  | with_reducible refine wChain_i ?_
  | with_reducible refine addI_i ?_
  | with_reducible refine wPar2_i ?_
  | with_reducible refine wPar3_i ?_
  | with_reducible refine ex2_i ?_
  | with_reducible refine ex3_i ?_
  | with_reducible refine wMt0_i ?_
  | with_reducible refine wSl3_i ?_
  | with_reducible refine wFmt_i ?_
  | with_reducible refine wJoined_i ?_
  | with_reducible refine wJs_nil ?_
  | with_reducible refine wJs_cons ?_
  | with_reducible refine asS_i ?_
  | with_reducible refine is_n ?_
  | ((with_reducible show wVar _ _ _ _ _); refine wVar_i (by rfl) ?_)
  | ((with_reducible show wCallV _ _ _ _ _ _ _); refine wCallV_i (by rfl) (by assumption) ?_)
  | ((with_reducible show wAug _ _ _ _ _ _); refine wAug_i (by rfl) ?_)
  | ((with_reducible show _ ≤ sizeLine ∧ _); refine lenQ (by rfl) ?_)
  | ((with_reducible show gTp _ _ (.tup _) _ _ _); refine gTp_i (by rfl) ?_)
  | ((with_reducible show gTp _ _ (.kt _) _ _ _); refine gTp_k (by rfl) ?_)
  | ((with_reducible show itR (.ref _) _ _); refine itC (by walk_at "cl") ?_)
  | ((with_reducible show itR _ _ _); refine itQ (by rfl) ?_)
  | ((with_reducible show isiR _ [_, .tup _] _); refine isi_t (b := true) (by rfl) (by rfl) (by rfl) ?_)
  | ((with_reducible show isiR _ [_, .tup _] _); refine isi_t (b := false) (by rfl) (by rfl) (by rfl) ?_)
  | ((with_reducible show zipR [.ref _, .lst _] _ _); refine zip_cl (by walk_at "cl") ?_)
  | ((with_reducible show modR _ (.int _) (.int _) _); refine mod_ii (by omega) ?_)
  | ((with_reducible show idxR _ (.ref _) (.int _) _); refine ix_c (by walk_at "cl") (by first | rfl | exact at0 _ _ | exact at1 _ _ _ | assumption) ?_)
  | ((with_reducible show idxR _ (.lst _) (.int _) _); refine ix_l (by first | rfl | exact at0 _ _ | exact at1 _ _ _ | assumption) ?_)
  | ((with_reducible show idxR _ (.tup _) (.int _) _); refine ix_t (by first | rfl | exact at0 _ _ | exact at1 _ _ _ | assumption) ?_)
  | ((with_reducible show setR _ (.ref _) (.int _) _ _); refine set_l (by walk_at "cl") (by rfl) ?_)
  | ((with_reducible show fdivR _ (.int _) (.int _) _); refine fdiv_ii (by first | assumption | exact .inl ⟨by omega, by omega⟩) ?_)
  | ((with_reducible show mulR _ _ (.int _) (.int _) _); refine mul_ii (by first | assumption | exact .inl (.inl ⟨by omega, by omega⟩) | exact .inl (.inr ⟨by omega, by omega⟩)) ?_)
  | ((with_reducible show powR _ (.int _) (.int _) _); refine pow_ii (by exact ⟨by decide, by decide, by decide⟩) (by (conv => lhs; simp only [Int.reduceToNat, Int.reducePow])) ?_)
  | ((with_reducible show isiR _ [_, .ty _] _); refine isi_i (b := true) (by rfl) (by rfl) ?_)
  | ((with_reducible show isiR _ [_, .ty _] _); refine isi_i (b := false) (by rfl) (by rfl) ?_)
  | ((with_reducible show lenR _ [.ref _] _); refine len_c (by walk_at "cl") ?_)
  | ((with_reducible show sliceR _ _ (.ref _) _ _ _); refine sl_c (by walk_at "cl") ?_)
  | ((with_reducible show listR _ _ [.ref _] _); refine lst_c (by walk_at "cl") ?_)
  | ((with_reducible show frzR (.ref _) _ _); refine frzQ (by walk_at "cl") ?_)
  | ((with_reducible show rgR1 [.int _] _ _); refine rg1_i (by omega) (by omega) ?_)
  | ((with_reducible show rgR2 [.int _, .int _] _ _); refine rg2_i (by omega) (by omega) (by omega) (by omega) ?_)))
local macro_rules | `(tactic| walk_at "go") => `(tactic| repeat walk_at "st")
local macro_rules | `(tactic| walk_at "lr") => `(tactic| (walk_at "go"; refine rng_1 fun p0 hp0 => ?_; walk_at "go"; refine lst_g (by walk_at "cl") (by decide) (by decide) (by omega) (by omega) (by omega) ?_; walk_at "go"; refine wk_i (SubC.new hp0) ?_; clear hp0 p0; walk_at "go"))
local macro_rules | `(tactic| walk_at "el") => `(tactic| first | refine eq_lit true (by decide +kernel) (by decide +kernel) ?_ | refine eq_lit false (by decide +kernel) (by decide +kernel) ?_)
/-! worths -/
inductive Wo where
  | num (n : Int)
  | face (m : Int) (s u : Wo)
  deriving DecidableEq
def Wo.d : Wo → D
  | .num n => .int n
  | .face m s u => .tup [.str "face", .int m, s.d, u.d]
theorem Wo.d_inj : ∀ {a b : Wo}, a.d = b.d → a = b
  | .num n, .num k, h => by simp only [Wo.d, D.int.injEq] at h; rw [h]
  | .num n, .face .., h => by simp only [Wo.d] at h; cases h
  | .face .., .num k, h => by simp only [Wo.d] at h; cases h
  | .face m s u, .face m' s' u', h => by
    simp only [Wo.d, D.tup.injEq, List.cons.injEq, D.int.injEq, and_true, true_and] at h
    rw [h.1, Wo.d_inj h.2.1, Wo.d_inj h.2.2]
theorem Wo.d_iff {a b : Wo} : a.d = b.d ↔ a = b := ⟨Wo.d_inj, fun h => by rw [h]⟩
def Wo.deep : Wo → Nat
  | .num _ => 0
  | .face _ s u => max s.deep u.deep + 1
theorem face_ok : PyData.strOk (Str.ofString "face") = true := by decide +kernel
theorem Wo.okD : ∀ a : Wo, DL.okD a.d = true
  | .num _ => rfl
  | .face m s u => by
    simp only [Wo.d, DL.okD, okDs, Wo.okD s, Wo.okD u, Bool.and_true, Bool.true_and]
    exact face_ok
theorem Wo.dep : ∀ a : Wo, DL.dep a.d = a.deep
  | .num _ => rfl
  | .face m s u => by
    simp only [Wo.d, DL.dep, deps, Wo.dep s, Wo.dep u, Wo.deep]
    omega
theorem Wo.eqOk {a : Wo} (h : a.deep ≤ 64) : DL.eqOk a.d := ⟨a.okD, by rw [a.dep]; exact h⟩
theorem Wo.res {c : CMap} : ∀ {a : Wo}, DL.res c a.d = a.d
  | .num _ => rfl
  | .face .. => rfl
/-- the marks rise from k on, below 6; both faces unlike; numbers from 0 to 999 -/
def Wo.ok : Nat → Wo → Prop
  | _, .num n => 0 ≤ n ∧ n < 1000
  | k, .face m s u => (k : Int) ≤ m ∧ m < 6 ∧ s ≠ u ∧ s.ok (m.toNat + 1) ∧ u.ok (m.toNat + 1)
theorem Wo.ok_mono : ∀ {a : Wo} {j k : Nat}, j ≤ k → a.ok k → a.ok j
  | .num _, _, _, _, h => h
  | .face m s u, j, k, l, h => ⟨Int.le_trans (Int.ofNat_le.mpr l) h.1, h.2⟩
theorem Wo.ok_deep : ∀ {a : Wo} {k : Nat}, a.ok k → k ≤ 6 → a.deep + k ≤ 6
  | .num _, _, _, l => by simpa [Wo.deep] using l
  | .face m s u, k, h, l => by
    obtain ⟨h1, h2, _, h3, h4⟩ := h
    have a1 := Wo.ok_deep h3 (by omega)
    have a2 := Wo.ok_deep h4 (by omega)
    simp only [Wo.deep]
    omega
def Wo.seen : Wo → List Int → Int
  | .num n, _ => n
  | .face m s u, v => if m ∈ v then s.seen v else u.seen v
/-- ints as data -/
theorem int_mem {n : Int} {ns : List Int} : D.int n ∈ ns.map D.int ↔ n ∈ ns := by
  simp [List.mem_map]
theorem ints_flat (ns : List Int) : (ns.map D.int).all flatD = true := by
  simp [List.all_eq_true, flatD]
theorem ints_ok : ∀ ns : List Int, okDs (ns.map D.int) = true
  | [] => rfl
  | n :: r => by simp only [List.map_cons, okDs, DL.okD, ints_ok r, Bool.and_true]
theorem ints_dep : ∀ ns : List Int, deps (ns.map D.int) = 0
  | [] => rfl
  | n :: r => by simp [deps, DL.dep, ints_dep r]
theorem ints_eqOk (ns : List Int) : DL.eqOk (.lst (ns.map D.int)) := ⟨ints_ok ns, by simp [DL.dep, ints_dep]⟩
theorem ints_inj {a b : List Int} : D.lst (a.map D.int) = .lst (b.map D.int) ↔ a = b := by
  refine ⟨fun h => ?_, fun h => by rw [h]⟩
  have h1 : intsD (a.map D.int) = intsD (b.map D.int) := by injection h with h; rw [h]
  rw [intsD_map, intsD_map] at h1
  exact Option.some.inj h1
/-! cuts -/
theorem cut_to {α : Type} (xs : List α) (k : Nat) : cutG xs none (some (k : Int)) = xs.take k := by
  unfold cutG
  rw [show HT.sIx xs.length 0 none = 0 from rfl, HT.sIx_nat, List.drop_zero, Nat.sub_zero]
  rw [List.take_eq_take_iff]; omega
theorem cut_from {α : Type} (xs : List α) (k : Nat) : cutG xs (some (k : Int)) none = xs.drop k := by
  unfold cutG
  rw [show HT.sIx xs.length xs.length none = xs.length from rfl, HT.sIx_nat]
  by_cases h : k ≤ xs.length
  · rw [Nat.min_eq_left h]
    exact List.take_of_length_le (by rw [List.length_drop]; omega)
  · rw [Nat.min_eq_right (by omega), List.drop_of_length_le (Nat.le_refl _), List.drop_of_length_le (by omega)]; simp
theorem mem_map_at {α β : Type} {f : α → β} {xs : List α} {i : Nat} {y : β} (e : (xs.map f)[i]? = some y) : ∃ x, xs[i]? = some x ∧ y = f x := by
  rw [List.getElem?_map] at e
  cases z : xs[i]? with
  | none => rw [z] at e; cases e
  | some x => rw [z] at e; exact ⟨x, rfl, (Option.some.inj e).symm⟩
theorem at_nat {α : Type} {xs : List α} {j : Nat} {v : α} (h : xs[j]? = some v) : atI xs (j : Int) = some v := atI_nat h
theorem fnil {α : Type} (xs : List α) : xs = [] ∨ ∃ a r, xs = a :: r := by
  cases xs with
  | nil => exact .inl rfl
  | cons a r => exact .inr ⟨a, r, rfl⟩
theorem upto_len (a : Int) (n : Nat) : (upto a n).length = n := by simp [upto]
theorem upto_at {a : Int} {n i : Nat} {x : Int} (h : (upto a n)[i]? = some x) : i < n ∧ x = a + i := by
  unfold upto at h
  obtain ⟨y, h1, h2⟩ := mem_map_at h
  obtain ⟨h3, h4⟩ := List.getElem?_eq_some_iff.mp h1
  rw [List.getElem_range] at h4
  subst h4
  exact ⟨by simpa using h3, h2⟩
/-! comprehensions with draws, with truths -/
theorem updc_self {c : CMap} {p : Addr} {k : Cell} (h : c p = some k) : updc c p k = c := by
  funext x; unfold updc
  by_cases e : x = p
  · subst e; rw [if_pos rfl, h]
  · rw [if_neg e]
theorem comp_draws {G : CMap → Prop} [FreeG G] {step : D → CMap → (Option D → CMap → Prop) → Prop} {c : CMap} {A p : Addr} {ds : List D} {Q : DK} {k : Cell} (ok : Cell → Prop) (g : Int → D) (m : Int) (hA : c A = none) (hl : ds.length < 16777216) (hp : c p = some k) (hk : ok k)
    (hs : ∀ (d : D) (c' : CMap) (K : Option D → CMap → Prop) (k1 : Cell), d ∈ ds → c' p = some k1 → ok k1 → (∀ b x, c b = some x → b ≠ p → c' b = some x) → (∀ (v : Int) k', 0 ≤ v → v < m → ok k' → K (some (g v)) (updc c' p k')) → step d c' K)
    (q : ∀ (fs : List Int) k', fs.length = ds.length → (∀ x ∈ fs, 0 ≤ x ∧ x < m) → ok k' → Q (.lst (fs.map g)) (updc c p k')) : CompP false step A ds G c Q := by
  refine comp_inv hA (fun i acc c' => ∃ (fs : List Int) (k' : Cell), c' = updc c p k' ∧ ok k' ∧ acc = fs.map g ∧ fs.length = i ∧ ∀ x ∈ fs, 0 ≤ x ∧ x < m) hl ⟨[], k, (updc_self hp).symm, hk, rfl, rfl, fun _ h => by cases h⟩ ?_ ?_
  · rintro i d acc c' K e ⟨fs, k', rfl, hk', rfl, rfl, hb⟩ hA' k1 k2
    have hpA : p ≠ A := ne_some_none (c := updc c p k') updc_same hA'
    refine hs d _ K k' (List.mem_of_getElem? e) (by rw [updc_ne hpA, updc_same]) hk' (fun b x h hb => by rw [updc_ne (ne_some_none h hA), updc_ne hb]; exact h) fun v k3 v0 v1 hk3 => ?_
    rw [updc_comm (Ne.symm hpA), updc_updc]
    refine k1 (g v) _ (by rw [updc_ne (Ne.symm hpA)]; exact hA) ⟨fs ++ [v], k3, rfl, hk3, by simp, by simp, fun x hx => ?_⟩
    rcases List.mem_append.mp hx with h | h
    · exact hb x h
    · simp only [List.mem_singleton] at h; subst h; exact ⟨v0, v1⟩
  · rintro out c2 ⟨fs, k', rfl, hk', rfl, e, hb⟩ _
    rw [if_neg (by decide)]
    exact q fs k' e hb hk'
theorem comp_bools {G : CMap → Prop} [FreeG G] {step : D → CMap → (Option D → CMap → Prop) → Prop} {c : CMap} {A : Addr} {ds : List D} {Q : DK} (hA : c A = none) (hl : ds.length < 16777216)
    (hs : ∀ (d : D) (c' : CMap) (K : Option D → CMap → Prop), d ∈ ds → (∀ b x, c b = some x → c' b = some x) → (∀ b : Bool, K (some (.bl b)) c') → step d c' K) (q : ∀ bs : List Bool, Q (.lst (bs.map D.bl)) c) : CompP false step A ds G c Q := by
  refine comp_inv hA (fun i acc c' => c' = c ∧ ∃ bs : List Bool, acc = bs.map D.bl) hl ⟨rfl, [], rfl⟩ ?_ ?_
  · rintro i d acc c' K e ⟨rfl, bs, rfl⟩ hA' k1 k2
    exact hs d _ K (List.mem_of_getElem? e) (fun b x h => by rw [updc_ne (ne_some_none h hA')]; exact h) fun b => k1 _ _ hA' ⟨rfl, bs ++ [b], by simp⟩
  · rintro out c2 ⟨rfl, bs, rfl⟩ _
    rw [if_neg (by decide)]
    exact q bs
theorem menu {xs : List D} {v : Int} (h0 : 0 ≤ v) (h1 : v < (xs.length : Int)) : ∃ x ∈ xs, atI xs v = some x := by
  obtain ⟨n, rfl⟩ : ∃ n : Nat, v = (n : Int) := ⟨v.toNat, by omega⟩
  have h : n < xs.length := by omega
  exact ⟨xs[n], List.getElem_mem h, atI_nat (List.getElem?_eq_getElem h)⟩
theorem sort_1 {m : Bool} {c : CMap} {Q : DK} {ns : List Int} (q : ∀ ns' : List Int, ns'.Perm ns → ns'.Pairwise (· ≤ ·) → newL m c (ns'.map D.int) Q) : sortR m c [.lst (ns.map D.int)] Q := sort_i rfl (intsD_map ns) q
/-! short texts -/
def SOk (n : Nat) (x : Str) : Prop := x.length ≤ n ∧ PyData.strOk x = true
theorem SOk.chr {k : Nat} (h : k < 0x110000) : SOk 1 ⟨#[k]⟩ := ⟨Nat.le_refl _, by simp [PyData.strOk, h]⟩
theorem SOk.mono {m n : Nat} {x : Str} (h : SOk m x) (l : m ≤ n) : SOk n x := ⟨Nat.le_trans h.1 l, h.2⟩
theorem SOk.app {m n : Nat} {x y : Str} (h : SOk m x) (h' : SOk n y) : SOk (m + n) (x ++ y) := by
  obtain ⟨a, b⟩ := h
  obtain ⟨a', b'⟩ := h'
  refine ⟨?_, ?_⟩
  · show (x.cps ++ y.cps).size ≤ _
    rw [Array.size_append]
    exact Nat.add_le_add a a'
  · show (x.cps ++ y.cps).all _ = true
    rw [Array.all_append]
    simp only [Bool.and_eq_true]
    exact ⟨b, b'⟩
theorem SOk.list {x : Str} {n : Nat} (h : SOk n x) : ∀ k ∈ x.cps.toList, k < 0x110000 := by
  intro k hk
  have := h.2
  unfold PyData.strOk at this
  rw [Array.all_eq_true_iff_forall_mem] at this
  simpa using this k (Array.mem_def.mpr hk)
theorem SOk.of_list {n : Nat} {l : List Nat} (h : l.length ≤ n) (h' : ∀ k ∈ l, k < 0x110000) : SOk n ⟨l.toArray⟩ := by
  refine ⟨by simpa [Str.length] using h, ?_⟩
  unfold PyData.strOk
  rw [Array.all_eq_true_iff_forall_mem]
  intro k hk
  simpa using h' k (by simpa using hk)
theorem SOk.cut {n : Nat} {x : Str} (h : SOk n x) (lo hi : Option Int) : SOk n (cutS x lo hi) := by
  unfold cutS
  refine .of_list ?_ fun k hk => h.list k (List.mem_of_mem_drop (List.mem_of_mem_take hk))
  rw [List.length_take, List.length_drop]
  have : x.cps.toList.length = x.length := by simp [Str.length]
  have := h.1
  omega
theorem SOk.join0 : ∀ {ys : List Str}, (∀ y ∈ ys, SOk 1 y) → SOk ys.length (Txt.join "" ys)
  | [], _ => by rw [TL.join_eq]; exact ⟨Nat.le_refl _, by decide +kernel⟩
  | [x], h => by rw [TL.join_eq]; exact h x (by simp)
  | x :: y :: r, h => by
    rw [TL.join_eq]
    show SOk _ (x ++ Str.ofString "" ++ Str.join "" (y :: r))
    have h1 := h x (by simp)
    have h2 := SOk.join0 (ys := y :: r) (fun z hz => h z (by simp only [List.mem_cons] at hz ⊢; exact .inr hz))
    rw [TL.join_eq] at h2
    have h3 : SOk 0 (Str.ofString "") := ⟨by decide +kernel, by decide +kernel⟩
    exact ((h1.app h3).app h2).mono (by simp only [List.length_cons]; omega)
theorem SOk.line {n : Nat} {x : Str} (h : SOk n x) (l : n ≤ 16777216) : x.length ≤ sizeLine := len_le (Nat.le_trans h.1 l)
theorem join0_sum : ∀ {ys : List Str}, (∀ y ∈ ys, SOk 1 y) → (ys.map (·.length)).sum ≤ ys.length
  | [], _ => Nat.le_refl _
  | x :: r, h => by
    have h1 := (h x (by simp)).1
    have h2 := join0_sum (ys := r) (fun z hz => h z (by simp [hz]))
    simp only [List.map_cons, List.sum_cons, List.length_cons]
    omega
theorem ix_sok {c : CMap} {Q : DK} {z : Str} {n : Nat} {i : Int} (h : SOk n z) (hn : n ≤ 16777216) (h0 : 0 ≤ i) (h1 : i < (z.length : Int)) (q : ∀ x, SOk 1 x → Q (.str x) c) : idxR c (.str z) (.int i) Q := by
  have hl : z.cps.toList.length = z.length := by simp [Str.length]
  have hi : i.toNat < z.cps.toList.length := by omega
  refine ix_str (h.line hn) (atn (j := i.toNat) (by omega) (List.getElem?_eq_getElem hi)) (q _ (.chr ?_))
  exact h.list _ (List.getElem_mem hi)
theorem abc_ok : SOk 26 "abcdefghijklmnopqrstuvwxyz" := ⟨by decide +kernel, by decide +kernel⟩
theorem abc_len : ((Str.ofString "abcdefghijklmnopqrstuvwxyz").length : Int) = 26 := by decide +kernel
theorem ix_abc {c : CMap} {Q : DK} {i : Int} (h0 : 0 ≤ i) (h1 : i < 26) (q : ∀ x, SOk 1 x → Q (.str x) c) : idxR c (.str "abcdefghijklmnopqrstuvwxyz") (.int i) Q := ix_sok abc_ok (by decide) h0 (by rw [abc_len]; exact h1) q
theorem ix_menu {c : CMap} {Q : DK} {v : Int} (ns : List Int) (lo hi : Int) (h : ∀ x ∈ ns, lo ≤ x ∧ x ≤ hi) (v0 : 0 ≤ v) (v1 : v < (ns.length : Int)) (q : ∀ x, lo ≤ x → x ≤ hi → Q (.int x) c) : idxR c (.lst (ns.map D.int)) (.int v) Q := by
  have hi2 : v.toNat < ns.length := by omega
  refine ix_l (atn (j := v.toNat) (by omega) (by rw [List.getElem?_map, List.getElem?_eq_getElem hi2]; rfl)) ?_
  exact q _ (h _ (List.getElem_mem hi2)).1 (h _ (List.getElem_mem hi2)).2
theorem add_sok {c : CMap} {m : Bool} {Q : DK} {x y : Str} {a b : Nat} (h : SOk a x) (h' : SOk b y) (l : a + b ≤ 16777216) (q : SOk (a + b) (x ++ y) → Q (.str (x ++ y)) c) : addR m c (.str x) (.str y) Q := by
  have := h.1
  have := h'.1
  exact add_ss (len_le (by omega)) (q (h.app h'))
theorem all_map {α : Type} {f : α → D} {P : α → Prop} : ∀ {ds : List D}, (∀ d ∈ ds, ∃ x : α, d = f x ∧ P x) → ∃ xs : List α, ds = xs.map f ∧ ∀ x ∈ xs, P x
  | [], _ => ⟨[], rfl, fun _ h => by cases h⟩
  | d :: ds, h => by
    obtain ⟨x, rfl, hx⟩ := h d (by simp)
    obtain ⟨xs, rfl, hxs⟩ := all_map (ds := ds) fun d hd => h d (by simp [hd])
    exact ⟨x :: xs, rfl, fun y hy => by
      rcases List.mem_cons.mp hy with rfl | hy
      · exact hx
      · exact hxs y hy⟩
theorem strs_flat (ss : List Str) : (ss.map D.str).all flatD = true := by simp [flatD]
theorem str_mem {x : Str} {ss : List Str} : D.str x ∈ ss.map D.str ↔ x ∈ ss := by simp [List.mem_map]
/-! comprehensions whose elements draw and are of some kind -/
theorem comp_kind {G : CMap → Prop} [FreeG G] {step : D → CMap → (Option D → CMap → Prop) → Prop} {c : CMap} {A p : Addr} {ds : List D} {Q : DK} {k : Cell} (ok : Cell → Prop) (T : D → Prop) (hA : c A = none) (hl : ds.length < 16777216) (hp : c p = some k) (hk : ok k)
    (hs : ∀ (d : D) (c' : CMap) (K : Option D → CMap → Prop) (k1 : Cell), d ∈ ds → c' p = some k1 → ok k1 → (∀ b x, c b = some x → b ≠ p → c' b = some x) → (∀ (y : D) k', T y → ok k' → K (some y) (updc c' p k')) → (∀ k', ok k' → K none (updc c' p k')) → step d c' K)
    (q : ∀ (out : List D) k', out.length ≤ ds.length → (∀ y ∈ out, T y) → ok k' → Q (.lst out) (updc c p k')) : CompP false step A ds G c Q := by
  refine comp_inv hA (fun i acc c' => ∃ (k' : Cell), c' = updc c p k' ∧ ok k' ∧ acc.length ≤ i ∧ ∀ x ∈ acc, T x) hl ⟨k, (updc_self hp).symm, hk, Nat.le_refl _, fun _ h => by cases h⟩ ?_ ?_
  · rintro i d acc c' K e ⟨k', rfl, hk', hi, hb⟩ hA' k1 k2
    have hpA : p ≠ A := ne_some_none (c := updc c p k') updc_same hA'
    refine hs d _ K k' (List.mem_of_getElem? e) (by rw [updc_ne hpA, updc_same]) hk' (fun b x h hb => by rw [updc_ne (ne_some_none h hA), updc_ne hb]; exact h) (fun y k3 hy hk3 => ?_) fun k3 hk3 => ?_
    · rw [updc_comm (Ne.symm hpA), updc_updc]
      refine k1 y _ (by rw [updc_ne (Ne.symm hpA)]; exact hA) ⟨k3, rfl, hk3, by simp; omega, fun x hx => ?_⟩
      rcases List.mem_append.mp hx with h | h
      · exact hb x h
      · simp only [List.mem_singleton] at h; subst h; exact hy
    · rw [updc_comm (Ne.symm hpA), updc_updc]
      exact k2 _ (by rw [updc_ne (Ne.symm hpA)]; exact hA) ⟨k3, rfl, hk3, by omega, hb⟩
  · rintro out c2 ⟨k', rfl, hk', hi, hb⟩ _
    rw [if_neg (by decide)]
    exact q out k' hi hb hk'
/-- .. each gives one -/
theorem comp_kind1 {G : CMap → Prop} [FreeG G] {step : D → CMap → (Option D → CMap → Prop) → Prop} {c : CMap} {A p : Addr} {ds : List D} {Q : DK} {k : Cell} (ok : Cell → Prop) (T : D → Prop) (hA : c A = none) (hl : ds.length < 16777216) (hp : c p = some k) (hk : ok k)
    (hs : ∀ (d : D) (c' : CMap) (K : Option D → CMap → Prop) (k1 : Cell), d ∈ ds → c' p = some k1 → ok k1 → (∀ b x, c b = some x → b ≠ p → c' b = some x) → (∀ (y : D) k', T y → ok k' → K (some y) (updc c' p k')) → step d c' K)
    (q : ∀ (out : List D) k', out.length = ds.length → (∀ y ∈ out, T y) → ok k' → Q (.lst out) (updc c p k')) : CompP false step A ds G c Q := by
  refine comp_inv hA (fun i acc c' => ∃ (k' : Cell), c' = updc c p k' ∧ ok k' ∧ acc.length = i ∧ ∀ x ∈ acc, T x) hl ⟨k, (updc_self hp).symm, hk, rfl, fun _ h => by cases h⟩ ?_ ?_
  · rintro i d acc c' K e ⟨k', rfl, hk', hi, hb⟩ hA' k1 k2
    have hpA : p ≠ A := ne_some_none (c := updc c p k') updc_same hA'
    refine hs d _ K k' (List.mem_of_getElem? e) (by rw [updc_ne hpA, updc_same]) hk' (fun b x h hb => by rw [updc_ne (ne_some_none h hA), updc_ne hb]; exact h) (fun y k3 hy hk3 => ?_)
    rw [updc_comm (Ne.symm hpA), updc_updc]
    refine k1 y _ (by rw [updc_ne (Ne.symm hpA)]; exact hA) ⟨k3, rfl, hk3, by simp; omega, fun x hx => ?_⟩
    rcases List.mem_append.mp hx with h | h
    · exact hb x h
    · simp only [List.mem_singleton] at h; subst h; exact hy
  · rintro out c2 ⟨k', rfl, hk', hi, hb⟩ _
    rw [if_neg (by decide)]
    exact q out k' hi hb hk'
/-- letters drawn -/
def isLetter (d : D) : Prop := ∃ x, d = .str x ∧ SOk 1 x
/-! comprehensions over a mapped list, their elements changing nothing -/
theorem comp_mapG {G : CMap → Prop} {m : Bool} {α : Type} {xs : List α} {g : α → D} {step : D → CMap → (Option D → CMap → Prop) → Prop} {A : Addr} {c : CMap} {Q : DK} (f : α → Option D) (hA : c A = none) (hl : xs.length < 16777216) (hg : ∀ k, G (updc c A k))
    (hs : ∀ (x : α) (c' : CMap) (k : Option D → CMap → Prop), x ∈ xs → (∀ b y, c b = some y → c' b = some y) → k (f x) c' → step (g x) c' k) (q : if m = true then Q (.ref A) (updc c A (.lst (xs.filterMap f))) else Q (.lst (xs.filterMap f)) c) : CompP m step A (xs.map g) G c Q := by
  refine comp_invG hA (fun i acc c' => c' = c ∧ acc = (xs.take i).filterMap f) (by rw [List.length_map]; exact hl) ⟨rfl, by simp⟩ ?_ (by rintro i acc c2 ⟨rfl, _⟩ _; exact hg _) ?_
  · rintro i d acc c' k e ⟨rfl, rfl⟩ hA' k1 k2
    obtain ⟨x, hx, rfl⟩ := mem_map_at e
    refine hs x _ k (List.mem_of_getElem? hx) (fun b y h => by rw [updc_ne (ne_some_none h hA')]; exact h) ?_
    have et : (xs.take (i + 1)).filterMap f = (xs.take i).filterMap f ++ (f x).toList := by
      rw [List.take_add_one, hx, List.filterMap_append]
      cases h : f x <;> simp [h]
    cases h : f x with
    | some y => exact k1 y _ hA' ⟨rfl, by rw [et, h]; rfl⟩
    | none => exact k2 _ hA' ⟨rfl, by rw [et, h]; simp⟩
  · rintro out c2 ⟨rfl, rfl⟩ _
    rw [List.length_map, List.take_length]
    exact q
theorem comp_mapL {G : CMap → Prop} [FreeG G] {α : Type} {xs : List α} {g : α → D} {step : D → CMap → (Option D → CMap → Prop) → Prop} {A : Addr} {c : CMap} {Q : DK} (f : α → Option D) (hA : c A = none) (hl : xs.length < 16777216)
    (hs : ∀ (x : α) (c' : CMap) (k : Option D → CMap → Prop), x ∈ xs → (∀ b y, c b = some y → c' b = some y) → k (f x) c' → step (g x) c' k) (q : Q (.lst (xs.filterMap f)) c) : CompP false step A (xs.map g) G c Q :=
  comp_mapG f hA hl (fun _ => FreeG.all _) hs (by rw [if_neg (by decide)]; exact q)
theorem comp_mapR {G : CMap → Prop} [FreeG G] {α : Type} {xs : List α} {g : α → D} {step : D → CMap → (Option D → CMap → Prop) → Prop} {A : Addr} {c : CMap} {Q : DK} (f : α → Option D) (hA : c A = none) (hl : xs.length < 16777216)
    (hs : ∀ (x : α) (c' : CMap) (k : Option D → CMap → Prop), x ∈ xs → (∀ b y, c b = some y → c' b = some y) → k (f x) c' → step (g x) c' k) (q : Q (.ref A) (updc c A (.lst (xs.filterMap f)))) : CompP true step A (xs.map g) G c Q :=
  comp_mapG f hA hl (fun _ => FreeG.all _) hs (by rw [if_pos rfl]; exact q)
theorem fm_some {α β : Type} (f : α → β) (xs : List α) : xs.filterMap (fun x => some (f x)) = xs.map f := by rw [List.filterMap_eq_map']
theorem fm_if {α β : Type} (p : α → Prop) [DecidablePred p] (f : α → β) : ∀ xs : List α, xs.filterMap (fun x => if p x then some (f x) else none) = (xs.filter fun x => decide (p x)).map f
  | [] => rfl
  | x :: r => by
    rw [List.filterMap_cons, List.filter_cons, fm_if p f r]
    by_cases h : p x <;> simp [h]
theorem res_or {c : CMap} {d : D} {ds : List D} (h : res c d = .lst ds) : d = .lst ds ∨ ∃ p, d = .ref p ∧ c p = some (.lst ds) := by
  cases d with
  | ref p =>
    right
    rcases resAt_cases (c p) p with ⟨es, e1, e2⟩ | e2
    · have q : D.lst es = .lst ds := e2.symm.trans h
      injection q with q
      subst q
      exact ⟨p, rfl, e1⟩
    · have q : D.ref p = .lst ds := e2.symm.trans h
      cases q
  | _ => exact .inl h
theorem res_tyN {c : CMap} {d : D} {ds : List D} (h : res c d = .lst ds) : tyN c d = some "list" := by
  rcases res_or h with rfl | ⟨p, rfl, e⟩
  · rfl
  · show cellTy (c p) = _; rw [e]; rfl
theorem len_res {c : CMap} {Q : DK} {d : D} {ds : List D} (h : res c d = .lst ds) (q : Q (.int ds.length) c) : lenR c [d] Q := by unfold lenR; dsimp only; rw [h]; exact q
theorem res_lsG {c : CMap} {d : D} {ds : List D} (h : res c d = .lst ds) : ∃ G, LsG c d ds G ∧ ∀ A k, c A = none → G (updc c A k) := by
  rcases res_or h with rfl | ⟨p, rfl, e⟩
  · exact ⟨_, .inl ⟨rfl, rfl⟩, fun _ _ _ => trivial⟩
  · exact ⟨_, .inr ⟨p, rfl, e, rfl⟩, fun A k hA => by show updc c A k p = _; rw [updc_ne (ne_some_none e hA)]; exact e⟩
/-! what a value is, its lists resolved -/
def Rsv (c : CMap) : Nat → D → D → Prop
  | 0, _, _ => False
  | n + 1, d, .lst es => ∃ ds, res c d = .lst ds ∧ ds.length < 16777216 ∧ Paired (Rsv c n) ds es
  | n + 1, d, .tup es => ∃ ds, d = .tup ds ∧ ds.length < 16777216 ∧ Paired (Rsv c n) ds es
  | _ + 1, d, .int i => d = .int i
  | _ + 1, d, .str x => d = .str x ∧ PyData.strOk x = true
  | _ + 1, _, _ => False
theorem pair_map {α : Type} {R : D → D → Prop} {f g : α → D} : ∀ {xs : List α}, (∀ x ∈ xs, R (f x) (g x)) → Paired R (xs.map f) (xs.map g)
  | [], _ => .nil
  | x :: r, h => .cons (h x (by simp)) (pair_map fun y hy => h y (by simp [hy]))
theorem pair_app {R : D → D → Prop} {a b a' b' : List D} (h : Paired R a b) (h' : Paired R a' b') : Paired R (a ++ a') (b ++ b') := by
  induction h with
  | nil => exact h'
  | cons q t ih => exact .cons q ih
theorem pair_zip {R : D → D → Prop} {a b : List D} (h : Paired R a b) : ∀ p ∈ a.zip b, R p.1 p.2 := by
  induction h with
  | nil => intro p hp; cases hp
  | cons q t ih =>
    intro p hp
    rw [List.zip_cons_cons] at hp
    rcases List.mem_cons.mp hp with rfl | hp
    · exact q
    · exact ih p hp
theorem zip_res {c : CMap} {d : D} {xs ys : List D} {N : List D → (CMap → Prop) → CMap → Prop} (h : res c d = .lst xs) (q : ∀ G : CMap → Prop, (∀ A k, c A = none → G (updc c A k)) → N ((xs.zip ys).map fun p => D.tup [p.1, p.2]) G c) : zipR [d, .lst ys] c N := by
  obtain ⟨G, g1, g2⟩ := res_lsG h
  exact .inl ⟨xs, ys, _, _, g1, .inl ⟨rfl, rfl⟩, q _ fun A k hA => ⟨g2 A k hA, trivial⟩⟩
theorem bls_true {α : Type} (xs : List α) : ∃ bs, blsD (xs.filterMap fun _ => some (D.bl true)) = some bs ∧ bs.all id = true := by
  refine ⟨xs.map fun _ => true, ?_, by simp⟩
  rw [fm_some]
  have : (xs.map fun _ => D.bl true) = (xs.map fun _ => true).map D.bl := by rw [List.map_map]; rfl
  rw [this, blsD_map]
theorem pair_imp {R S : D → D → Prop} {a b : List D} (h : Paired R a b) (k : ∀ x y, R x y → S x y) : Paired S a b := by
  induction h with
  | nil => exact .nil
  | cons q t ih => exact .cons (k _ _ q) ih
theorem res_sub {c c' : CMap} {d : D} {ds : List D} (s : ∀ b y, c b = some y → c' b = some y) (h : res c d = .lst ds) : res c' d = .lst ds := by
  rcases res_or h with rfl | ⟨p, rfl, e⟩
  · rfl
  · exact res_c (s _ _ e)
theorem rsv_sub {c c' : CMap} (s : ∀ b y, c b = some y → c' b = some y) : ∀ (n : Nat) (d e : D), Rsv c n d e → Rsv c' n d e
  | 0, _, _, h => h
  | n + 1, d, .lst es, ⟨ds, h1, h2, h3⟩ => ⟨ds, res_sub s h1, h2, pair_imp h3 (rsv_sub s n)⟩
  | n + 1, d, .tup es, ⟨ds, h1, h2, h3⟩ => ⟨ds, h1, h2, pair_imp h3 (rsv_sub s n)⟩
  | _ + 1, d, .int i, h => h
  | _ + 1, d, .str x, h => h
  | _ + 1, _, .non, h => h
  | _ + 1, _, .bl _, h => h
  | _ + 1, _, .kt _, h => h
  | _ + 1, _, .scr _, h => h
  | _ + 1, _, .ref _, h => h
  | _ + 1, _, .ty _, h => h
/-! draws out of a bag: f more draws may come -/
def BgOk (f : Nat) (k : Cell) : Prop := ∃ (ns : List Int) (i r n t : Int), k = .lst [.lst (ns.map D.int), .int i, .int r, .int n, .int t] ∧ ns.length ≤ 63 ∧ 0 ≤ i ∧ i ≤ (ns.length : Int) ∧ 0 ≤ n ∧ n + f ≤ 1000000000000 ∧ 0 ≤ t ∧ t < 2305843009213693951 ∧ 0 ≤ r
theorem BgOk.mono {f g : Nat} {k : Cell} (h : BgOk f k) (l : g ≤ f) : BgOk g k := by
  obtain ⟨ns, i, r, n, t, h1, h2, h3, h4, h5, h6, h7⟩ := h
  exact ⟨ns, i, r, n, t, h1, h2, h3, h4, h5, by omega, h7⟩
def sp_law_bag : DSpec := fun ds c E Q => ∃ ns : List Int, ds = [.scr ns] ∧ ns.length ≤ 63 ∧ ∀ p z, c p = none → BgOk 1000000000 z → Q (.ref p) (updc c p z)
theorem ok_law_bag {ds c E Q} (h : sp_law_bag ds c E Q) : b_law_bag (endD E Q) (startE 3 ds) c := by
  obtain ⟨ns, rfl, hl, q⟩ := h
  unfold b_law_bag
  walk_at "go"
  refine for_inv (fun i env c' => c' = c ∧ ∃ (s : Int) (v2 : Option D), env = [some (.scr ns), some (.int s), v2] ∧ 0 ≤ s ∧ s < 2305843009213693951) ⟨rfl, _, _, rfl, by decide, by decide⟩ ?_ ?_
  · rintro i d env c' e ⟨rfl, s, v2, rfl, s0, s1⟩
    obtain ⟨x, hx, rfl⟩ := mem_map_at e
    walk_at "go"
    exact ⟨rfl, _, _, rfl, Int.emod_nonneg _ (by decide), Int.emod_lt_of_pos _ (by decide)⟩
  rintro env c' ⟨rfl, s, v2, rfl, s0, s1⟩
  walk_at "go"
  refine newL_t fun p hp => ?_
  exact ⟨_, SubC.rfl', q p _ hp ⟨ns, 0, 0, 0, s, rfl, hl, by decide, by omega, by decide, by decide, s0, s1, by decide⟩⟩
def sp_law_stir : DSpec := fun ds c E Q => ∃ a b : Int, ds = [.int a, .int b] ∧ 0 ≤ a ∧ a < 2305843009213693951 ∧ 0 ≤ b ∧ b < 10000000000000 ∧ ∀ v : Int, 0 ≤ v → Q (.int v) c
theorem ok_law_stir {ds c E Q} (h : sp_law_stir ds c E Q) : b_law_stir (endD E Q) (startE 4 ds) c := by
  obtain ⟨a, b, rfl, a0, a1, b0, b1, q⟩ := h
  have m1 : ∀ x : Int, 0 ≤ x % 2305843009213693951 ∧ x % 2305843009213693951 < 2305843009213693951 := fun x => ⟨Int.emod_nonneg _ (by decide), Int.emod_lt_of_pos _ (by decide)⟩
  have bb : 0 ≤ b * b := Int.mul_nonneg b0 b0
  unfold b_law_stir
  walk_at "go"
  refine ⟨_, SubC.rfl', q _ ?_⟩
  exact Int.ediv_nonneg (Int.emod_nonneg _ (by decide)) (by decide)
def sp_law_draw : DSpec := fun ds c E Q => ∃ (p : Addr) (m : Int) (k : Cell) (f : Nat), ds = [.ref p, .int m] ∧ c p = some k ∧ BgOk (f + 1) k ∧ 0 < m ∧ m < 1000000000000000000000000000000 ∧ ∀ (v : Int) k', 0 ≤ v → v < m → BgOk f k' → Q (.int v) (updc c p k')
theorem ix_int {c : CMap} {Q : DK} {xs : List Int} {i : Int} (h0 : 0 ≤ i) (h1 : i < (xs.length : Int)) (q : ∀ x, Q (.int x) c) : idxR c (.lst (xs.map D.int)) (.int i) Q := by
  have h : i.toNat < xs.length := by omega
  exact ix_l (atn (j := i.toNat) (by omega) (by rw [List.getElem?_map, List.getElem?_eq_getElem h]; rfl)) (q _)
theorem ok_law_draw {ds c E Q} (h : sp_law_draw ds c E Q) : b_law_draw sp_law_stir (endD E Q) (startE 4 ds) c := by
  obtain ⟨p, m, k, f, rfl, hp, ⟨ns, i, r, n, t, rfl, hl, i0, i1, n0, n1, t0, t1, r0⟩, m0, m1, q⟩ := h
  have md : ∀ x : Int, 0 ≤ x % m ∧ x % m < m := fun x => ⟨Int.emod_nonneg _ (by omega), Int.emod_lt_of_pos _ m0⟩
  have dv : ∀ i : Int, CDiv i m ∨ CDivW i m := fun i => by
    right
    refine ⟨m0, ?_⟩
    have h : m.natAbs.log2 < 128 := by
      refine (Nat.log2_lt (by omega)).mpr ?_
      have : (2 : Nat) ^ 128 = 340282366920938463463374607431768211456 := by decide
      omega
    omega
  unfold b_law_draw
  walk_at "go"
  refine ite_fd (fun h => ?_) (fun h1 => ?_)
  · walk_at "go"
    refine ⟨_, SubC.rfl', ?_⟩
    have := q 0 _ (by decide) m0 ⟨ns, i, r, n, t, rfl, hl, i0, i1, n0, by omega, t0, t1, r0⟩
    rw [updc_self hp] at this
    exact this
  walk_at "go"
  have last : ∀ (r' i' : Int), 0 ≤ r' → 0 ≤ i' → i' ≤ (ns.length : Int) → ∃ c2, SubC c2 (updc c p (.lst [.lst (ns.map D.int), .int i', .int (r' / m), .int (n + 1), .int t])) ∧ Q (.int (r' % m)) c2 := fun r' i' h1 h2 h3 => ⟨_, SubC.rfl', q _ _ (md _).1 (md _).2 ⟨ns, i', r' / m, n + 1, t, rfl, hl, h2, h3, by omega, by omega, t0, t1, Int.ediv_nonneg h1 (by omega)⟩⟩
  have fin : ∀ (v i' : Int), 0 ≤ v → 0 ≤ i' → i' ≤ (ns.length : Int) → ∃ c2, SubC c2 (updc c p (.lst [.lst (ns.map D.int), .int i', .int r, .int (n + 1), .int t])) ∧ Q (.int (v % m)) c2 := fun v i' h1 h2 h3 => ⟨_, SubC.rfl', q _ _ (md _).1 (md _).2 ⟨ns, i', r, n + 1, t, rfl, hl, h2, h3, by omega, by omega, t0, t1, r0⟩⟩
  by_cases h2 : r < 2
  · by_cases h3 : i = (ns.length : Int)
    · rw [show decide (r < 2) = true from decide_eq_true h2]
      walk_at "go"
      rw [List.length_map, show (false ^^ decide (i = (ns.length : Int))) = true from by simp [h3]]
      walk_at "go"
      refine ⟨t, n + 1, rfl, t0, t1, by omega, by omega, fun v v0 => ?_⟩
      walk_at "go"
      exact fin v i v0 i0 i1
    · rw [show decide (r < 2) = true from decide_eq_true h2]
      walk_at "go"
      rw [List.length_map, show (false ^^ decide (i = (ns.length : Int))) = false from by simp [h3]]
      walk_at "go"
      rw [show decide (r < 2) = true from decide_eq_true h2]
      walk_at "go"
      refine ix_int i0 (by omega) fun x => ?_
      walk_at "go"
      refine ite_d (fun h4 => ?_) (fun h4 => ?_)
      · walk_at "go"
        refine ⟨_, n + 1, rfl, Int.emod_nonneg _ (by decide), Int.emod_lt_of_pos _ (by decide), by omega, by omega, fun v v0 => ?_⟩
        walk_at "go"
        rw [updc_updc]
        exact fin v (i + 1) v0 (by omega) (by omega)
      · walk_at "go"
        refine fdiv_ii (dv _) ?_
        walk_at "go"
        rw [updc_updc, updc_updc, updc_updc]
        exact last _ (i + 1) (by omega) (by omega) (by omega)
  · rw [show decide (r < 2) = false from decide_eq_false h2]
    walk_at "go"
    rw [show decide (r < 2) = false from decide_eq_false h2]
    walk_at "go"
    refine fdiv_ii (dv _) ?_
    walk_at "go"
    rw [updc_updc]
    exact last _ i r0 i0 i1
/-- a comprehension whose elements draw -/
theorem comp_fuel {G : CMap → Prop} [FreeG G] {step : D → CMap → (Option D → CMap → Prop) → Prop} {c : CMap} {A p : Addr} {ds : List D} {Q : DK} {k : Cell} (ok : Nat → Cell → Prop) (T : D → Prop) (hA : c A = none) (hl : ds.length < 16777216) (hp : c p = some k) (hk : ok 0 k)
    (hs : ∀ (i : Nat) (d : D) (c' : CMap) (K : Option D → CMap → Prop) (k1 : Cell), ds[i]? = some d → c' p = some k1 → ok i k1 → (∀ b x, c b = some x → b ≠ p → c' b = some x) → (∀ (y : D) k', T y → ok (i + 1) k' → K (some y) (updc c' p k')) → (∀ k', ok (i + 1) k' → K none (updc c' p k')) → step d c' K)
    (q : ∀ (out : List D) k', out.length ≤ ds.length → (∀ y ∈ out, T y) → ok ds.length k' → Q (.lst out) (updc c p k')) : CompP false step A ds G c Q := by
  refine comp_inv hA (fun i acc c' => ∃ (k' : Cell), c' = updc c p k' ∧ ok i k' ∧ acc.length ≤ i ∧ ∀ x ∈ acc, T x) hl ⟨k, (updc_self hp).symm, hk, Nat.le_refl _, fun _ h => by cases h⟩ ?_ ?_
  · rintro i d acc c' K e ⟨k', rfl, hk', hi, hb⟩ hA' k1 k2
    have hpA : p ≠ A := ne_some_none (c := updc c p k') updc_same hA'
    refine hs i d _ K k' e (by rw [updc_ne hpA, updc_same]) hk' (fun b x h hb => by rw [updc_ne (ne_some_none h hA), updc_ne hb]; exact h) (fun y k3 hy hk3 => ?_) fun k3 hk3 => ?_
    · rw [updc_comm (Ne.symm hpA), updc_updc]
      refine k1 y _ (by rw [updc_ne (Ne.symm hpA)]; exact hA) ⟨k3, rfl, hk3, by simp; omega, fun x hx => ?_⟩
      rcases List.mem_append.mp hx with h | h
      · exact hb x h
      · simp only [List.mem_singleton] at h; subst h; exact hy
    · rw [updc_comm (Ne.symm hpA), updc_updc]
      exact k2 _ (by rw [updc_ne (Ne.symm hpA)]; exact hA) ⟨k3, rfl, hk3, by omega, hb⟩
  · rintro out c2 ⟨k', rfl, hk', hi, hb⟩ _
    rw [if_neg (by decide)]
    exact q out k' hi hb hk'
theorem comp_fuel1 {G : CMap → Prop} [FreeG G] {step : D → CMap → (Option D → CMap → Prop) → Prop} {c : CMap} {A p : Addr} {ds : List D} {Q : DK} {k : Cell} (ok : Nat → Cell → Prop) (T : D → Prop) (hA : c A = none) (hl : ds.length < 16777216) (hp : c p = some k) (hk : ok 0 k)
    (hs : ∀ (i : Nat) (d : D) (c' : CMap) (K : Option D → CMap → Prop) (k1 : Cell), ds[i]? = some d → c' p = some k1 → ok i k1 → (∀ b x, c b = some x → b ≠ p → c' b = some x) → (∀ (y : D) k', T y → ok (i + 1) k' → K (some y) (updc c' p k')) → step d c' K)
    (q : ∀ (out : List D) k', out.length = ds.length → (∀ y ∈ out, T y) → ok ds.length k' → Q (.lst out) (updc c p k')) : CompP false step A ds G c Q := by
  refine comp_inv hA (fun i acc c' => ∃ (k' : Cell), c' = updc c p k' ∧ ok i k' ∧ acc.length = i ∧ ∀ x ∈ acc, T x) hl ⟨k, (updc_self hp).symm, hk, rfl, fun _ h => by cases h⟩ ?_ ?_
  · rintro i d acc c' K e ⟨k', rfl, hk', hi, hb⟩ hA' k1 k2
    have hpA : p ≠ A := ne_some_none (c := updc c p k') updc_same hA'
    refine hs i d _ K k' e (by rw [updc_ne hpA, updc_same]) hk' (fun b x h hb => by rw [updc_ne (ne_some_none h hA), updc_ne hb]; exact h) (fun y k3 hy hk3 => ?_)
    rw [updc_comm (Ne.symm hpA), updc_updc]
    refine k1 y _ (by rw [updc_ne (Ne.symm hpA)]; exact hA) ⟨k3, rfl, hk3, by simp; omega, fun x hx => ?_⟩
    rcases List.mem_append.mp hx with h | h
    · exact hb x h
    · simp only [List.mem_singleton] at h; subst h; exact hy
  · rintro out c2 ⟨k', rfl, hk', hi, hb⟩ _
    rw [if_neg (by decide)]
    exact q out k' hi hb hk'
/-! words -/
theorem back_len (k : Int) (h0 : 0 ≤ k) (h1 : k < 8) (n : Nat) : (Builtin.Str.strSliceIndices (some k) none (-1) n).length ≤ 8 := by
  unfold Builtin.Str.strSliceIndices PySem.sliceRange
  simp only [List.length_map, List.length_range]
  split <;> split <;> simp <;> omega
theorem SOk.pick {n m : Nat} {z : Str} (h : SOk n z) {l : List Nat} (hl : l.length ≤ m) : SOk m ⟨(l.filterMap (z.cps[·]?)).toArray⟩ := by
  refine .of_list (Nat.le_trans (List.length_filterMap_le _ _) hl) fun k hk => ?_
  obtain ⟨i, _, e⟩ := List.mem_filterMap.mp hk
  refine h.list k ?_
  rw [← Array.mem_def]
  exact Array.mem_of_getElem? e
theorem pick_six {c : CMap} {Q : DK} {z : Str} {i : Int} {n : Nat} (h : SOk n z) (hn : n ≤ 1000) (h0 : 0 ≤ i) (h1 : i < (z.length : Int)) (q : ∀ x, SOk 1 x → Q (.str x) c) : idxR c (.str z) (.int i) Q := ix_sok h (by omega) h0 h1 q
theorem letters_draw {c : CMap} {Q : DK} {A p : Addr} {k : Cell} {n : Int} {f : Nat} (hn : n ≤ 16) (hA : c A = none) (hp : c p = some k) (hk : BgOk (f + 16) k) {step : D → CMap → (Option D → CMap → Prop) → Prop}
    (hs : ∀ (d : D) (c' : CMap) (K : Option D → CMap → Prop) (k1 : Cell) (g : Nat), c' p = some k1 → BgOk (g + 1) k1 → (∀ x k', SOk 1 x → BgOk g k' → K (some (.str x)) (updc c' p k')) → step d c' K)
    (q : ∀ (xs : List Str) k', xs.length = n.toNat → (∀ x ∈ xs, SOk 1 x) → BgOk f k' → Q (.lst (xs.map D.str)) (updc c p k')) : CompP false step A ((upto 0 n.toNat).map D.int) noG c Q := by
  refine comp_fuel1 (fun i k => BgOk (f + (16 - i)) k) isLetter hA (by rw [List.length_map, upto_len]; omega) hp hk ?_ ?_
  · intro i d c' K k1 e h1 h2 _ hK
    obtain ⟨x, hx, rfl⟩ := mem_map_at e
    obtain ⟨hx1, _⟩ := upto_at hx
    exact hs _ c' K k1 (f + (16 - (i + 1))) h1 (h2.mono (by omega)) fun x k' hx hk' => hK _ k' ⟨x, rfl, hx⟩ hk'
  · intro out k' ho hT hk'
    rw [List.length_map, upto_len] at ho
    obtain ⟨xs, rfl, hxs⟩ := all_map hT
    rw [List.length_map] at ho
    exact q xs k' ho hxs (hk'.mono (by omega))
theorem erase_map {α β : Type} (f : α → β) : ∀ (xs : List α) (i : Nat), (xs.map f).eraseIdx i = (xs.eraseIdx i).map f
  | [], _ => rfl
  | x :: r, 0 => rfl
  | x :: r, i + 1 => by simp only [List.map_cons, List.eraseIdx_cons_succ, erase_map f r i]
/-! words, no two of them alike -/
theorem cons_erase_perm {α : Type} : ∀ {l : List α} {i : Nat} (h : i < l.length), (l[i] :: l.eraseIdx i).Perm l
  | a :: r, 0, _ => List.Perm.refl _
  | a :: r, i + 1, h => by
    simp only [List.getElem_cons_succ, List.eraseIdx_cons_succ]
    exact (List.Perm.swap _ _ _).trans ((cons_erase_perm (l := r) (i := i) (by simpa using h)).cons a)
theorem nodup_map {α β : Type} {f : α → β} {xs : List α} (h : xs.Nodup) (i : ∀ a ∈ xs, ∀ b ∈ xs, f a = f b → a = b) : (xs.map f).Nodup := by
  unfold List.Nodup
  rw [List.pairwise_map]
  refine List.Pairwise.imp_of_mem ?_ h
  intro a b ha hb n z
  exact n (i a ha b hb z)
theorem str_app_l (x y : Str) : (x ++ y).cps.toList = x.cps.toList ++ y.cps.toList := by
  show (x.cps ++ y.cps).toList = _
  simp
theorem letters_nodup (x y : Str) : ((Str.ofString "abcdefghijklmnopqrstuvwxyz").cps.toList.map fun k => x ++ ⟨#[k]⟩ ++ y).Nodup := by
  refine nodup_map (by decide +kernel) fun a _ b _ h => ?_
  have h := congrArg (fun s : Str => s.cps.toList) h
  simp only [str_app_l] at h
  have h2 := List.append_cancel_left (List.append_cancel_right h)
  simpa using h2
theorem cut_len_to {z : Str} {k : Nat} (h : k ≤ z.length) : (cutS z none (some (k : Int))).length = k := by
  have e : (cutS z none (some (k : Int))).cps.toList = z.cps.toList.take k := by
    rw [show (cutS z none (some (k : Int))).cps.toList = cutG z.cps.toList none (some (k : Int)) from by unfold cutS cutG; simp [Str.length]]
    exact cut_to _ k
  have := congrArg List.length e
  rw [List.length_take] at this
  have h2 : z.cps.toList.length = z.length := by simp [Str.length]
  have h3 : (cutS z none (some (k : Int))).cps.toList.length = (cutS z none (some (k : Int))).length := by simp [Str.length]
  omega
theorem mem8 {x : Int} (h : x ∈ upto 0 (8 : Int).toNat) : 0 ≤ x ∧ x < 8 := by
  revert x
  decide
theorem begs_nodup {z : Str} (h : 8 ≤ z.length) : ((upto 0 (8 : Int).toNat).map fun i => cutS z none (some (i + 1))).Nodup := by
  refine nodup_map (by decide) fun a ha b hb e => ?_
  obtain ⟨a0, a1⟩ := mem8 ha
  obtain ⟨b0, b1⟩ := mem8 hb
  obtain ⟨i, hi⟩ : ∃ i : Nat, a + 1 = (i : Int) := ⟨(a + 1).toNat, by omega⟩
  obtain ⟨j, hj⟩ : ∃ j : Nat, b + 1 = (j : Int) := ⟨(b + 1).toNat, by omega⟩
  simp only [hi, hj] at e
  have e := congrArg Str.length e
  rw [cut_len_to (by omega), cut_len_to (by omega)] at e
  omega
theorem back_len_eq (k : Nat) (n : Nat) (h : k < n) : ((Builtin.Str.strSliceIndices (some (k : Int)) none (-1) n).length = k + 1) ∧ ∀ x ∈ Builtin.Str.strSliceIndices (some (k : Int)) none (-1) n, x < n := by
  unfold Builtin.Str.strSliceIndices PySem.sliceRange
  constructor
  · simp only [List.length_map, List.length_range]
    split <;> split <;> simp <;> omega
  · intro x hx
    simp only [List.mem_map, List.mem_range] at hx
    revert hx
    split <;> split <;> simp <;> omega
theorem fm_len {α : Type} {xs : List α} : ∀ {l : List Nat}, (∀ x ∈ l, x < xs.length) → (l.filterMap (xs[·]?)).length = l.length
  | [], _ => rfl
  | a :: r, h => by
    have ha := h a List.mem_cons_self
    rw [List.filterMap_cons, List.getElem?_eq_getElem ha]
    simp only [List.length_cons]
    rw [fm_len fun x hx => h x (List.mem_cons_of_mem _ hx)]
theorem backs_nodup {z : Str} (h : 8 ≤ z.length) : ((upto 0 (8 : Int).toNat).map fun i => (⟨((Builtin.Str.strSliceIndices (some i) none (-1) z.length).filterMap (z.cps[·]?)).toArray⟩ : Str)).Nodup := by
  refine nodup_map (by decide) fun a ha b hb e => ?_
  obtain ⟨a0, a1⟩ := mem8 ha
  obtain ⟨b0, b1⟩ := mem8 hb
  obtain ⟨i, rfl⟩ : ∃ i : Nat, a = (i : Int) := ⟨a.toNat, by omega⟩
  obtain ⟨j, rfl⟩ : ∃ j : Nat, b = (j : Int) := ⟨b.toNat, by omega⟩
  have hz : z.cps.toList.length = z.length := by simp [Str.length]
  obtain ⟨i1, i2⟩ := back_len_eq i z.length (by omega)
  obtain ⟨j1, j2⟩ := back_len_eq j z.length (by omega)
  have e := congrArg (fun s : Str => s.cps.toList.length) e
  simp only [← Array.getElem?_toList] at e
  rw [fm_len (xs := z.cps.toList) (by rw [hz]; exact i2), fm_len (xs := z.cps.toList) (by rw [hz]; exact j2), i1, j1] at e
  omega
theorem jk_six {n : Nat} {k : Nat} (h : (Str.ofString "jkqvxz").cps.toList[n]? = some k) : k = 106 ∨ k = 107 ∨ k = 113 ∨ k = 118 ∨ k = 120 ∨ k = 122 := by
  have h := List.mem_of_getElem? h
  rw [show (Str.ofString "jkqvxz").cps.toList = [106, 107, 113, 118, 120, 122] from by decide +kernel] at h
  simpa using h
theorem head_of {x y : Nat} {z : Str} (h : ((⟨#[x]⟩ : Str) ++ z).cps.toList[(0 : Int).toNat]? = some y) : y = x := by
  rw [str_app_l] at h
  simpa using h.symm
theorem turns_nodup {k : Nat} (h : k = 106 ∨ k = 107 ∨ k = 113 ∨ k = 118 ∨ k = 120 ∨ k = 122) : ((upto 0 (8 : Int).toNat).map fun i => cutS (Str.ofString "abcdefg" ++ (⟨#[k]⟩ : Str)) (some i) none ++ cutS (Str.ofString "abcdefg" ++ (⟨#[k]⟩ : Str)) none (some i)).Nodup := by
  rcases h with rfl | rfl | rfl | rfl | rfl | rfl <;> decide +kernel
theorem menu_nodup (x : Str) : (["a", "b", "c", "names", "letters", "said", "box", "whom", "ab", "abc", x ++ Str.ofString "q"] : List Str).Nodup := by
  have key : ∀ s ∈ (["a", "b", "c", "names", "letters", "said", "box", "whom", "ab", "abc"] : List Str), s ≠ x ++ Str.ofString "q" := by
    intro s hs z
    have h1 : (x ++ Str.ofString "q").cps.toList.getLast? = some 113 := by
      rw [str_app_l, show (Str.ofString "q").cps.toList = [113] from by decide +kernel]
      simp
    rw [← z] at h1
    have all : ∀ s ∈ (["a", "b", "c", "names", "letters", "said", "box", "whom", "ab", "abc"] : List Str), s.cps.toList.getLast? ≠ some 113 := by decide +kernel
    exact all s hs h1
  have h := List.nodup_append.mpr ⟨(by decide +kernel : (["a", "b", "c", "names", "letters", "said", "box", "whom", "ab", "abc"] : List Str).Nodup), (by simp : [x ++ Str.ofString "q"].Nodup), fun a ha b hb => by
    simp only [List.mem_singleton] at hb
    subst hb
    exact key a ha⟩
  exact h
/-- words are taken out of a menu -/
theorem ok_law_words_6 {c c1 : CMap} {E : XD} {Q : DK} {p u : Addr} {k : Cell} {n : Int} {ws : List Str} {f : Nat} {v2 v3 v4 v5 v6 v8 v9 v10 v11 : Option D} (hp : c1 p = some k) (hk : BgOk (f + 32) k) (hu : c1 u = some (.lst (ws.map D.str))) (pu : p ≠ u) (hw : ∀ x ∈ ws, SOk 40 x) (hnd : ws.Nodup) (n0 : 0 ≤ n) (n1 : n ≤ ws.length) (n2 : n ≤ 30) (hwl : ws.length ≤ 100) (sb : ∀ k', SubC (updc c p k') (updc c1 p k')) (hcu : c u = none)
    (q : ∀ (ss : List Str) k', (ss.length : Int) = n → (∀ s ∈ ss, SOk 40 s) → ss.Nodup → BgOk f k' → Q (.lst (ss.map D.str)) (updc c p k')) : b_law_words_6 sp_law_draw (endD E Q) [some (.ref p), some (.int n), v2, v3, v4, v5, v6, some (.ref u), v8, v9, v10, v11] c1 := by
  unfold b_law_words_6
  walk_at "go"
  intro A hA
  have pA : p ≠ A := ne_some_none hp hA
  have uA : u ≠ A := ne_some_none hu hA
  refine comp_inv hA (fun i acc c' => ∃ (k' : Cell) (ss xs : List Str), c' = updc (updc c1 p k') u (.lst (xs.map D.str)) ∧ BgOk (f + (32 - i)) k' ∧ acc = ss.map D.str ∧ ss.length = i ∧ xs.length + i = ws.length ∧ (∀ x ∈ ss, SOk 40 x) ∧ (∀ x ∈ xs, SOk 40 x) ∧ (ss ++ xs).Perm ws) (by rw [List.length_map, upto_len]; omega) ⟨k, [], ws, by rw [updc_self hp, updc_self hu], hk, rfl, rfl, rfl, by simp, hw, List.Perm.refl _⟩ ?_ ?_
  · rintro i d acc c' K e ⟨k', ss, xs, rfl, hk', rfl, h1, h2, h3, h4, h5⟩ hA' k1 k2
    obtain ⟨y, hy, rfl⟩ := mem_map_at e
    obtain ⟨hy1, _⟩ := upto_at hy
    walk_at "go"
    refine ⟨ty_c (by walk_at "cl"), ?_⟩
    walk_at "go"
    refine ⟨p, (xs.length : Int), k', f + (32 - (i + 1)), by rw [List.length_map], by walk_at "cl", hk'.mono (by omega), by omega, by omega, fun v k3 v0 v1 hk3 => ?_⟩
    walk_at "go"
    have hv : v.toNat < xs.length := by omega
    rw [show v = ((v.toNat : Nat) : Int) from by omega]
    refine popAt_c (by walk_at "cl") (by omega) (y := .str xs[v.toNat]) (by rw [List.getElem?_map, List.getElem?_eq_getElem hv]; rfl) ?_
    have e1 : updc (updc (updc (updc (updc c1 p k') u (.lst (xs.map D.str))) A (.lst (ss.map D.str))) p k3) u (.lst ((xs.map D.str).eraseIdx v.toNat)) = updc (updc (updc c1 p k3) u (.lst ((xs.eraseIdx v.toNat).map D.str))) A (.lst (ss.map D.str)) := by
      rw [updc_comm (a := A) (b := p) (Ne.symm pA), updc_comm (a := u) (b := p) (Ne.symm pu), updc_updc, updc_comm (a := A) (b := u) (Ne.symm uA), updc_updc, erase_map]
    rw [e1]
    refine k1 _ _ (by rw [updc_ne (Ne.symm uA), updc_ne (Ne.symm pA)]; exact hA) ⟨k3, ss ++ [xs[v.toNat]], xs.eraseIdx v.toNat, rfl, hk3, by simp, by simp [h1], by rw [List.length_eraseIdx, if_pos hv]; omega, ?_, fun x hx => h4 x (List.mem_of_mem_eraseIdx hx), (by rw [List.append_assoc]; exact ((cons_erase_perm hv).append_left ss).trans h5)⟩
    intro x hx
    rcases List.mem_append.mp hx with h | h
    · exact h3 x h
    · simp only [List.mem_singleton] at h; subst h; exact h4 _ (List.getElem_mem hv)
  · rintro out c2 ⟨k', ss, xs, rfl, hk', rfl, h1, h2, h3, h4, h5⟩ _
    rw [if_neg (by decide)]
    rw [List.length_map, upto_len] at h1
    refine ⟨updc c p k', ?_, q ss k' (by omega) h3 ((h5.nodup_iff.mpr hnd).sublist (List.sublist_append_left ss xs)) (hk'.mono (by omega))⟩
    exact SubC.newr (sb k') (by rw [updc_ne (Ne.symm pu)]; exact hcu)
theorem ix_chr {c : CMap} {Q : DK} {z : Str} {n : Nat} {i : Int} (h : SOk n z) (hn : n ≤ 16777216) (h0 : 0 ≤ i) (h1 : i < (z.length : Int)) (q : ∀ k : Nat, k < 0x110000 → z.cps.toList[i.toNat]? = some k → Q (.str ⟨#[k]⟩) c) : idxR c (.str z) (.int i) Q := by
  have hl : z.cps.toList.length = z.length := by simp [Str.length]
  have hi : i.toNat < z.cps.toList.length := by omega
  exact ix_str (h.line hn) (atn (j := i.toNat) (by omega) (List.getElem?_eq_getElem hi)) (q _ (h.list _ (List.getElem_mem hi)) (List.getElem?_eq_getElem hi))
theorem app_len (x y : Str) : (x ++ y).length = x.length + y.length := by
  show (x.cps ++ y.cps).size = _
  rw [Array.size_append]; rfl
def sp_law_words : DSpec := fun ds c E Q => ∃ (p : Addr) (k : Cell) (n : Int) (f : Nat), ds = [.ref p, .int n] ∧ c p = some k ∧ BgOk (f + 100) k ∧ 0 ≤ n ∧ n ≤ 25 ∧ ∀ (ss : List Str) k', (ss.length : Int) = n → (∀ s ∈ ss, SOk 40 s) → ss.Nodup → BgOk f k' → Q (.lst (ss.map D.str)) (updc c p k')
theorem abc_char : ∀ k ∈ (Str.ofString "abcdefghijklmnopqrstuvwxyz").cps.toList, k < 0x110000 := by decide +kernel
theorem ok_law_words {ds c E Q} (h : sp_law_words ds c E Q) : b_law_words sp_law_draw (endD E Q) (startE 12 ds) c := by
  obtain ⟨p, k, n, f, rfl, hp, hk, n0, n1, q⟩ := h
  unfold b_law_words
  walk_at "go"
  refine ⟨p, 5, k, f + 99, rfl, hp, hk, by decide, by decide, fun kind k1 kd0 kd1 hk1 => ?_⟩
  walk_at "go"
  refine ⟨p, 6, k1, f + 98, rfl, updc_same, hk1, by decide, by decide, fun v k2 v0 v1 hk2 => ?_⟩
  rw [updc_updc]
  have jk : ((Str.ofString "jkqvxz").length : Int) = 6 := by decide +kernel
  refine ix_chr (z := "jkqvxz") (n := 6) ⟨by decide +kernel, by decide +kernel⟩ (by decide) v0 (by rw [jk]; exact v1) fun b00 hb00 hj0 => ?_
  have hj6 := jk_six hj0
  have hb0 : SOk 1 ⟨#[b00]⟩ := .chr hb00
  walk_at "go"
  refine ⟨ty_s, ?_⟩
  walk_at "go"
  refine ⟨p, 7, k2, f + 97, rfl, updc_same, hk2, by decide, by decide, fun m k3 m0 m1 hk3 => ?_⟩
  rw [updc_updc]
  walk_at "go"
  intro A hA
  refine letters_draw (f := f + 81) (by omega) hA updc_same (hk3.mono (by omega)) ?_ ?_
  · intro d c' K k1 g h1 h2 hK
    walk_at "go"
    refine ⟨p, 26, k1, g, rfl, h1, h2, by decide, by decide, fun v k4 v0 v1 hk4 => ?_⟩
    refine ix_abc v0 v1 fun x hx => ?_
    walk_at "go"
    exact hK x k4 hx hk4
  intro bs k4 hbl hbs hk4
  rw [updc_updc]
  walk_at "go"
  have hj := SOk.join0 hbs
  have hjs := join0_sum hbs
  refine join_i (ys := bs) rfl (by
    have e3 : ("" : Str).length = 0 := by decide +kernel
    rw [e3]; omega) ?_
  refine add_sok hb0 hj (by omega) fun hb => ?_
  have hb := hb.mono (show 1 + bs.length ≤ 7 by omega)
  obtain ⟨base, ebase⟩ : ∃ base, base = (⟨#[b00]⟩ : Str) ++ Txt.join (Str.ofString "") bs := ⟨_, rfl⟩
  have hb1 : 1 ≤ base.length := by rw [ebase, app_len]; show 1 ≤ 1 + _; omega
  have ebase2 := ebase
  rw [← ebase] at hb ⊢
  walk_at "go"
  refine len_s (hb.line (by decide)) ?_
  walk_at "go"
  have hbl2 := hb.1
  refine ⟨p, (base.length : Int) + 1, k4, f + 80, rfl, updc_same, hk4, by omega, by omega, fun at_ k5 a0 a1 hk5 => ?_⟩
  rw [updc_updc]
  walk_at "go"
  intro u hu
  have pu : p ≠ u := ne_some_none (c := updc c p k5) updc_same hu
  have hcu : c u = none := by rwa [updc_ne (Ne.symm pu)] at hu
  refine comp_mapR (xs := (Str.ofString "abcdefghijklmnopqrstuvwxyz").cps.toList) (g := fun k => D.str ⟨#[k]⟩) (fun k => some (.str (cutS base none (some at_) ++ ⟨#[k]⟩ ++ cutS base (some at_) none))) hu (by
    have : (Str.ofString "abcdefghijklmnopqrstuvwxyz").cps.toList.length = 26 := by decide +kernel
    omega) ?_ ?_
  · intro x c' K hx _ hK
    walk_at "go"
    refine sl_s (hb.line (by decide)) ?_
    walk_at "go"
    refine add_sok (hb.cut none (some at_)) (.chr (abc_char x hx)) (by decide) fun h1 => ?_
    walk_at "go"
    refine sl_s (hb.line (by decide)) ?_
    refine add_sok h1 (hb.cut (some at_) none) (by decide) fun _ => ?_
    exact hK
  rw [fm_some]
  have sb : ∀ k', SubC (updc c p k') (updc (updc c p k5) p k') := fun k' => by rw [updc_updc]; exact SubC.rfl'
  walk_at "go"
  -- the tail, from any menu
  have tail : ∀ (c1 : CMap) (u2 : Addr) (ws : List Str) (v9 v10 v11 : Option D), c1 p = some k5 → c1 u2 = some (.lst (ws.map D.str)) → p ≠ u2 → (∀ x ∈ ws, SOk 40 x) → ws.Nodup → n ≤ ws.length → ws.length ≤ 100 → SubC (updc c p k5) c1 → c u2 = none →
      b_law_words_6 sp_law_draw (endD E Q) [some (.ref p), some (.int n), some (.str "abcdefghijklmnopqrstuvwxyz"), some (.int kind), some (.str base), none, some (.int at_), some (.ref u2), none, v9, v10, v11] c1 := by
    intro c1 u2 ws v9 v10 v11 h1 h2 h3 h4 hnd h5 h6 h7 h8
    exact ok_law_words_6 (f := f) h1 (hk5.mono (by omega)) h2 h3 h4 hnd n0 h5 (by omega) h6 (fun k' => sub_p h7) h8 q
  have first : ∀ v9 v10 v11, b_law_words_6 sp_law_draw (endD E Q) [some (.ref p), some (.int n), some (.str "abcdefghijklmnopqrstuvwxyz"), some (.int kind), some (.str base), none, some (.int at_), some (.ref u), none, v9, v10, v11] (updc (updc c p k5) u (.lst ((Str.ofString "abcdefghijklmnopqrstuvwxyz").cps.toList.map fun x => D.str (cutS base none (some at_) ++ ⟨#[x]⟩ ++ cutS base (some at_) none)))) := by
    intro v9 v10 v11
    refine tail _ u ((Str.ofString "abcdefghijklmnopqrstuvwxyz").cps.toList.map fun x => cutS base none (some at_) ++ ⟨#[x]⟩ ++ cutS base (some at_) none) v9 v10 v11 (by walk_at "cl") (by rw [List.map_map]; exact updc_same) pu ?_ (letters_nodup _ _) ?_ ?_ ?_ hcu
    · intro x hx
      obtain ⟨y, hy, rfl⟩ := List.mem_map.mp hx
      exact (((hb.cut none (some at_)).app (.chr (abc_char y hy))).app (hb.cut (some at_) none)).mono (by decide)
    · rw [List.length_map, show (Str.ofString "abcdefghijklmnopqrstuvwxyz").cps.toList.length = 26 from by decide +kernel]; omega
    · rw [List.length_map, show (Str.ofString "abcdefghijklmnopqrstuvwxyz").cps.toList.length = 26 from by decide +kernel]; omega
    · exact SubC.new hu
  refine ite_d (fun hm9 => ?_) (fun _ => ?_)
  · walk_at "go"
    refine ite_d (fun hkd => ?_) (fun _ => ?_)
    · walk_at "go"
      refine add_sok hb (y := "abcdefgh") (b := 8) ⟨by decide +kernel, by decide +kernel⟩ (by decide) fun hwh => ?_
      obtain ⟨whole, ewhole⟩ : ∃ whole, whole = base ++ Str.ofString "abcdefgh" := ⟨_, rfl⟩
      rw [← ewhole] at hwh ⊢
      walk_at "go"
      refine ix_chr hb (by decide) (by decide) (by omega) fun t0 ht0 hj1 => ?_
      have et : t0 = b00 := head_of (ebase2 ▸ hj1)
      refine add_sok (x := "abcdefg") (a := 7) ⟨by decide +kernel, by decide +kernel⟩ (.chr ht0) (by decide) fun htn => ?_
      obtain ⟨turn, eturn⟩ : ∃ turn, turn = Str.ofString "abcdefg" ++ (⟨#[t0]⟩ : Str) := ⟨_, rfl⟩
      rw [← eturn] at htn ⊢
      walk_at "go"
      refine sl_s (hb.line (by decide)) ?_
      walk_at "go"
      refine add_sok (hb.cut (some 1) none) (y := "q") (b := 1) ⟨by decide +kernel, by decide +kernel⟩ (by decide) fun hq => ?_
      walk_at "go"
      refine newL_t fun M hM => ?_
      obtain ⟨Mu, hM1⟩ := updc_none hM
      obtain ⟨Mp, hM2⟩ := updc_none hM1
      walk_at "go"
      intro a ha
      obtain ⟨aM, ha0⟩ := updc_none ha
      obtain ⟨au, ha1⟩ := updc_none ha0
      obtain ⟨ap, ha2⟩ := updc_none ha1
      refine comp_mapR (xs := upto 0 (8 : Int).toNat) (g := D.int) (fun i => some (.str (cutS whole none (some (i + 1))))) ha (by rw [upto_len]; decide) ?_ ?_
      · intro x c' K hx _ hK
        walk_at "go"
        refine sl_s (hwh.line (by decide)) ?_
        exact hK
      rw [fm_some]
      walk_at "go"
      intro b hbb
      obtain ⟨ba, hb00'⟩ := updc_none hbb
      obtain ⟨bM, hb01⟩ := updc_none hb00'
      obtain ⟨bu, hb02⟩ := updc_none hb01
      obtain ⟨bp, hb03⟩ := updc_none hb02
      have up8 : ∀ x ∈ upto 0 (8 : Int).toNat, 0 ≤ x ∧ x < 8 := by decide
      refine comp_mapR (xs := upto 0 (8 : Int).toNat) (g := D.int) (fun i => some (.str ⟨((Builtin.Str.strSliceIndices (some i) none (-1) whole.length).filterMap (whole.cps[·]?)).toArray⟩)) hbb (by rw [upto_len]; decide) ?_ ?_
      · intro x c' K hx _ hK
        obtain ⟨x0, x1⟩ := up8 x hx
        walk_at "go"
        refine sl3_s (by decide) (by decide) (Nat.le_trans (back_len x x0 x1 _) (by decide)) ?_
        exact hK
      rw [fm_some]
      walk_at "go"
      refine newL_t fun S hS => ?_
      obtain ⟨Sb, hS0⟩ := updc_none hS
      obtain ⟨Sa, hS1⟩ := updc_none hS0
      obtain ⟨SM, hS2⟩ := updc_none hS1
      obtain ⟨Su, hS3⟩ := updc_none hS2
      obtain ⟨Sp, hS4⟩ := updc_none hS3
      walk_at "go"
      intro d hd
      obtain ⟨dS, hd0⟩ := updc_none hd
      obtain ⟨db, hd1⟩ := updc_none hd0
      obtain ⟨da, hd2⟩ := updc_none hd1
      obtain ⟨dM, hd3⟩ := updc_none hd2
      obtain ⟨du, hd4⟩ := updc_none hd3
      obtain ⟨dp, hd5⟩ := updc_none hd4
      refine comp_mapR (xs := upto 0 (8 : Int).toNat) (g := D.int) (fun i => some (.str (cutS turn (some i) none ++ cutS turn none (some i)))) hd (by rw [upto_len]; decide) ?_ ?_
      · intro x c' K hx _ hK
        walk_at "go"
        refine sl_s (htn.line (by decide)) ?_
        walk_at "go"
        refine sl_s (htn.line (by decide)) ?_
        refine add_sok (htn.cut (some x) none) (htn.cut none (some x)) (by decide) fun _ => ?_
        exact hK
      rw [fm_some]
      walk_at "go"
      refine add_res (res_c (by walk_at "cl")) rfl (by show 4 ≤ 16777216; decide) (newL_f ?_)
      walk_at "go"
      have sub : ∀ l1 l2 l3 l4 l5 l6, SubC (updc c p k5) (updc (updc (updc (updc (updc (updc (updc c p k5) u l1) M l2) a l3) b l4) S l5) d l6) := fun l1 l2 l3 l4 l5 l6 => ((((((SubC.rfl'.newr (updc_ne' (Ne.symm pu) hcu)).newr hM1).newr ha1).newr hb02).newr hS3).newr hd4)
      have pa := Ne.symm ap
      have pb := Ne.symm bp
      have pd := Ne.symm dp
      have pM := Ne.symm Mp
      have ww : ∀ x, SOk 15 x → SOk 40 x := fun x h => h.mono (by decide)
      have k4 : kind = 1 ∨ kind = 2 ∨ kind = 3 ∨ kind = 4 := by omega
      have n8 : n ≤ 8 := by omega
      rcases k4 with rfl | rfl | rfl | rfl
      · refine ix_l (x := .ref a) rfl ?_
        walk_at "go"
        refine tail _ a ((upto 0 (8 : Int).toNat).map fun i => cutS whole none (some (i + 1))) _ _ _ (by walk_at "cl") (by rw [List.map_map]; walk_at "cl") pa ?_ (begs_nodup (by rw [ewhole, app_len]; show 8 ≤ _ + 8; omega)) (by rw [List.length_map, upto_len]; exact n8) (by rw [List.length_map, upto_len]; decide) (sub _ _ _ _ _ _) ha2
        intro x hx
        obtain ⟨i, _, rfl⟩ := List.mem_map.mp hx
        exact ww _ (hwh.cut none (some (i + 1)))
      · refine ix_l (x := .ref b) rfl ?_
        walk_at "go"
        refine tail _ b ((upto 0 (8 : Int).toNat).map fun i => ⟨((Builtin.Str.strSliceIndices (some i) none (-1) whole.length).filterMap (whole.cps[·]?)).toArray⟩) _ _ _ (by walk_at "cl") (by rw [List.map_map]; walk_at "cl") pb ?_ (backs_nodup (by rw [ewhole, app_len]; show 8 ≤ _ + 8; omega)) (by rw [List.length_map, upto_len]; exact n8) (by rw [List.length_map, upto_len]; decide) (sub _ _ _ _ _ _) hb03
        intro x hx
        obtain ⟨i, hi, rfl⟩ := List.mem_map.mp hx
        obtain ⟨x0, x1⟩ := up8 i hi
        exact (hwh.pick (back_len i x0 x1 _)).mono (by decide)
      · refine ix_l (x := .ref d) rfl ?_
        walk_at "go"
        refine tail _ d ((upto 0 (8 : Int).toNat).map fun i => cutS turn (some i) none ++ cutS turn none (some i)) _ _ _ (by walk_at "cl") (by rw [List.map_map]; walk_at "cl") pd ?_ (by rw [eturn, et]; exact turns_nodup hj6) (by rw [List.length_map, upto_len]; exact n8) (by rw [List.length_map, upto_len]; decide) (sub _ _ _ _ _ _) hd5
        intro x hx
        obtain ⟨i, _, rfl⟩ := List.mem_map.mp hx
        exact ((htn.cut (some i) none).app (htn.cut none (some i))).mono (by decide)
      · refine ix_l (x := .ref M) rfl ?_
        walk_at "go"
        refine tail _ M ["a", "b", "c", "names", "letters", "said", "box", "whom", "ab", "abc", cutS base (some 1) none ++ Str.ofString "q"] _ _ _ (by walk_at "cl") (by show _ = some (Cell.lst [_, _, _, _, _, _, _, _, _, _, _]); walk_at "cl") pM ?_ (menu_nodup _) (by show n ≤ 11; omega) (by show 11 ≤ 100; decide) (sub _ _ _ _ _ _) hM2
        intro x hx
        simp only [List.mem_cons, List.not_mem_nil, or_false] at hx
        rcases hx with rfl | rfl | rfl | rfl | rfl | rfl | rfl | rfl | rfl | rfl | rfl
        all_goals first | exact ⟨by decide +kernel, by decide +kernel⟩ | exact hq.mono (by decide)
    · walk_at "go"
      exact first _ _ _
  · walk_at "go"
    exact first _ _ _
def sp_law_names : DSpec := fun ds c E Q => ∃ (p : Addr) (k : Cell) (f : Nat), ds = [.ref p] ∧ c p = some k ∧ BgOk (f + 110) k ∧ ∀ (ss : List Str) k', 2 ≤ ss.length → ss.length ≤ 25 → (∀ s ∈ ss, SOk 40 s) → ss.Nodup → BgOk f k' → Q (.lst (ss.map D.str)) (updc c p k')
theorem ok_law_names {ds c E Q} (h : sp_law_names ds c E Q) : b_law_names sp_law_draw sp_law_words (endD E Q) (startE 1 ds) c := by
  obtain ⟨p, k, f, rfl, hp, hk, q⟩ := h
  unfold b_law_names
  walk_at "go"
  refine ⟨p, 4, k, f + 109, rfl, hp, hk, by decide, by decide, fun v k1 v0 v1 hk1 => ?_⟩
  walk_at "go"
  refine ix_menu [3, 3, 3, 23] 3 23 (by decide) v0 v1 fun n n0 n1 => ?_
  walk_at "go"
  refine ⟨p, n, k1, f + 108, rfl, updc_same, hk1, by omega, by omega, fun m k2 m0 m1 hk2 => ?_⟩
  rw [updc_updc]
  walk_at "go"
  refine ⟨p, k2, 2 + m, f, rfl, updc_same, hk2.mono (by omega), by omega, by omega, fun ss k3 hl hs hnd hk3 => ?_⟩
  rw [updc_updc]
  exact ⟨_, SubC.rfl', q ss k3 (by omega) (by omega) hs hnd hk3⟩
/-! worths of a number for each view, the marked ones at the odd places -/
def odds {α : Type} : List α → List α
  | _ :: b :: r => b :: odds r
  | _ => []
def evens {α : Type} : List α → List α
  | a :: _ :: r => a :: evens r
  | [a] => [a]
  | [] => []
theorem odds_len {α : Type} : ∀ (xs : List α) {n : Nat}, xs.length = 2 * n → (odds xs).length = n ∧ (evens xs).length = n
  | [], n, h => by
    obtain rfl : n = 0 := by simp at h; omega
    exact ⟨rfl, rfl⟩
  | [a], n, h => by simp at h; omega
  | a :: b :: r, n, h => by
    obtain ⟨h1, h2⟩ := odds_len r (n := n - 1) (by simp at h; omega)
    simp at h
    simp only [odds, evens, List.length_cons]; omega
theorem odds_mem {α : Type} : ∀ {xs : List α} {x : α}, x ∈ odds xs → x ∈ xs
  | [], x, h => by simp [odds] at h
  | [a], x, h => by simp [odds] at h
  | a :: b :: r, x, h => by
    simp only [odds, List.mem_cons] at h ⊢
    rcases h with rfl | h
    · exact .inr (.inl rfl)
    · exact .inr (.inr (odds_mem h))
theorem evens_mem {α : Type} : ∀ {xs : List α} {x : α}, x ∈ evens xs → x ∈ xs
  | [], x, h => by simp [evens] at h
  | [a], x, h => by simpa [evens] using h
  | a :: b :: r, x, h => by
    simp only [evens, List.mem_cons] at h ⊢
    rcases h with rfl | h
    · exact .inl rfl
    · exact .inr (.inr (evens_mem h))
theorem odds_map {α β : Type} (f : α → β) : ∀ xs : List α, odds (xs.map f) = (odds xs).map f
  | [] => rfl
  | [_] => rfl
  | a :: b :: r => by simp only [List.map_cons, odds, odds_map f r]
theorem evens_map {α β : Type} (f : α → β) : ∀ xs : List α, evens (xs.map f) = (evens xs).map f
  | [] => rfl
  | [_] => rfl
  | a :: b :: r => by simp only [List.map_cons, evens, evens_map f r]
theorem fm_odds {α : Type} : ∀ (xs : List α) (n : Nat), xs.length = 2 * n → (List.range n).filterMap (fun k => xs[1 + 2 * k]?) = odds xs
  | [], n, h => by
    obtain rfl : n = 0 := by simp at h; omega
    rfl
  | [a], n, h => by simp at h; omega
  | a :: b :: r, n, h => by
    simp at h
    obtain ⟨m, rfl⟩ : ∃ m, n = m + 1 := ⟨n - 1, by omega⟩
    rw [List.range_succ_eq_map, List.filterMap_cons]
    show b :: _ = b :: odds r
    rw [List.filterMap_map]
    congr 1
    rw [← fm_odds r m (by omega)]
    congr 1
theorem fm_evens {α : Type} : ∀ (xs : List α) (n : Nat), xs.length = 2 * n → (List.range n).filterMap (fun k => xs[2 * k]?) = evens xs
  | [], n, h => by
    obtain rfl : n = 0 := by simp at h; omega
    rfl
  | [a], n, h => by simp at h; omega
  | a :: b :: r, n, h => by
    simp at h
    obtain ⟨m, rfl⟩ : ∃ m, n = m + 1 := ⟨n - 1, by omega⟩
    rw [List.range_succ_eq_map, List.filterMap_cons]
    show a :: _ = a :: evens r
    rw [List.filterMap_map]
    congr 1
    rw [← fm_evens r m (by omega)]
    congr 1
theorem stepIx_odd (n : Nat) (hn : 0 < n) : stepIx (some 1) none (some 2) (2 * n) = (List.range n).map fun k => 1 + 2 * k := by
  unfold stepIx PySem.sliceBounds PySem.sliceRange
  simp only [Option.getD_some]
  simp only [show (2 : Int) > 0 from by decide, show ¬ (1 : Int) < 0 from by decide, if_true, if_false]
  rw [show max (0 : Int) (min 1 ((2 * n : Nat) : Int)) = 1 from by omega, if_pos (by omega), show ((((2 * n : Nat) : Int) - 1 + 2 - 1) / 2).toNat = n from by omega]
  refine List.map_congr_left fun k _ => ?_
  omega
theorem stepIx_even (n : Nat) (hn : 0 < n) : stepIx none none (some 2) (2 * n) = (List.range n).map fun k => 2 * k := by
  unfold stepIx PySem.sliceBounds PySem.sliceRange
  simp only [Option.getD_some]
  simp only [show (2 : Int) > 0 from by decide, if_true, if_false]
  rw [if_pos (by omega), show ((((2 * n : Nat) : Int) - 0 + 2 - 1) / 2).toNat = n from by omega]
  refine List.map_congr_left fun k _ => ?_
  omega
theorem pick_odds {α : Type} (xs : List α) (n : Nat) (h : xs.length = 2 * n) (hn : 0 < n) : pickG xs (some 1) none (some 2) = odds xs := by
  rw [← fm_odds xs n h]
  unfold pickG
  rw [h, stepIx_odd n hn, List.filterMap_map]
  rfl
theorem pick_evens {α : Type} (xs : List α) (n : Nat) (h : xs.length = 2 * n) (hn : 0 < n) : pickG xs none none (some 2) = evens xs := by
  rw [← fm_evens xs n h]
  unfold pickG
  rw [h, stepIx_even n hn, List.filterMap_map]
  rfl
def builtE : List Int → List Int → Wo
  | [], ns => .num (ns.headD 0)
  | m :: ms, ns => if builtE ms (odds ns) = builtE ms (evens ns) then builtE ms (odds ns) else .face m (builtE ms (odds ns)) (builtE ms (evens ns))
theorem builtE_deep : ∀ (ms ns : List Int), (builtE ms ns).deep ≤ ms.length
  | [], ns => Nat.le_refl _
  | m :: ms, ns => by
    have h1 := builtE_deep ms (odds ns)
    have h2 := builtE_deep ms (evens ns)
    unfold builtE
    split
    · simp only [List.length_cons]; omega
    · simp only [Wo.deep, List.length_cons]; omega
def InR (ns : List Int) : Prop := ∀ x ∈ ns, 0 ≤ x ∧ x < 1000
theorem builtE_ok : ∀ (ms ns : List Int) (k : Nat), ms.Pairwise (· < ·) → (∀ m ∈ ms, (k : Int) ≤ m ∧ m < 6) → ns.length = 2 ^ ms.length → InR ns → (builtE ms ns).ok k
  | [], ns, k, _, _, hn, hr => by
    match ns, hn with
    | [x], _ => exact hr x (by simp)
  | m :: ms, ns, k, hp, hb, hn, hr => by
    rw [List.length_cons, Nat.pow_succ] at hn
    obtain ⟨hp1, hp2⟩ := List.pairwise_cons.mp hp
    obtain ⟨h1, h2⟩ := hb m List.mem_cons_self
    have hb' : ∀ a ∈ ms, ((m.toNat + 1 : Nat) : Int) ≤ a ∧ a < 6 := fun a ha => ⟨by have := hp1 a ha; omega, (hb a (List.mem_cons_of_mem _ ha)).2⟩
    obtain ⟨l1, l2⟩ := odds_len ns (n := 2 ^ ms.length) (by omega)
    have s1 := builtE_ok ms (odds ns) (m.toNat + 1) hp2 hb' l1 (fun x hx => hr x (odds_mem hx))
    have s2 := builtE_ok ms (evens ns) (m.toNat + 1) hp2 hb' l2 (fun x hx => hr x (evens_mem hx))
    unfold builtE
    split
    · exact Wo.ok_mono (by omega) s1
    · rename_i n; exact ⟨h1, h2, n, s1, s2⟩
def sp_law_least (n : Nat) : DSpec := fun ds c E Q => ∃ ms ns : List Int, ds = [.lst (ns.map D.int), .lst (ms.map D.int)] ∧ ms.length < n ∧ ms.length ≤ 6 ∧ ns.length = 2 ^ ms.length ∧ Q (builtE ms ns).d c
theorem void_law_least : ∀ ds c E Q, ¬ sp_law_least 0 ds c E Q := by rintro ds c E Q ⟨ms, ns, _, h, _⟩; exact Nat.not_lt_zero _ h
theorem ok_law_least {n : Nat} {ds c E Q} (h : sp_law_least (n + 1) ds c E Q) : b_law_least (sp_law_least n) (endD E Q) (startE 4 ds) c := by
  obtain ⟨ms, ns, rfl, hl, hl6, hn, q⟩ := h
  unfold b_law_least
  walk_at "go"
  refine eq_dd rfl rfl (ints_eqOk ms) (ints_eqOk []) ?_
  walk_at "go"
  refine ite_fd (fun h => ?_) (fun h => ?_)
  · obtain rfl : ms = [] := ints_inj.mp h
    obtain ⟨x, rfl⟩ : ∃ x, ns = [x] := by
      match ns, hn with
      | [x], _ => exact ⟨x, rfl⟩
    walk_at "go"
    exact ⟨_, SubC.rfl', q⟩
  · walk_at "go"
    obtain ⟨m, r, rfl⟩ : ∃ m r, ms = m :: r := by
      rcases fnil ms with rfl | z
      · exact absurd rfl h
      · exact z
    have e1 : cutG ((m :: r).map D.int) (some 1) none = r.map D.int := cut_from _ 1
    rw [List.length_cons, Nat.pow_succ] at hn
    simp only [List.length_cons] at hl hl6
    have hpos : 0 < 2 ^ r.length := Nat.two_pow_pos _
    have h64 : 2 ^ r.length ≤ 2 ^ 6 := Nat.pow_le_pow_right (by decide) (by omega)
    have hml : (ns.map D.int).length = 2 * 2 ^ r.length := by rw [List.length_map]; omega
    have eo : pickG (ns.map D.int) (some 1) none (some 2) = (odds ns).map D.int := by rw [pick_odds _ _ hml hpos, odds_map]
    have ee : pickG (ns.map D.int) none none (some 2) = (evens ns).map D.int := by rw [pick_evens _ _ hml hpos, evens_map]
    obtain ⟨l1, l2⟩ := odds_len ns (n := 2 ^ r.length) (by omega)
    refine sl3_l (by decide) (by rw [eo, List.length_map]; omega) (newL_f ?_)
    rw [eo]
    walk_at "go"
    rw [e1]
    refine ⟨r, _, rfl, by omega, by omega, l1, ?_⟩
    walk_at "go"
    refine sl3_l (by decide) (by rw [ee, List.length_map]; omega) (newL_f ?_)
    rw [ee]
    walk_at "go"
    rw [e1]
    refine ⟨r, _, rfl, by omega, by omega, l2, ?_⟩
    walk_at "go"
    have d1 := builtE_deep r (odds ns)
    have d2 := builtE_deep r (evens ns)
    refine eq_dd Wo.res Wo.res (Wo.eqOk (by omega)) (Wo.eqOk (by omega)) ?_
    walk_at "go"
    unfold builtE at q
    refine ite_fd (fun h => ?_) (fun h => ?_)
    · rw [if_pos (Wo.d_inj h)] at q
      walk_at "go"
      exact ⟨_, SubC.rfl', q⟩
    · rw [if_neg (fun z => h (by rw [z]))] at q
      walk_at "go"
      exact ⟨_, SubC.rfl', q⟩
/-- all marks are below -/
def Wo.under (n : Int) : Wo → Prop
  | .num _ => True
  | .face m s u => m < n ∧ s.under n ∧ u.under n
theorem builtE_below {n : Int} : ∀ (ms ns : List Int), (∀ m ∈ ms, m < n) → (builtE ms ns).under n
  | [], ns, _ => trivial
  | a :: ms, ns, h => by
    have h1 := builtE_below ms (odds ns) fun m hm => h m (List.mem_cons_of_mem _ hm)
    have h2 := builtE_below ms (evens ns) fun m hm => h m (List.mem_cons_of_mem _ hm)
    unfold builtE
    split
    · exact h1
    · exact ⟨h a List.mem_cons_self, h1, h2⟩
theorem shl_i {c : CMap} {Q : DK} {i j : Int} (h : CPow i j) (q : Q (.int (i * 2 ^ j.toNat)) c) : shlR c (.int i) (.int j) Q := ⟨h, q⟩
def sp_law_worth : DSpec := fun ds c E Q => ∃ (p : Addr) (k : Cell) (n : Int) (f : Nat), ds = [.ref p, .int n] ∧ c p = some k ∧ BgOk (f + 100) k ∧ 0 ≤ n ∧ n ≤ 6 ∧ ∀ (w : Wo) k', w.ok 0 → w.under n → BgOk f k' → Q w.d (updc c p k')
theorem ok_law_worth {ds c E Q} (h : sp_law_worth ds c E Q) : b_law_worth sp_law_draw (sp_law_least 8) (endD E Q) (startE 6 ds) c := by
  obtain ⟨p, k, n, f, rfl, hp, hk, n0, n1, q⟩ := h
  unfold b_law_worth
  walk_at "go"
  refine ⟨p, 4, k, f + 99, rfl, hp, hk, by decide, by decide, fun v k1 v0 v1 hk1 => ?_⟩
  refine ix_menu [2, 4, 4, 1000] 2 1000 (by decide) v0 v1 fun top t0 t1 => ?_
  walk_at "go"
  intro A hA
  refine comp_inv hA (fun i acc c' => ∃ (k' : Cell) (ms : List Int), c' = updc c p k' ∧ BgOk (f + 99 - i) k' ∧ acc = ms.map D.int ∧ (∀ m ∈ ms, 0 ≤ m ∧ m < i) ∧ ms.Pairwise (· < ·) ∧ ms.length ≤ i) (by rw [List.length_map, upto_len]; omega) ⟨k1, [], rfl, hk1, rfl, by simp, by simp, by simp⟩ ?_ ?_
  · rintro i d acc c' K e ⟨k', ms, rfl, hk', rfl, h1, h2, h3⟩ hA' q1 q2
    obtain ⟨y, hy, rfl⟩ := mem_map_at e
    obtain ⟨hy1, rfl⟩ := upto_at hy
    have pA : p ≠ A := ne_some_none (c := updc c p k') updc_same hA'
    have cA : ∀ z, updc c p z A = none := fun z => by rw [updc_ne (Ne.symm pA)]; rwa [updc_ne (Ne.symm pA)] at hA'
    walk_at "go"
    refine ⟨p, 2, k', f + 99 - (i + 1), rfl, by walk_at "cl", hk'.mono (by omega), by decide, by decide, fun v k3 v0 v1 hk3 => ?_⟩
    rw [updc_comm (Ne.symm pA), updc_updc]
    walk_at "go"
    refine ite_fd (fun h => ?_) (fun h => ?_)
    · walk_at "go"
      refine q1 _ _ (cA _) ⟨k3, ms ++ [0 + (i : Int)], rfl, hk3, by simp, ?_, ?_, by simp; omega⟩
      · intro m hm
        rcases List.mem_append.mp hm with h | h
        · have := h1 m h; omega
        · simp only [List.mem_singleton] at h; omega
      · refine List.pairwise_append.mpr ⟨h2, by simp, fun a ha b hb => ?_⟩
        simp only [List.mem_singleton] at hb
        have := h1 a ha; omega
    · exact q2 _ (cA _) ⟨k3, ms, rfl, hk3, rfl, fun m hm => by have := h1 m hm; omega, h2, by omega⟩
  rintro out c2 ⟨k2, ms, rfl, hk2, rfl, h1, h2, h3⟩ _
  rw [if_neg (by decide)]
  rw [List.length_map, upto_len] at h1 h3 hk2
  have hml : ms.length ≤ 6 := by omega
  walk_at "go"
  rw [List.length_map]
  refine shl_i ⟨by omega, by omega, by decide⟩ ?_
  have hp64 : (2 : Int) ^ ms.length ≤ 2 ^ 6 := by
    have : 2 ^ ms.length ≤ 2 ^ 6 := Nat.pow_le_pow_right (by decide) hml
    exact_mod_cast this
  have hp0 : (0 : Int) < 2 ^ ms.length := by
    have := Nat.two_pow_pos ms.length
    exact_mod_cast this
  rw [show (1 : Int) * 2 ^ ((ms.length : Nat) : Int).toNat = 2 ^ ms.length from by rw [Int.toNat_natCast, Int.one_mul]]
  walk_at "go"
  intro B hB
  have hln : ((2 : Int) ^ ms.length).toNat = 2 ^ ms.length := by
    have : ((2 ^ ms.length : Nat) : Int) = (2 : Int) ^ ms.length := by push_cast; rfl
    omega
  rw [hln]
  have hn64 : 2 ^ ms.length ≤ 64 := by
    have : 2 ^ ms.length ≤ 2 ^ 6 := Nat.pow_le_pow_right (by decide) hml
    simpa using this
  refine comp_fuel1 (fun i k => BgOk (f + (64 - i)) k) (fun d => ∃ x : Int, d = .int x ∧ 0 ≤ x ∧ x < 1000) hB (by rw [List.length_map, upto_len]; omega) (k := k2) updc_same (hk2.mono (by omega)) ?_ ?_
  · intro i d c' K k3 e hc' hk3 _ hK
    obtain ⟨y, hy, rfl⟩ := mem_map_at e
    obtain ⟨hy1, _⟩ := upto_at hy
    walk_at "go"
    refine ⟨p, top, k3, f + (64 - (i + 1)), rfl, hc', hk3.mono (by omega), by omega, by omega, fun v k4 v0 v1 hk4 => ?_⟩
    exact hK _ k4 ⟨v, rfl, v0, by omega⟩ hk4
  intro out k3 hl hT hk3
  rw [List.length_map, upto_len] at hl
  obtain ⟨ns, rfl, hns⟩ := all_map (f := D.int) hT
  rw [List.length_map] at hl
  rw [updc_updc]
  walk_at "go"
  refine ⟨ms, ns, rfl, by omega, hml, hl, ?_⟩
  exact ⟨_, SubC.rfl', q _ k3 (builtE_ok ms ns 0 h2 (fun m hm => by have := h1 m hm; omega) hl hns) (builtE_below ms ns fun m hm => by have := h1 m hm; omega) (hk3.mono (by omega))⟩
/-! boxes -/
abbrev Bx := Str × Wo
def bxD (b : Bx) : D := .tup [.str b.1, b.2.d]
structure BxOk (n : Int) (bs : List Bx) : Prop where
  len : bs.length ≤ 30
  nm : ∀ b ∈ bs, SOk 40 b.1
  wo : ∀ b ∈ bs, b.2.ok 0 ∧ b.2.under n ∧ b.2 ≠ .num 0
def sp_law_some_boxes : DSpec := fun ds c E Q => ∃ (p : Addr) (k : Cell) (n : Int) (f : Nat) (ss : List Str), ds = [.ref p, .lst (ss.map D.str), .int n] ∧ c p = some k ∧ BgOk (f + 3000) k ∧ 0 ≤ n ∧ n ≤ 6 ∧ ss.length ≤ 25 ∧ (∀ s ∈ ss, SOk 40 s) ∧ ss.Nodup ∧
  ∀ (bs : List Bx) k', BxOk n bs → (bs.map (·.1)).Nodup → BgOk f k' → Q (.lst (bs.map bxD)) (updc c p k')
theorem ok_law_some_boxes {ds c E Q} (h : sp_law_some_boxes ds c E Q) : b_law_some_boxes sp_law_worth (endD E Q) (startE 6 ds) c := by
  obtain ⟨p, k, n, f, ss, rfl, hp, hk, n0, n1, hl, hs, hnd, q⟩ := h
  unfold b_law_some_boxes
  walk_at "go"
  refine newL_t fun fo hfo => ?_
  have pf : p ≠ fo := ne_some_none hp hfo
  walk_at "go"
  refine sort_s rfl (strsD_map ss) (by omega) fun ys hy1 hy2 => newL_f ?_
  walk_at "go"
  have yl : ys.length = ss.length := hy1.length_eq
  refine for_inv (fun i env c' => ∃ (k' : Cell) (bs : List Bx) (v4 v5 : Option D), env = [some (.ref p), some (.lst (ss.map D.str)), some (.int n), some (.ref fo), v4, v5] ∧ c' = updc (updc c p k') fo (.lst (bs.map bxD)) ∧ BgOk (f + 100 * (30 - i)) k' ∧ bs.length ≤ i ∧ (∀ b ∈ bs, SOk 40 b.1) ∧ (∀ b ∈ bs, b.2.ok 0 ∧ b.2.under n ∧ b.2 ≠ .num 0) ∧ List.Sublist (bs.map (·.1)) (ys.take i)) ⟨k, [], none, none, rfl, by rw [updc_self hp]; rfl, hk.mono (by omega), by simp, by simp, by simp, by simp⟩ ?_ ?_
  · rintro i d env c' e ⟨k', bs, v4, v5, rfl, rfl, hk', h1, h2, h3, h4⟩
    have h5 : List.Sublist (bs.map (·.1)) (ys.take (i + 1)) := h4.trans (List.take_sublist_take_left (by omega))
    obtain ⟨x, hx, rfl⟩ := mem_map_at e
    have hil : i < ys.length := (List.getElem?_eq_some_iff.mp hx).1
    have hxs := hs x (hy1.mem_iff.mp (List.mem_of_getElem? hx))
    walk_at "go"
    refine ⟨p, k', n, f + 100 * (30 - (i + 1)), rfl, by walk_at "cl", hk'.mono (by omega), n0, n1, fun w k2 w1 w2 hk2 => ?_⟩
    rw [updc_comm (Ne.symm pf), updc_updc]
    walk_at "go"
    have wd := Wo.ok_deep w1 (by decide)
    refine eq_dd (d' := w.d) (e' := .int 0) Wo.res rfl (Wo.eqOk (by omega)) ⟨rfl, by decide⟩ ?_
    walk_at "go"
    refine ite_td (fun h => ?_) (fun h => ?_)
    · walk_at "go"
      refine ⟨ty_c (by walk_at "cl"), ?_⟩
      walk_at "go"
      refine app_c (by walk_at "cl") (len_lt (by rw [List.length_map]; omega)) ?_
      rw [updc_updc, show bs.map bxD ++ [D.tup [.str x, w.d]] = (bs ++ [(x, w)]).map bxD from by simp [bxD]]
      refine ⟨k2, bs ++ [(x, w)], _, _, rfl, rfl, hk2, by simp; omega, fun b hb => ?_, fun b hb => ?_, ?_⟩
      · rcases List.mem_append.mp hb with h | h
        · exact h2 b h
        · simp only [List.mem_singleton] at h; subst h; exact hxs
      · rcases List.mem_append.mp hb with h' | h'
        · exact h3 b h'
        · simp only [List.mem_singleton] at h'; subst h'; exact ⟨w1, w2, fun z => h (by rw [show w = Wo.num 0 from z]; rfl)⟩
      · rw [List.map_append, List.take_add_one, hx]
        exact h4.append (List.Sublist.refl _)
    · exact ⟨k2, bs, _, _, rfl, rfl, hk2, by omega, h2, h3, h5⟩
  rintro env c' ⟨k', bs, v4, v5, rfl, rfl, hk', h1, h2, h3, h4⟩
  rw [List.length_map] at h1
  walk_at "go"
  rw [delc_updc (by rw [updc_ne (Ne.symm pf)]; exact hfo)]
  exact ⟨_, SubC.rfl', q bs k' ⟨by omega, h2, h3⟩ ((hy1.nodup_iff.mpr hnd).sublist (h4.trans (List.take_sublist _ _))) (hk'.mono (by omega))⟩
/-! sides, rules -/
inductive Pl where
  | num (n : Int)
  | nam (x : Str)
def Pl.d : Pl → D
  | .num n => .tup [.str "number", .int n]
  | .nam x => .tup [.str "name", .str x]
def Pl.ok : Pl → Prop
  | .num n => 0 ≤ n ∧ n < 1000
  | .nam x => SOk 40 x
inductive Sd where
  | one (a : Pl)
  | op (s : Str) (a b : Pl)
def Sd.d : Sd → D
  | .one a => a.d
  | .op s a b => .tup [.str s, a.d, b.d]
def Sd.ok : Sd → Prop
  | .one a => a.ok
  | .op s a b => (s = "+" ∨ s = "-" ∨ s = "*") ∧ a.ok ∧ b.ok
def sp_law_plain : DSpec := fun ds c E Q => ∃ (p : Addr) (k : Cell) (f : Nat) (ss : List Str), ds = [.ref p, .lst (ss.map D.str)] ∧ c p = some k ∧ BgOk (f + 10) k ∧ 2 ≤ ss.length ∧ ss.length ≤ 25 ∧ (∀ s ∈ ss, SOk 40 s) ∧ ∀ (a : Pl) k', a.ok → BgOk f k' → Q a.d (updc c p k')
theorem ok_law_plain {ds c E Q} (h : sp_law_plain ds c E Q) : b_law_plain sp_law_draw (endD E Q) (startE 3 ds) c := by
  obtain ⟨p, k, f, ss, rfl, hp, hk, l2, l25, hs, q⟩ := h
  unfold b_law_plain
  walk_at "go"
  refine ⟨p, 4, k, f + 9, rfl, hp, hk, by decide, by decide, fun v k1 v0 v1 hk1 => ?_⟩
  walk_at "go"
  refine ite_fd (fun h => ?_) (fun h => ?_)
  · walk_at "go"
    refine ⟨p, 10, k1, f + 8, rfl, updc_same, hk1, by decide, by decide, fun a k2 a0 a1 hk2 => ?_⟩
    rw [updc_updc]
    walk_at "go"
    refine ⟨p, 1000, k2, f + 7, rfl, updc_same, hk2, by decide, by decide, fun b k3 b0 b1 hk3 => ?_⟩
    rw [updc_updc]
    walk_at "go"
    refine ⟨p, 2, k3, f + 6, rfl, updc_same, hk3, by decide, by decide, fun w k4 w0 w1 hk4 => ?_⟩
    rw [updc_updc]
    refine ix_menu [a, b] 0 999 (fun x hx => ?_) w0 (by simp; omega) fun x x0 x1 => ?_
    · simp only [List.mem_cons, List.not_mem_nil, or_false] at hx
      rcases hx with rfl | rfl <;> omega
    · walk_at "go"
      exact ⟨_, SubC.rfl', q (.num x) k4 ⟨x0, by omega⟩ (hk4.mono (by omega))⟩
  · walk_at "go"
    refine ite_fd (fun h => ?_) (fun h => ?_)
    · walk_at "go"
      exact ⟨_, SubC.rfl', q (.nam "who") k1 ⟨by decide +kernel, by decide +kernel⟩ (hk1.mono (by omega))⟩
    · walk_at "go"
      refine ⟨p, (ss.length : Int), k1, f + 8, by rw [List.length_map], updc_same, hk1, by omega, by omega, fun w k2 w0 w1 hk2 => ?_⟩
      rw [updc_updc]
      have hw : w.toNat < ss.length := by omega
      refine ix_l (x := .str ss[w.toNat]) (atn (j := w.toNat) (by omega) (by rw [List.getElem?_map, List.getElem?_eq_getElem hw]; rfl)) ?_
      walk_at "go"
      exact ⟨_, SubC.rfl', q (.nam ss[w.toNat]) k2 (hs _ (List.getElem_mem hw)) (hk2.mono (by omega))⟩
theorem sgn_at {v : Int} (h0 : 0 ≤ v) (h1 : v < 3) : ∃ k, atI (Str.ofString "+-*").cps.toList v = some k ∧ ((⟨#[k]⟩ : Str) = "+" ∨ (⟨#[k]⟩ : Str) = "-" ∨ (⟨#[k]⟩ : Str) = "*") := by
  have e : v = 0 ∨ v = 1 ∨ v = 2 := by omega
  rcases e with rfl | rfl | rfl
  · exact ⟨43, by decide +kernel, .inl (by decide +kernel)⟩
  · exact ⟨45, by decide +kernel, .inr (.inl (by decide +kernel))⟩
  · exact ⟨42, by decide +kernel, .inr (.inr (by decide +kernel))⟩
theorem eql_at {v : Int} (h0 : 0 ≤ v) (h1 : v < 2) : ∃ k, atI (Str.ofString "=<").cps.toList v = some k ∧ ((⟨#[k]⟩ : Str) = "=" ∨ (⟨#[k]⟩ : Str) = "<") := by
  have e : v = 0 ∨ v = 1 := by omega
  rcases e with rfl | rfl
  · exact ⟨61, by decide +kernel, .inl (by decide +kernel)⟩
  · exact ⟨60, by decide +kernel, .inr (by decide +kernel)⟩
def sp_law_e : DSpec := fun ds c E Q => ∃ (p : Addr) (k : Cell) (f : Nat) (ss : List Str), ds = [.ref p, .lst (ss.map D.str)] ∧ c p = some k ∧ BgOk (f + 30) k ∧ 2 ≤ ss.length ∧ ss.length ≤ 25 ∧ (∀ s ∈ ss, SOk 40 s) ∧ ∀ (a : Sd) k', a.ok → BgOk f k' → Q a.d (updc c p k')
theorem ok_law_e {ds c E Q} (h : sp_law_e ds c E Q) : b_law_e sp_law_draw sp_law_plain (endD E Q) (startE 4 ds) c := by
  obtain ⟨p, k, f, ss, rfl, hp, hk, l2, l25, hs, q⟩ := h
  unfold b_law_e
  walk_at "go"
  refine ⟨p, 5, k, f + 29, rfl, hp, hk, by decide, by decide, fun v k1 v0 v1 hk1 => ?_⟩
  walk_at "go"
  refine ⟨p, k1, f + 19, ss, rfl, updc_same, hk1, l2, l25, hs, fun a k2 ha hk2 => ?_⟩
  rw [updc_updc]
  walk_at "go"
  refine ite_d (fun h => ?_) (fun h => ?_)
  · walk_at "go"
    exact ⟨_, SubC.rfl', q (.one a) k2 ha (hk2.mono (by omega))⟩
  · walk_at "go"
    refine ⟨p, 3, k2, f + 18, rfl, updc_same, hk2, by decide, by decide, fun w k3 w0 w1 hk3 => ?_⟩
    rw [updc_updc]
    obtain ⟨s, hs1, hs2⟩ := sgn_at w0 w1
    refine ix_str (by decide +kernel) hs1 ?_
    walk_at "go"
    refine ⟨p, k3, f + 8, ss, rfl, updc_same, hk3, l2, l25, hs, fun b k4 hb hk4 => ?_⟩
    rw [updc_updc]
    walk_at "go"
    exact ⟨_, SubC.rfl', q (.op ⟨#[s]⟩ a b) k4 ⟨hs2, ha, hb⟩ (hk4.mono (by omega))⟩
structure Ru where
  s : Str
  a : Sd
  b : Sd
def Ru.d (r : Ru) : D := .tup [.str r.s, r.a.d, r.b.d]
structure Ru.ok (r : Ru) : Prop where
  s : r.s = "=" ∨ r.s = "<"
  a : r.a.ok
  b : r.b.ok
def sp_law_rule : DSpec := fun ds c E Q => ∃ (p : Addr) (k : Cell) (f : Nat) (ss : List Str), ds = [.ref p, .lst (ss.map D.str)] ∧ c p = some k ∧ BgOk (f + 70) k ∧ 2 ≤ ss.length ∧ ss.length ≤ 25 ∧ (∀ s ∈ ss, SOk 40 s) ∧ ∀ (a : Ru) k', a.ok → BgOk f k' → Q a.d (updc c p k')
theorem ok_law_rule {ds c E Q} (h : sp_law_rule ds c E Q) : b_law_rule sp_law_draw sp_law_e (endD E Q) (startE 2 ds) c := by
  obtain ⟨p, k, f, ss, rfl, hp, hk, l2, l25, hs, q⟩ := h
  unfold b_law_rule
  walk_at "go"
  refine ⟨p, 2, k, f + 69, rfl, hp, hk, by decide, by decide, fun v k1 v0 v1 hk1 => ?_⟩
  obtain ⟨s, hs1, hs2⟩ := eql_at v0 v1
  refine ix_str (by decide +kernel) hs1 ?_
  walk_at "go"
  refine ⟨p, k1, f + 39, ss, rfl, updc_same, hk1, l2, l25, hs, fun a k2 ha hk2 => ?_⟩
  rw [updc_updc]
  walk_at "go"
  refine ⟨p, k2, f + 9, ss, rfl, updc_same, hk2, l2, l25, hs, fun b k3 hb hk3 => ?_⟩
  rw [updc_updc]
  walk_at "go"
  exact ⟨_, SubC.rfl', q ⟨⟨#[s]⟩, a, b⟩ k3 ⟨hs2, ha, hb⟩ (hk3.mono (by omega))⟩
/-! what a view sees -/
def sp_seen_by : DSpec := fun ds c E Q => ∃ (w : Wo) (v : List Int), ds = [w.d, .lst (v.map D.int)] ∧ Q (.int (w.seen v)) c
theorem ok_seen_by {ds c E Q} (h : sp_seen_by ds c E Q) : b_seen_by (endD E Q) (startE 6 ds) c := by
  obtain ⟨w, v, rfl, q⟩ := h
  unfold b_seen_by
  walk_at "go"
  refine ⟨fun n env c' => c' = c ∧ ∃ (u : Wo) (v2 v3 v4 v5 : Option D), u.deep = n ∧ u.seen v = w.seen v ∧ env = [some u.d, some (.lst (v.map D.int)), v2, v3, v4, v5], ⟨w.deep, rfl, w, none, none, none, none, rfl, rfl, rfl⟩, ?_⟩
  rintro n env c' ⟨rfl, u, v2, v3, v4, v5, rfl, hu, rfl⟩
  cases u with
  | num k =>
    walk_at "go"
    exact ⟨_, SubC.rfl', by rw [← hu] at q; exact q⟩
  | face m s t =>
    walk_at "go"
    refine ⟨fun env' c2 => c2 = c' ∧ ∃ (u : Wo) (v2 v3 v4 v5 : Option D), u.deep < (Wo.face m s t).deep ∧ u.seen v = w.seen v ∧ env' = [some u.d, some (.lst (v.map D.int)), v2, v3, v4, v5], ?_, ?_⟩
    · rintro env' c2 ⟨rfl, u, a2, a3, a4, a5, h1, h2, h3⟩
      exact ⟨_, h1, _, SubC.rfl', rfl, u, a2, a3, a4, a5, rfl, h2, h3⟩
    · walk_at "go"
      rw [show (Wo.face m s t).d = .tup [.str "face", .int m, s.d, t.d] from rfl]
      walk_at "go"
      refine in_l rfl rfl (ints_flat v) ?_
      walk_at "go"
      rw [← hu]
      refine ite_fd (fun h => ?_) (fun h => ?_)
      · walk_at "go"
        exact ⟨rfl, s, _, _, _, _, by simp only [Wo.deep]; omega, by simp only [Wo.seen]; rw [if_pos (int_mem.mp h)], rfl⟩
      · walk_at "go"
        exact ⟨rfl, t, _, _, _, _, by simp only [Wo.deep]; omega, by simp only [Wo.seen]; rw [if_neg (fun z => h (int_mem.mpr z))], rfl⟩
theorem Wo.seen_rng : ∀ {w : Wo} {k : Nat} (v : List Int), w.ok k → 0 ≤ w.seen v ∧ w.seen v < 1000
  | .num n, k, v, h => h
  | .face m s u, k, v, h => by
    obtain ⟨_, _, _, h3, h4⟩ := h
    simp only [Wo.seen]
    split
    · exact Wo.seen_rng v h3
    · exact Wo.seen_rng v h4
/-! numbers by names -/
abbrev KV := List (Key × D)
def NumR (kvs : KV) : Prop := ∀ kv ∈ kvs, ∃ i : Int, kv.2 = .int i ∧ 0 ≤ i ∧ i < 1000
theorem NumR.put {kvs : KV} {k : Key} {i : Int} (h : NumR kvs) (h0 : 0 ≤ i) (h1 : i < 1000) : NumR (putKD kvs k (.int i)) := by
  intro kv hkv
  unfold putKD at hkv
  split at hkv
  · obtain ⟨x, hx, rfl⟩ := List.mem_map.mp hkv
    split
    · exact ⟨i, rfl, h0, h1⟩
    · exact h x hx
  · rcases List.mem_append.mp hkv with hkv | hkv
    · exact h kv hkv
    · simp only [List.mem_singleton] at hkv; subst hkv; exact ⟨i, rfl, h0, h1⟩
def numAt (kvs : KV) (x : Str) : Int := match (valD kvs (.inr x)).getD (.int 0) with
  | .int i => i
  | _ => 0
theorem numAt_eq {kvs : KV} (h : NumR kvs) (x : Str) : (valD kvs (.inr x)).getD (.int 0) = .int (numAt kvs x) ∧ 0 ≤ numAt kvs x ∧ numAt kvs x < 1000 := by
  have key : ∃ i : Int, (valD kvs (.inr x)).getD (.int 0) = .int i ∧ 0 ≤ i ∧ i < 1000 := by
    unfold valD
    cases e : kvs.find? fun kv => decide (kv.1 = (.inr x : Key)) with
    | none => exact ⟨0, rfl, by decide, by decide⟩
    | some kv =>
      obtain ⟨i, h1, h2⟩ := h kv (List.mem_of_find?_eq_some e)
      exact ⟨i, h1, h2⟩
  obtain ⟨i, h1, h2⟩ := key
  unfold numAt
  rw [h1]
  exact ⟨rfl, h2⟩
def boxK (v : List Int) (b : Bx) : Key × D := (.inr b.1, .int (b.2.seen v))
def namedK (bs : List Bx) (viewer : Int) (v : List Int) : KV := putKD (mergeKD [] (bs.map (boxK v))) (.inr (Str.ofString "who")) (.int viewer)
theorem merge_snoc (kvs : KV) (xs : KV) (x : Key × D) : mergeKD kvs (xs ++ [x]) = putKD (mergeKD kvs xs) x.1 x.2 := by
  unfold mergeKD; rw [List.foldl_append]; rfl
theorem putKD_len {kvs : KV} {k : Key} {d : D} : (putKD kvs k d).length ≤ kvs.length + 1 := by
  unfold putKD
  split
  · rw [List.length_map]; omega
  · rw [List.length_append]; simp
theorem merge_len (kvs : KV) : ∀ xs : KV, (mergeKD kvs xs).length ≤ kvs.length + xs.length := by
  intro xs
  induction xs generalizing kvs with
  | nil => exact Nat.le_refl _
  | cons x r ih =>
    have h1 := ih (putKD kvs x.1 x.2)
    have h2 := putKD_len (kvs := kvs) (k := x.1) (d := x.2)
    have e : mergeKD kvs (x :: r) = mergeKD (putKD kvs x.1 x.2) r := rfl
    rw [e]
    simp only [List.length_cons]; omega
theorem merge_num {n : Int} {bs : List Bx} (h : BxOk n bs) (v : List Int) : ∀ i, NumR (mergeKD [] ((bs.take i).map (boxK v))) := by
  intro i
  induction i with
  | zero => intro kv hkv; simp [mergeKD] at hkv
  | succ i ih =>
    rw [List.take_add_one]
    cases e : bs[i]? with
    | none => simpa using ih
    | some b =>
      rw [List.map_append]
      show NumR (mergeKD [] ((bs.take i).map (boxK v) ++ [boxK v b]))
      rw [merge_snoc]
      have hb := (h.wo b (List.mem_of_getElem? e)).1
      exact ih.put (Wo.seen_rng v hb).1 (Wo.seen_rng v hb).2
theorem named_num {n : Int} {bs : List Bx} (h : BxOk n bs) {viewer : Int} (h0 : 0 ≤ viewer) (h1 : viewer < 1000) (v : List Int) : NumR (namedK bs viewer v) := by
  have := merge_num h v bs.length
  rw [List.take_length] at this
  exact this.put h0 h1
def Pl.val (kvs : KV) : Pl → Int
  | .num n => n
  | .nam x => numAt kvs x
def opVal (s : Str) (a b : Int) : Int := (if s = "+" then a + b else if s = "-" then a - b else a * b) % 1000
def Sd.val (kvs : KV) : Sd → Int
  | .one a => a.val kvs
  | .op s a b => opVal s (a.val kvs) (b.val kvs)
theorem Pl.val_rng {kvs : KV} (h : NumR kvs) {a : Pl} (ha : a.ok) : 0 ≤ a.val kvs ∧ a.val kvs < 1000 := by
  cases a with
  | num n => exact ha
  | nam x => exact (numAt_eq h x).2
theorem pairs_boxes {c : CMap} (v : List Int) : ∀ bs : List Bx, pairsD c (bs.map fun b => D.tup [.str b.1, .int (b.2.seen v)]) = some (bs.map (boxK v))
  | [] => rfl
  | b :: r => by
    have ih := pairs_boxes (c := c) v r
    simp only [List.map_cons]
    unfold pairsD
    rw [ih]
    rfl
def sp_named_for : DSpec := fun ds c E Q => ∃ (bs : List Bx) (viewer : Int) (v : List Int) (n : Int), ds = [.lst (bs.map bxD), .int viewer, .lst (v.map D.int)] ∧ BxOk n bs ∧ ∀ p, c p = none → Q (.ref p) (updc c p (.dK (namedK bs viewer v)))
theorem ok_named_for {ds c E Q} (h : sp_named_for ds c E Q) : b_named_for sp_seen_by (endD E Q) (startE 6 ds) c := by
  obtain ⟨bs, viewer, v, n, rfl, hb, q⟩ := h
  unfold b_named_for
  walk_at "go"
  intro A hA
  refine comp_mapL (fun b : Bx => some (.tup [.str b.1, .int (b.2.seen v)])) hA (by have := hb.len; omega) ?_ ?_
  · intro b c' K hx _ hK
    simp only [bxD]
    walk_at "go"
    refine ⟨b.2, v, rfl, ?_⟩
    walk_at "go"
    exact hK
  rw [fm_some]
  walk_at "go"
  refine dict_l rfl (pairs_boxes v bs) fun p hp => ?_
  walk_at "go"
  have ml := merge_len [] (bs.map (boxK v))
  rw [List.length_map] at ml
  refine set_dK updc_same rfl (len_lt (by have := hb.len; simp at ml; omega)) ?_
  rw [updc_updc]
  walk_at "go"
  exact ⟨_, SubC.rfl', q p hp⟩
def sp_added : DSpec := fun ds c E Q => ∃ a b : Int, ds = [.int a, .int b] ∧ Q (.int (a + b)) c
theorem ok_added {ds c E Q} (h : sp_added ds c E Q) : b_added (endD E Q) (startE 2 ds) c := by
  obtain ⟨a, b, rfl, q⟩ := h
  unfold b_added
  walk_at "go"
  exact ⟨_, SubC.rfl', q⟩
def sp_lessened : DSpec := fun ds c E Q => ∃ a b : Int, ds = [.int a, .int b] ∧ Q (.int (a - b)) c
theorem ok_lessened {ds c E Q} (h : sp_lessened ds c E Q) : b_lessened (endD E Q) (startE 2 ds) c := by
  obtain ⟨a, b, rfl, q⟩ := h
  unfold b_lessened
  walk_at "go"
  exact ⟨_, SubC.rfl', q⟩
def sp_multiplied : DSpec := fun ds c E Q => ∃ a b : Int, ds = [.int a, .int b] ∧ CMul a b ∧ Q (.int (a * b)) c
theorem ok_multiplied {ds c E Q} (h : sp_multiplied ds c E Q) : b_multiplied (endD E Q) (startE 2 ds) c := by
  obtain ⟨a, b, rfl, hm, q⟩ := h
  unfold b_multiplied
  walk_at "go"
  refine mul_ii (.inl hm) ?_
  exact ⟨_, SubC.rfl', q⟩
/-! sides -/
def sp_number_of : Nat → DSpec
  | 0 => fun _ _ _ _ => False
  | n + 1 => fun ds c E Q => ∃ (d : D) (r : Addr), ds = [d, .ref r] ∧ ∃ kvs : KV, c r = some (.dK kvs) ∧ NumR kvs ∧ ((∃ a : Pl, d = a.d ∧ a.ok ∧ Q (.int (a.val kvs)) c) ∨ (∃ a : Sd, d = a.d ∧ a.ok ∧ 1 ≤ n ∧ Q (.int (a.val kvs)) c))
theorem void_number_of : ∀ ds c E Q, ¬ sp_number_of 0 ds c E Q := fun _ _ _ _ h => h
theorem ok_number_of {K : PySem.W.Frag} {n : Nat} {ds c E Q} (h : sp_number_of (n + 1) ds c E Q) : b_number_of K (sp_number_of n) sp_added sp_lessened sp_multiplied (endD E Q) (startE 3 ds) c := by
  obtain ⟨d, r, rfl, kvs, hr, hn, h⟩ := h
  have plain : ∀ a : Pl, a.ok → Q (.int (a.val kvs)) c → b_number_of K (sp_number_of n) sp_added sp_lessened sp_multiplied (endD E Q) (startE 3 [a.d, .ref r]) c := by
    intro a ha q
    unfold b_number_of
    cases a with
    | num m =>
      simp only [Pl.d]
      walk_at "go"
      walk_at "el"
      walk_at "go"
      exact ⟨_, SubC.rfl', q⟩
    | nam x =>
      simp only [Pl.d]
      walk_at "go"
      walk_at "el"
      walk_at "go"
      walk_at "el"
      walk_at "go"
      refine ⟨r, rfl, .inl ⟨kvs, hr⟩, ?_⟩
      walk_at "go"
      refine dA_K hr rfl ?_
      rw [(numAt_eq hn x).1]
      exact ⟨_, SubC.rfl', q⟩
  rcases h with ⟨a, rfl, ha, q⟩ | ⟨a, rfl, ha, h1, q⟩
  · exact plain a ha q
  cases a with
  | one a => exact plain a ha q
  | op s a b =>
    obtain ⟨hs, ha, hb⟩ := ha
    obtain ⟨n, rfl⟩ : ∃ j, n = j + 1 := ⟨n - 1, by omega⟩
    have ra := Pl.val_rng hn ha
    have rb := Pl.val_rng hn hb
    unfold b_number_of
    simp only [Sd.d]
    simp only [Sd.val, opVal] at q
    walk_at "go"
    rcases hs with rfl | rfl | rfl
    · rw [if_pos rfl] at q
      walk_at "el"
      walk_at "go"
      walk_at "el"
      walk_at "go"
      refine wTab_i ?_
      walk_at "go"
      refine ⟨_, _, rfl, (by rfl : tabAt _ _ = some (.glo "added")), ?_⟩
      walk_at "go"
      refine wCallT_i (z := "added") (sp := sp_added) rfl (by rfl) ?_
      walk_at "go"
      refine ⟨_, _, rfl, kvs, hr, hn, .inl ⟨a, rfl, ha, ?_⟩⟩
      walk_at "go"
      refine ⟨_, _, rfl, kvs, hr, hn, .inl ⟨b, rfl, hb, ?_⟩⟩
      walk_at "go"
      refine ⟨_, _, rfl, ?_⟩
      walk_at "go"
      exact ⟨_, SubC.rfl', q⟩
    · rw [if_neg (by decide +kernel), if_pos rfl] at q
      walk_at "el"
      walk_at "go"
      walk_at "el"
      walk_at "go"
      refine wTab_i ?_
      walk_at "go"
      refine ⟨_, _, rfl, (by rfl : tabAt _ _ = some (.glo "lessened")), ?_⟩
      walk_at "go"
      refine wCallT_i (z := "lessened") (sp := sp_lessened) rfl (by rfl) ?_
      walk_at "go"
      refine ⟨_, _, rfl, kvs, hr, hn, .inl ⟨a, rfl, ha, ?_⟩⟩
      walk_at "go"
      refine ⟨_, _, rfl, kvs, hr, hn, .inl ⟨b, rfl, hb, ?_⟩⟩
      walk_at "go"
      refine ⟨_, _, rfl, ?_⟩
      walk_at "go"
      exact ⟨_, SubC.rfl', q⟩
    · rw [if_neg (by decide +kernel), if_neg (by decide +kernel)] at q
      walk_at "el"
      walk_at "go"
      walk_at "el"
      walk_at "go"
      refine wTab_i ?_
      walk_at "go"
      refine ⟨_, _, rfl, (by rfl : tabAt _ _ = some (.glo "multiplied")), ?_⟩
      walk_at "go"
      refine wCallT_i (z := "multiplied") (sp := sp_multiplied) rfl (by rfl) ?_
      walk_at "go"
      refine ⟨_, _, rfl, kvs, hr, hn, .inl ⟨a, rfl, ha, ?_⟩⟩
      walk_at "go"
      refine ⟨_, _, rfl, kvs, hr, hn, .inl ⟨b, rfl, hb, ?_⟩⟩
      walk_at "go"
      refine ⟨_, _, rfl, .inl ⟨by omega, by omega⟩, ?_⟩
      walk_at "go"
      exact ⟨_, SubC.rfl', q⟩
def Ru.holds (r : Ru) (kvs : KV) : Bool := if r.s = "=" then decide (r.a.val kvs = r.b.val kvs) else decide (r.a.val kvs < r.b.val kvs)
def sp_rule_holds : DSpec := fun ds c E Q => ∃ (r : Ru) (bs : List Bx) (viewer : Int) (v : List Int) (n : Int), ds = [r.d, .lst (bs.map bxD), .int viewer, .lst (v.map D.int)] ∧ r.ok ∧ BxOk n bs ∧ 0 ≤ viewer ∧ viewer < 1000 ∧ Q (.bl (r.holds (namedK bs viewer v))) c
theorem ok_rule_holds {ds c E Q} (h : sp_rule_holds ds c E Q) : b_rule_holds sp_named_for (sp_number_of 4) (endD E Q) (startE 10 ds) c := by
  obtain ⟨⟨s, ra, rb⟩, bs, viewer, v, n, rfl, ⟨hs, hra, hrb⟩, hb, h0, h1, q⟩ := h
  have hn := named_num hb h0 h1 v
  unfold Ru.holds at q
  simp only at hs hra hrb q
  unfold b_rule_holds
  simp only [Ru.d]
  walk_at "go"
  refine ⟨bs, viewer, v, n, rfl, hb, fun p hp => ?_⟩
  walk_at "go"
  refine ⟨_, _, rfl, _, updc_same, hn, .inr ⟨ra, rfl, hra, by decide, ?_⟩⟩
  walk_at "go"
  refine ⟨_, _, rfl, _, updc_same, hn, .inr ⟨rb, rfl, hrb, by decide, ?_⟩⟩
  walk_at "go"
  rcases hs with rfl | rfl
  · rw [if_pos rfl] at q
    walk_at "el"
    walk_at "go"
    exact ⟨_, SubC.new hp, by simpa using q⟩
  · rw [if_neg (by decide +kernel)] at q
    walk_at "el"
    walk_at "go"
    exact ⟨_, SubC.new hp, q⟩
theorem bx_okD : ∀ {bs : List Bx}, (∀ b ∈ bs, SOk 40 b.1) → (∀ b ∈ bs, b.2.ok 0) → okDs (bs.map bxD) = true ∧ deps (bs.map bxD) ≤ 8
  | [], _, _ => ⟨rfl, by simp [deps]⟩
  | b :: r, h, h' => by
    obtain ⟨h1, h2⟩ := bx_okD (bs := r) (fun x hx => h x (List.mem_cons_of_mem _ hx)) (fun x hx => h' x (List.mem_cons_of_mem _ hx))
    have h3 := (h b List.mem_cons_self).2
    have h4 := Wo.ok_deep (h' b List.mem_cons_self) (by decide)
    have h5 := b.2.okD
    have h6 := b.2.dep
    refine ⟨?_, ?_⟩
    · simp only [List.map_cons, okDs, bxD, DL.okD, h1, h3, h5, Bool.and_true]
    · simp only [List.map_cons, deps, bxD, DL.dep, h6]; omega
/-! draws of k46 -/
def sp_law_marks : DSpec := fun ds c E Q => ∃ (p : Addr) (k : Cell) (f : Nat), ds = [.ref p] ∧ c p = some k ∧ BgOk (f + 10) k ∧ ∀ (v : Int) k', 0 ≤ v → v ≤ 6 → BgOk f k' → Q (.int v) (updc c p k')
theorem ok_law_marks {ds c E Q} (h : sp_law_marks ds c E Q) : b_law_marks sp_law_draw (endD E Q) (startE 1 ds) c := by
  obtain ⟨p, k, f, rfl, hp, hk, q⟩ := h
  unfold b_law_marks
  walk_at "go"
  refine ⟨p, 4, k, f + 9, rfl, hp, hk, by decide, by decide, fun a k1 a0 a1 hk1 => ?_⟩
  walk_at "go"
  refine ⟨p, 4, k1, f + 8, rfl, updc_same, hk1, by decide, by decide, fun b k2 b0 b1 hk2 => ?_⟩
  rw [updc_updc]
  walk_at "go"
  refine ⟨p, 7, k2, f + 7, rfl, updc_same, hk2, by decide, by decide, fun d k3 d0 d1 hk3 => ?_⟩
  rw [updc_updc]
  walk_at "go"
  refine ⟨p, 8, k3, f + 6, rfl, updc_same, hk3, by decide, by decide, fun w k4 w0 w1 hk4 => ?_⟩
  rw [updc_updc]
  refine ix_menu [a, 2, 3, b, 2, 3, 1, d] 0 6 (fun x hx => ?_) w0 (by simp; omega) fun x x0 x1 => ?_
  · simp only [List.mem_cons, List.not_mem_nil, or_false] at hx
    rcases hx with rfl | rfl | rfl | rfl | rfl | rfl | rfl | rfl <;> omega
  · walk_at "go"
    exact ⟨_, SubC.rfl', q x k4 x0 x1 (hk4.mono (by omega))⟩
/-! what a view sees, by the law -/
def sp_law_seen : DSpec := fun ds c E Q => ∃ (w : Wo) (v : List Int), ds = [w.d, .lst (v.map D.int)] ∧ Q (.int (w.seen v)) c
theorem ok_law_seen {ds c E Q} (h : sp_law_seen ds c E Q) : b_law_seen (endD E Q) (startE 2 ds) c := by
  obtain ⟨w, v, rfl, q⟩ := h
  unfold b_law_seen
  refine wSeq_i ?_
  refine ⟨fun n env c' => c' = c ∧ ∃ u : Wo, u.deep = n ∧ u.seen v = w.seen v ∧ env = [some u.d, some (.lst (v.map D.int))], ⟨w.deep, rfl, w, rfl, rfl, rfl⟩, ?_⟩
  rintro n env c' ⟨rfl, u, rfl, hu, rfl⟩
  cases u with
  | num k =>
    simp only [Wo.d]
    walk_at "go"
    exact ⟨_, SubC.rfl', by rw [← hu] at q; exact q⟩
  | face m s t =>
    simp only [Wo.d]
    walk_at "go"
    refine ⟨fun env' c2 => c2 = c' ∧ ∃ u : Wo, u.deep < (Wo.face m s t).deep ∧ u.seen v = w.seen v ∧ env' = [some u.d, some (.lst (v.map D.int))], ?_, ?_⟩
    · rintro env' c2 ⟨rfl, u, h1, h2, h3⟩
      exact ⟨_, h1, _, SubC.rfl', rfl, u, rfl, h2, h3⟩
    · walk_at "go"
      refine in_l rfl rfl (ints_flat v) ?_
      walk_at "go"
      rw [← hu]
      by_cases hm : m ∈ v
      · rw [show (true ^^ decide (D.int m ∈ v.map D.int)) = false from by simp [hm]]
        refine ix_t (x := s.d) rfl ?_
        exact ⟨rfl, s, by simp only [Wo.deep]; omega, by simp only [Wo.seen]; rw [if_pos hm], rfl⟩
      · rw [show (true ^^ decide (D.int m ∈ v.map D.int)) = true from by simp [hm]]
        refine ix_t (x := t.d) rfl ?_
        exact ⟨rfl, t, by simp only [Wo.deep]; omega, by simp only [Wo.seen]; rw [if_neg hm], rfl⟩
/-! all views of some marks, by order -/
def viewD (v : List Int) : D := .lst (v.map D.int)
theorem one_int (x : Int) : [D.int x] = [x].map D.int := rfl
theorem app_ints (xs ys : List Int) : xs.map D.int ++ ys.map D.int = (xs ++ ys).map D.int := List.map_append.symm
def upV (vs : List (List Int)) (m : Int) : List (List Int) := vs ++ vs.map (· ++ [m])
theorem upV_mem : ∀ {ms : List Int} {vs : List (List Int)} {v : List Int}, v ∈ ms.foldl upV vs ↔ ∃ a ∈ vs, ∃ b, List.Sublist b ms ∧ v = a ++ b
  | [], vs, v => by
    simp only [List.foldl_nil, List.sublist_nil]
    refine ⟨fun h => ⟨v, h, [], rfl, by simp⟩, ?_⟩
    rintro ⟨a, ha, b, rfl, rfl⟩
    simpa using ha
  | m :: ms, vs, v => by
    rw [List.foldl_cons, upV_mem (ms := ms)]
    constructor
    · rintro ⟨a, ha, b, hb, rfl⟩
      unfold upV at ha
      rcases List.mem_append.mp ha with ha | ha
      · exact ⟨a, ha, b, hb.cons m, rfl⟩
      · obtain ⟨x, hx, rfl⟩ := List.mem_map.mp ha
        exact ⟨x, hx, m :: b, hb.cons₂ m, by simp⟩
    · rintro ⟨a, ha, b, hb, rfl⟩
      rcases List.sublist_cons_iff.mp hb with hb | ⟨r, rfl, hr⟩
      · exact ⟨a, List.mem_append_left _ ha, b, hb, rfl⟩
      · exact ⟨a ++ [m], List.mem_append_right _ (List.mem_map_of_mem ha), r, hr, by simp⟩
theorem upV_len : ∀ (ms : List Int) (vs : List (List Int)), (ms.foldl upV vs).length = vs.length * 2 ^ ms.length
  | [], vs => by simp
  | m :: ms, vs => by
    rw [List.foldl_cons, upV_len ms]
    unfold upV
    rw [List.length_append, List.length_map, List.length_cons, Nat.pow_succ, ← Nat.two_mul, Nat.mul_comm 2, Nat.mul_assoc, Nat.mul_comm 2]
theorem viewsD_ok : ∀ vs : List (List Int), okDs (vs.map viewD) = true ∧ deps (vs.map viewD) ≤ 1
  | [] => ⟨rfl, by decide⟩
  | v :: vs => by
    obtain ⟨a, b⟩ := viewsD_ok vs
    have h1 := (ints_eqOk v).1
    have h2 : dep (viewD v) ≤ 1 := by unfold viewD; simp [dep, ints_dep]
    refine ⟨?_, ?_⟩
    · rw [List.map_cons]
      simp only [okDs, Bool.and_eq_true]
      exact ⟨h1, a⟩
    · rw [List.map_cons]
      simp only [deps]
      omega
theorem toPy_view (v : List Int) : toPy (viewD v) = .list (v.map PyData.int) := by
  unfold viewD
  simp only [toPy, toPys_map, List.map_map]
  rfl
theorem views_alike (vs : List (List Int)) : PySem.W.AllAlike ((vs.map viewD).map toPy) := by
  rw [List.map_map]
  refine PySem.W.AllAlike.of (enc := toPy ∘ viewD) fun a b => ?_
  show PySem.W.alike (toPy (viewD a)) (toPy (viewD b)) = true
  rw [toPy_view, toPy_view]
  simp only [PySem.W.alike]
  exact PySem.W.alike_ints a b
theorem views_sortable (vs : List (List Int)) : PySem.W.Sortable ((vs.map viewD).map toPy) := by
  rw [List.map_map]
  refine PySem.W.Sortable.others (enc := toPy ∘ viewD) fun a => ?_
  show toPy (viewD a) ≠ .none ∧ ∀ xs, toPy (viewD a) ≠ .tuple xs
  rw [toPy_view]
  exact ⟨(by intro z; cases z), (by intro _ z; cases z)⟩
/-! what a viewer and a view need -/
theorem rise_eq {a b : List Int} (h1 : a.Pairwise (· < ·)) (h2 : b.Pairwise (· < ·)) (h : ∀ k, k ∈ a ↔ k ∈ b) : a = b := by
  have n1 : a.Nodup := h1.imp fun h => Int.ne_of_lt h
  have n2 : b.Nodup := h2.imp fun h => Int.ne_of_lt h
  refine List.Perm.eq_of_pairwise (le := (· ≤ ·)) (fun a b _ _ h1 h2 => Int.le_antisymm h1 h2) (h1.imp fun h => Int.le_of_lt h) (h2.imp fun h => Int.le_of_lt h) ?_
  exact (List.perm_ext_iff_of_nodup n1 n2).mpr h
structure VwOk (n : Int) (v : List Int) : Prop where
  up : v.Pairwise (· < ·)
  rng : ∀ x ∈ v, 0 ≤ x ∧ x < n
def VrOk (v : Int) : Prop := 0 ≤ v ∧ v ≤ 9
def sp_need_viewer (K : PySem.W.Frag) : DSpec := fun ds c E Q => ∃ v : Int, ds = [.int v] ∧ (VrOk v → Q .non c) ∧ (¬ VrOk v → E (excV K "NoNumber") none c)
theorem ok_need_viewer {K : PySem.W.Frag} {ds c E Q} (h : sp_need_viewer K ds c E Q) : b_need_viewer K (endD E Q) (startE 1 ds) c := by
  obtain ⟨v, rfl, q, x⟩ := h
  unfold VrOk at q x
  unfold b_need_viewer
  walk_at "go"
  refine ite_d (fun h => ?_) (fun h => ?_)
  · walk_at "go"
    exact wRaise_i ⟨_, SubC.rfl', x (by omega)⟩
  · walk_at "go"
    refine ite_d (fun h2 => ?_) (fun h2 => ?_)
    · exact wRaise_i ⟨_, SubC.rfl', x (by omega)⟩
    · walk_at "go"
      exact ⟨_, SubC.rfl', q (by omega)⟩
def sp_need_view (K : PySem.W.Frag) : DSpec := fun ds c E Q => ∃ (v : List Int) (n : Int), ds = [.lst (v.map D.int), .int n] ∧ v.length ≤ 7 ∧ (VwOk n v → Q .non c) ∧ (¬ VwOk n v → E (excV K "NoMark") none c)
theorem ok_need_view {K : PySem.W.Frag} {ds c E Q} (h : sp_need_view K ds c E Q) : b_need_view K (endD E Q) (startE 3 ds) c := by
  obtain ⟨v, n, rfl, hl, q, x⟩ := h
  unfold b_need_view
  walk_at "go"
  refine wSorSet_i ?_
  walk_at "go"
  refine ⟨v, rfl, by omega, fun ms m1 m2 => newL_f ?_⟩
  refine eq_dd (d' := .lst (v.map D.int)) (e' := .lst (ms.map D.int)) rfl rfl (ints_eqOk _) (ints_eqOk _) ?_
  walk_at "go"
  refine ite_td (fun h => ?_) (fun h => ?_)
  · walk_at "go"
    refine wRaise_i ⟨_, SubC.rfl', x fun z => h ?_⟩
    rw [rise_eq z.up m1 fun k => (m2 k).symm]
  have hv : v = ms := ints_inj.mp h
  subst hv
  walk_at "go"
  intro A hA
  refine comp_mapL (fun k : Int => if k < 0 ∨ k ≥ n then some (.int k) else none) hA (by omega) ?_ ?_
  · intro k c2 K hk hc hK
    walk_at "go"
    refine ite_d (fun h => ?_) (fun h => ?_)
    · rw [if_pos (.inl h)] at hK
      walk_at "go"
      exact hK
    · walk_at "go"
      refine ite_d (fun h2 => ?_) (fun h2 => ?_)
      · rw [if_pos (.inr h2)] at hK
        walk_at "go"
        exact hK
      · rw [if_neg (by omega)] at hK
        exact hK
  rw [fm_if]
  walk_at "go"
  refine eq_dd (d' := .lst ((v.filter fun k => decide (k < 0 ∨ k ≥ n)).map D.int)) (e' := .lst (([] : List Int).map D.int)) rfl rfl (ints_eqOk _) (ints_eqOk _) ?_
  walk_at "go"
  refine ite_td (fun h => ?_) (fun h => ?_)
  · refine wRaise_i ⟨_, SubC.rfl', x fun z => h ?_⟩
    have : (v.filter fun k => decide (k < 0 ∨ k ≥ n)) = [] := by
      rw [List.filter_eq_nil_iff]
      intro k hk
      have := z.rng k hk
      simp only [decide_eq_true_eq]
      omega
    rw [this]
  · walk_at "go"
    refine ⟨_, SubC.rfl', q ⟨m1, fun k hk => ?_⟩⟩
    have e := ints_inj.mp h
    rw [List.filter_eq_nil_iff] at e
    have := e k hk
    simp only [decide_eq_true_eq] at this
    omega
structure AskOk (rs : List Ru) (bs : List Bx) : Prop where
  len : rs.length ≤ 6
  ru : ∀ r ∈ rs, r.ok
  bx : BxOk 6 bs
/-- some rules, frozen or in a cell -/
def Rl (c : CMap) (d : D) (rs : List Ru) : Prop := res c d = .lst (rs.map Ru.d)
def okV (rs : List Ru) (bs : List Bx) (viewer : Int) (v : List Int) : Bool := v.all fun x => ((rs[x.toNat]?).map fun r => r.holds (namedK bs viewer v)).getD true
def sp_all_hold : DSpec := fun ds c E Q => ∃ (rd : D) (rs : List Ru) (bs : List Bx) (viewer : Int) (v : List Int), ds = [rd, .lst (bs.map bxD), .int viewer, .lst (v.map D.int)] ∧ Rl c rd rs ∧ AskOk rs bs ∧ VrOk viewer ∧ v.length ≤ 7 ∧ (∀ x ∈ v, 0 ≤ x ∧ x < (rs.length : Int)) ∧ Q (.bl (okV rs bs viewer v)) c
theorem ok_all_hold {ds c E Q} (h : sp_all_hold ds c E Q) : b_all_hold sp_rule_holds (endD E Q) (startE 5 ds) c := by
  obtain ⟨rd, rs, bs, viewer, v, rfl, hR, hk, hv, hl, hr, q⟩ := h
  unfold b_all_hold
  walk_at "go"
  intro A hA
  let f : Int → Bool := fun x => ((rs[x.toNat]?).map fun r => r.holds (namedK bs viewer v)).getD true
  refine comp_mapL (fun x : Int => some (.bl (f x))) hA (by omega) ?_ ?_
  · intro x c2 K hx hc hK
    have hx2 := hr x hx
    have hx3 : x.toNat < rs.length := by omega
    have hR2 : res c2 rd = .lst (rs.map Ru.d) := res_sub hc hR
    walk_at "go"
    refine ix_res (x := (rs[x.toNat]'hx3).d) hR2 (atn (j := x.toNat) (by omega) (by rw [List.getElem?_map, List.getElem?_eq_getElem hx3]; rfl)) ?_
    walk_at "go"
    refine ⟨rs[x.toNat]'hx3, bs, viewer, v, 6, rfl, hk.ru _ (List.getElem_mem hx3), hk.bx, hv.1, by have := hv.2; omega, ?_⟩
    walk_at "go"
    have e : f x = (rs[x.toNat]'hx3).holds (namedK bs viewer v) := by
      show ((rs[x.toNat]?).map fun r => r.holds (namedK bs viewer v)).getD true = _
      rw [List.getElem?_eq_getElem hx3]; rfl
    rw [e] at hK
    exact hK
  rw [fm_some]
  walk_at "go"
  refine all_l (bs := v.map f) (by rw [show (v.map fun x => D.bl (f x)) = (v.map f).map D.bl from by rw [List.map_map]; rfl]; exact blsD_map _) ?_
  refine ⟨_, SubC.rfl', ?_⟩
  rw [show (v.map f).all id = okV rs bs viewer v from by rw [List.all_map]; rfl]
  exact q
def sp_is_let (K : PySem.W.Frag) : DSpec := fun ds c E Q => ∃ (rd : D) (rs : List Ru) (bs : List Bx) (viewer : Int) (v : List Int), ds = [rd, .lst (bs.map bxD), .int viewer, .lst (v.map D.int)] ∧ Rl c rd rs ∧ AskOk rs bs ∧ v.length ≤ 7 ∧ VrOk viewer ∧ VwOk (rs.length : Int) v ∧ Q (.bl (okV rs bs viewer v)) c
theorem ok_is_let {K : PySem.W.Frag} {ds c E Q} (h : sp_is_let K ds c E Q) : b_is_let (sp_need_viewer K) (sp_need_view K) sp_all_hold (endD E Q) (startE 4 ds) c := by
  obtain ⟨rd, rs, bs, viewer, v, rfl, hR, hk, hl, hv, hw, q⟩ := h
  unfold b_is_let
  walk_at "go"
  refine ⟨viewer, rfl, fun _ => ?_, fun z => absurd hv z⟩
  walk_at "go"
  refine len_res hR ?_
  walk_at "go"
  refine ⟨v, (rs.length : Int), by rw [List.length_map], hl, fun _ => ?_, fun z => absurd hw z⟩
  walk_at "go"
  refine ⟨rd, rs, bs, viewer, v, rfl, hR, hk, hv, hl, hw.rng, ?_⟩
  walk_at "go"
  exact ⟨_, SubC.rfl', q⟩
/-! views by order -/
theorem upto_up (a : Int) (n : Nat) : (upto a n).Pairwise (· < ·) := by
  unfold upto
  rw [List.pairwise_map]
  exact List.pairwise_lt_range.imp fun h => by omega
theorem mem_upto {n : Nat} {x : Int} : x ∈ upto 0 n ↔ 0 ≤ x ∧ x < (n : Int) := by
  unfold upto
  rw [List.mem_map]
  constructor
  · rintro ⟨i, hi, rfl⟩
    have := List.mem_range.mp hi
    omega
  · rintro ⟨h0, h1⟩
    exact ⟨x.toNat, List.mem_range.mpr (by omega), by omega⟩
def vsort (l : List (List Int)) : List (List Int) := l.mergeSort fun a b => decide (a ≤ b)
theorem leD_view (a b : List Int) : leD (viewD a) (viewD b) = decide (a ≤ b) := by
  have h := congrFun (congrFun (PySem.W.dataLe_rows (fun x : List Int => x)) a) b
  rw [← h]
  show (!PySem.W.dataLt (toPy (viewD b)) (toPy (viewD a))) = (!PySem.W.dataLt (.list (b.map PyData.int)) (.list (a.map PyData.int)))
  rw [toPy_view, toPy_view]
theorem vsort_D (l : List (List Int)) : (l.map viewD).mergeSort leD = (vsort l).map viewD := by
  unfold vsort
  exact (List.map_mergeSort (fun a _ b _ => (leD_view a b).symm)).symm
theorem vsort_up (l : List (List Int)) : (vsort l).Pairwise (· ≤ ·) := by
  have := List.pairwise_mergeSort (le := fun a b : List Int => decide (a ≤ b)) (fun a b c h1 h2 => by simp only [decide_eq_true_eq] at *; exact List.le_trans h1 h2) (fun a b => by simp only [Bool.or_eq_true, decide_eq_true_eq]; exact List.le_total a b) l
  exact this.imp fun h => by simpa using h
theorem vsort_p (l : List (List Int)) : (vsort l).Perm l := List.mergeSort_perm _ _
theorem vsort_of {l l' : List (List Int)} (h : l.Perm l') (u : l.Pairwise (· ≤ ·)) : l = vsort l' :=
  List.Perm.eq_of_pairwise (le := (· ≤ ·)) (fun a b _ _ h1 h2 => List.le_antisymm h1 h2) u (vsort_up l') (h.trans (vsort_p l').symm)
theorem vsort_perm {l l' : List (List Int)} (h : l.Perm l') : vsort l = vsort l' := vsort_of ((vsort_p l).trans h) (vsort_up l)
theorem vsort_filter (p : List Int → Bool) (l : List (List Int)) : (vsort l).filter p = vsort (l.filter p) :=
  vsort_of ((vsort_p l).filter p) ((vsort_up l).sublist List.filter_sublist)
def vws (n : Nat) : List (List Int) := vsort ((upto 0 n).foldl upV [[]])
theorem vws_mem {n : Nat} {v : List Int} : v ∈ vws n ↔ List.Sublist v (upto 0 n) := by
  unfold vws
  rw [(vsort_p _).mem_iff, upV_mem]
  constructor
  · rintro ⟨a, ha, b, hb, rfl⟩
    simp only [List.mem_singleton] at ha
    subst ha
    exact hb
  · intro h
    exact ⟨[], by simp, v, h, rfl⟩
theorem upto_snoc (n : Nat) : upto 0 (n + 1) = upto 0 n ++ [(n : Int)] := by
  unfold upto
  rw [List.range_succ, List.map_append]
  simp
theorem fold_snoc (n : Nat) : (upto 0 (n + 1)).foldl upV [[]] = (upto 0 n).foldl upV [[]] ++ ((upto 0 n).foldl upV [[]]).map (· ++ [(n : Int)]) := by
  rw [upto_snoc, List.foldl_append]
  rfl
theorem fold_rng {n : Nat} {v : List Int} (h : v ∈ (upto 0 n).foldl upV [[]]) : (n : Int) ∉ v := by
  intro z
  have h2 : List.Sublist v (upto 0 n) := vws_mem.mp ((vsort_p _).mem_iff.mpr h)
  have := mem_upto.mp (h2.subset z)
  omega
theorem fold_nodup : ∀ n : Nat, ((upto 0 n).foldl upV [[]]).Nodup
  | 0 => by simp [upto]
  | n + 1 => by
    rw [fold_snoc, List.nodup_append]
    have ih := fold_nodup n
    refine ⟨ih, ?_, ?_⟩
    · exact List.Pairwise.map _ (fun a b h z => h (List.append_cancel_right z)) ih
    · intro a ha b hb z
      obtain ⟨c, hc, rfl⟩ := List.mem_map.mp hb
      exact fold_rng ha (by rw [z]; simp)
theorem vws_nodup (n : Nat) : (vws n).Nodup := (vsort_p _).nodup_iff.mpr (fold_nodup n)
/-- the views let through -/
def letL (ok : List Int → Bool) (n : Nat) : List (List Int) := (vws n).filter ok
theorem letL_fold (ok : List Int → Bool) (n : Nat) : letL ok n = vsort (((upto 0 n).foldl upV [[]]).filter ok) := vsort_filter _ _
theorem let_perm (ok : List Int → Bool) (n : Nat) : (letL ok n).Perm (((upto 0 n).foldl upV [[]]).filter ok) := by
  rw [letL_fold]
  exact vsort_p _
theorem let_more {ok ok' : List Int → Bool} {n : Nat} (h1 : ∀ v, List.Sublist v (upto 0 n) → ok' v = ok v) (h2 : ∀ v, List.Sublist v (upto 0 n) → ok' (v ++ [(n : Int)]) = ok v) : letL ok' (n + 1) = vsort (letL ok n ++ (letL ok n).map (· ++ [(n : Int)])) := by
  rw [letL_fold, fold_snoc, List.filter_append, List.filter_map]
  have m : ∀ v ∈ (upto 0 n).foldl upV [[]], List.Sublist v (upto 0 n) := fun v hv => vws_mem.mp ((vsort_p _).mem_iff.mpr hv)
  have e1 : ((upto 0 n).foldl upV [[]]).filter ok' = ((upto 0 n).foldl upV [[]]).filter ok := List.filter_congr fun v hv => h1 v (m v hv)
  have e2 : ((upto 0 n).foldl upV [[]]).filter (ok' ∘ (· ++ [(n : Int)])) = ((upto 0 n).foldl upV [[]]).filter ok := List.filter_congr fun v hv => h2 v (m v hv)
  rw [e1, e2]
  have p := let_perm ok n
  exact vsort_perm (p.symm.append (p.symm.map _))
theorem let_less {ok ok' : List Int → Bool} {n : Nat} (h1 : ∀ v, List.Sublist v (upto 0 n) → ok' v = ok v) (h2 : ∀ v, List.Sublist v (upto 0 n) → ok' (v ++ [(n : Int)]) = false) : letL ok' (n + 1) = letL ok n := by
  rw [letL_fold, fold_snoc, List.filter_append, List.filter_map]
  have m : ∀ v ∈ (upto 0 n).foldl upV [[]], List.Sublist v (upto 0 n) := fun v hv => vws_mem.mp ((vsort_p _).mem_iff.mpr hv)
  have e1 : ((upto 0 n).foldl upV [[]]).filter ok' = ((upto 0 n).foldl upV [[]]).filter ok := List.filter_congr fun v hv => h1 v (m v hv)
  have e2 : ((upto 0 n).foldl upV [[]]).filter (ok' ∘ (· ++ [(n : Int)])) = [] := by
    rw [List.filter_eq_nil_iff]
    intro v hv
    simp only [Function.comp, h2 v (m v hv)]
    decide
  rw [e1, e2, List.map_nil, List.append_nil]
  exact (letL_fold ok n).symm
/-! all views -/
def sp_views_of : DSpec := fun ds c E Q => ∃ n : Nat, ds = [.int (n : Int)] ∧ n ≤ 6 ∧ Q (.lst ((vws n).map viewD)) c
theorem ok_views_of {ds c E Q} (h : sp_views_of ds c E Q) : b_views_of (endD E Q) (startE 4 ds) c := by
  obtain ⟨n, rfl, m6, q⟩ := h
  obtain ⟨m, hm⟩ : ∃ m : Int, m = (n : Int) := ⟨_, rfl⟩
  rw [← hm]
  have m0 : 0 ≤ m := by omega
  have m6 : m ≤ 6 := by omega
  unfold b_views_of
  walk_at "go"
  refine for_inv (fun i env c' => c' = c ∧ i ≤ m.toNat ∧ ∃ v2 v3, env = [some (.int m), some (.lst ((((upto 0 m.toNat).take i).foldl upV [[]]).map viewD)), v2, v3]) ⟨rfl, Nat.zero_le _, none, none, rfl⟩ ?_ ?_
  · rintro i d env c' e ⟨rfl, hi, v2, v3, rfl⟩
    obtain ⟨y, hy, rfl⟩ := mem_map_at e
    have hi2 := (List.getElem?_eq_some_iff.mp hy).1
    have hy2 := hy
    rw [upto_len] at hi2
    have hn := upV_len ((upto 0 m.toNat).take i) [[]]
    rw [List.length_take, upto_len, Nat.min_eq_left hi, List.length_singleton, Nat.one_mul] at hn
    have h64 : 2 ^ i ≤ 2 ^ 6 := Nat.pow_le_pow_right (by decide) (by omega)
    walk_at "go"
    intro A hA
    refine comp_mapL (fun v : List Int => some (viewD (v ++ [y]))) hA (by omega) ?_ ?_
    · intro v c2 K hv hc hK
      walk_at "go"
      have hvl : v.length ≤ 6 := by
        obtain ⟨a, ha, b, hb, rfl⟩ := upV_mem.mp hv
        simp only [List.mem_singleton] at ha
        subst ha
        have := hb.length_le
        rw [List.length_take, upto_len] at this
        simp only [List.nil_append]
        omega
      unfold viewD at hK ⊢
      refine add_ll (len_le (by rw [List.length_map]; simp; omega)) (newL_f ?_)
      rw [one_int, app_ints]
      walk_at "go"
      exact hK
    rw [fm_some]
    walk_at "go"
    refine add_ll (len_le (by rw [List.length_map, List.length_map]; omega)) (newL_f ?_)
    walk_at "go"
    refine ⟨rfl, by omega, some (.int y), v3, ?_⟩
    have e2 : ((upto 0 m.toNat).take (i + 1)).foldl upV [[]] = upV (((upto 0 m.toNat).take i).foldl upV [[]]) y := by
      rw [List.take_add_one, hy2, List.foldl_append]; rfl
    rw [e2]
    unfold upV
    rw [List.map_append, List.map_map]
    rfl
  · rintro env c' ⟨rfl, _, v2, v3, rfl⟩
    have hln : ((upto 0 m.toNat).map D.int).length = m.toNat := by rw [List.length_map, upto_len]
    try rw [show (m - 0).toNat = m.toNat from by rw [Int.sub_zero]]
    rw [hln, List.take_of_length_le (by rw [upto_len]; exact Nat.le_refl _)]
    walk_at "go"
    obtain ⟨o1, o2⟩ := viewsD_ok ((upto 0 m.toNat).foldl upV [[]])
    refine sortD_i rfl o1 (by omega) (views_alike _) (views_sortable _) (newL_f ?_)
    rw [vsort_D, show m.toNat = n from by omega]
    exact ⟨_, SubC.rfl', q⟩
theorem vws_len (n : Nat) : (vws n).length = 2 ^ n := by
  have := upV_len (upto 0 n) [[]]
  rw [upto_len, List.length_singleton, Nat.one_mul] at this
  unfold vws
  rw [(vsort_p _).length_eq, this]
/-! the view that is picked: mark by mark those that hold it, if there is one -/
def pick1 (vs : List (List Int)) (k : Int) : List (List Int) := if vs.filter (fun u => decide (k ∈ u)) = [] then vs else vs.filter fun u => decide (k ∈ u)
def pick (vs : List (List Int)) (ks : List Int) : List (List Int) := ks.foldl pick1 vs
theorem pick1_sl (vs : List (List Int)) (k : Int) : List.Sublist (pick1 vs k) vs := by
  unfold pick1
  split
  · exact List.Sublist.refl _
  · exact List.filter_sublist
theorem pick1_ne {vs : List (List Int)} {k : Int} (h : vs ≠ []) : pick1 vs k ≠ [] := by
  unfold pick1
  split
  · exact h
  · rename_i h2; exact h2
theorem pick1_all (vs : List (List Int)) (k : Int) : (∀ u ∈ pick1 vs k, k ∈ u) ∨ (∀ u ∈ pick1 vs k, k ∉ u) := by
  unfold pick1
  split
  · rename_i h
    rw [List.filter_eq_nil_iff] at h
    exact .inr fun u hu z => h u hu (by simpa using z)
  · exact .inl fun u hu => by simpa using (List.mem_filter.mp hu).2
theorem pick_sl : ∀ (ks : List Int) (vs : List (List Int)), List.Sublist (pick vs ks) vs
  | [], vs => List.Sublist.refl _
  | k :: ks, vs => (pick_sl ks (pick1 vs k)).trans (pick1_sl vs k)
theorem pick_ne : ∀ (ks : List Int) {vs : List (List Int)}, vs ≠ [] → pick vs ks ≠ []
  | [], _, h => h
  | k :: ks, _, h => pick_ne ks (pick1_ne h)
theorem pick_all : ∀ (ks : List Int) (vs : List (List Int)) (k : Int), k ∈ ks → (∀ u ∈ pick vs ks, k ∈ u) ∨ (∀ u ∈ pick vs ks, k ∉ u)
  | k :: ks, vs, j, h => by
    rcases List.mem_cons.mp h with rfl | h
    · rcases pick1_all vs j with z | z
      · exact .inl fun u hu => z u ((pick_sl ks (pick1 vs j)).subset hu)
      · exact .inr fun u hu => z u ((pick_sl ks (pick1 vs j)).subset hu)
    · exact pick_all ks (pick1 vs k) j h
theorem pick1_perm {vs ws : List (List Int)} (h : vs.Perm ws) (k : Int) : (pick1 vs k).Perm (pick1 ws k) := by
  have hf := h.filter fun u => decide (k ∈ u)
  unfold pick1
  by_cases e : ws.filter (fun u => decide (k ∈ u)) = []
  · rw [if_pos e, if_pos (by rw [e] at hf; exact hf.eq_nil)]
    exact h
  · rw [if_neg e, if_neg (fun z => e (by rw [z] at hf; exact hf.symm.eq_nil))]
    exact hf
theorem pick_perm : ∀ (ks : List Int) {vs ws : List (List Int)}, vs.Perm ws → (pick vs ks).Perm (pick ws ks)
  | [], _, _, h => h
  | k :: ks, _, _, h => pick_perm ks (pick1_perm h k)
theorem filter_with (vs : List (List Int)) {k n : Int} (h : k ≠ n) : (vs.map (· ++ [n])).filter (fun u => decide (k ∈ u)) = (vs.filter fun u => decide (k ∈ u)).map (· ++ [n]) := by
  rw [List.filter_map]
  congr 1
  refine List.filter_congr fun u _ => ?_
  simp [h]
theorem pick1_two (vs : List (List Int)) {k n : Int} (h : k ≠ n) : pick1 (vs ++ vs.map (· ++ [n])) k = pick1 vs k ++ (pick1 vs k).map (· ++ [n]) := by
  unfold pick1
  rw [List.filter_append, filter_with vs h]
  by_cases e : vs.filter (fun u => decide (k ∈ u)) = []
  · rw [if_pos e, if_pos (by rw [e]; rfl)]
  · rw [if_neg e, if_neg (fun z => e (List.append_eq_nil_iff.mp z).1)]
theorem pick_two : ∀ (ks : List Int) (vs : List (List Int)) {n : Int}, (∀ k ∈ ks, k ≠ n) → pick (vs ++ vs.map (· ++ [n])) ks = pick vs ks ++ (pick vs ks).map (· ++ [n])
  | [], vs, n, _ => rfl
  | k :: ks, vs, n, h => by
    show pick (pick1 (vs ++ vs.map (· ++ [n])) k) ks = _
    rw [pick1_two vs (h k List.mem_cons_self)]
    exact pick_two ks (pick1 vs k) fun j hj => h j (List.mem_cons_of_mem _ hj)
theorem all_one {α : Type} {l : List α} (h : l ≠ []) (n : l.Nodup) (a : ∀ x ∈ l, ∀ y ∈ l, x = y) : ∃ x, l = [x] := by
  match l, h, n, a with
  | [x], _, _, _ => exact ⟨x, rfl⟩
  | x :: y :: r, _, n, a =>
    have := a x List.mem_cons_self y (List.mem_cons_of_mem _ List.mem_cons_self)
    subst this
    simp at n
theorem pick_one {ks : List Int} {vs : List (List Int)} (h : vs ≠ []) (n : vs.Nodup) (u : ∀ v ∈ vs, v.Pairwise (· < ·) ∧ ∀ x ∈ v, x ∈ ks) : ∃ own, pick vs ks = [own] ∧ own ∈ vs := by
  have sl := pick_sl ks vs
  obtain ⟨own, e⟩ := all_one (pick_ne ks h) (n.sublist sl) fun x hx y hy => by
    have hx2 := u x (sl.subset hx)
    have hy2 := u y (sl.subset hy)
    refine rise_eq hx2.1 hy2.1 fun k => ?_
    constructor
    · intro z
      rcases pick_all ks vs k (hx2.2 k z) with q | q
      · exact q y hy
      · exact absurd z (q x hx)
    · intro z
      rcases pick_all ks vs k (hy2.2 k z) with q | q
      · exact q x hx
      · exact absurd z (q y hy)
  exact ⟨own, e, sl.subset (by rw [e]; exact List.mem_singleton.mpr rfl)⟩
/-- one mark more, the rule of which always holds -/
theorem pick_more {ks : List Int} {vs ws : List (List Int)} {n : Int} {own : List Int} (hw : ws.Perm (vs ++ vs.map (· ++ [n]))) (hk : ∀ k ∈ ks, k ≠ n) (hn : ∀ v ∈ vs, n ∉ v) (e : pick vs ks = [own]) (ho : own ∈ vs) : pick ws (ks ++ [n]) = [own ++ [n]] := by
  have p : (pick ws ks).Perm [own, own ++ [n]] := by
    have := pick_perm ks hw
    rw [pick_two ks vs hk, e] at this
    exact this
  have p2 := pick1_perm p n
  have e2 : pick1 [own, own ++ [n]] n = [own ++ [n]] := by
    unfold pick1
    simp [hn own ho]
  rw [e2] at p2
  show (ks ++ [n]).foldl pick1 ws = _
  rw [List.foldl_append]
  exact List.perm_singleton.mp p2
/-! numbers by names: only what the view sees counts -/
theorem find_upd (kvs : KV) (k x : Key) (d : D) : ((kvs.map fun kv => if kv.1 = k then (kv.1, d) else kv).find? fun kv => decide (kv.1 = x)).map (·.2) = if x = k then (if (kvs.any fun kv => decide (kv.1 = k)) = true then some d else none) else (kvs.find? fun kv => decide (kv.1 = x)).map (·.2) := by
  induction kvs with
  | nil => simp
  | cons kv r ih =>
    rw [List.map_cons, List.find?_cons, List.find?_cons, List.any_cons]
    by_cases h : kv.1 = k
    · rw [if_pos h]
      by_cases h2 : kv.1 = x
      · have e : x = k := h2.symm.trans h
        simp [h, e]
      · have e : ¬ x = k := fun z => h2 (h.trans z.symm)
        simp only [h2, decide_false]
        rw [ih, if_neg e, if_neg e]
    · rw [if_neg h]
      by_cases h2 : kv.1 = x
      · have e : ¬ x = k := fun z => h (h2.trans z)
        simp [h2, e]
      · simp only [h2, h, decide_false, Bool.false_or]
        exact ih
theorem valD_put (kvs : KV) (k x : Key) (d : D) : valD (putKD kvs k d) x = if x = k then some d else valD kvs x := by
  unfold putKD
  split
  · rename_i h
    unfold valD
    rw [find_upd, if_pos h]
  · rename_i h
    unfold valD
    rw [List.find?_append]
    by_cases e : x = k
    · subst e
      have : (kvs.find? fun kv => decide (kv.1 = x)) = none := by
        rw [List.find?_eq_none]
        intro kv hkv z
        exact h (List.any_eq_true.mpr ⟨kv, hkv, z⟩)
      rw [this]
      simp
    · rw [if_neg e]
      have e2 : ¬ k = x := fun z => e z.symm
      simp [e2]
theorem numAt_put (kvs : KV) (y x : Str) (i : Int) : numAt (putKD kvs (.inr y) (.int i)) x = if x = y then i else numAt kvs x := by
  unfold numAt
  rw [valD_put]
  by_cases e : x = y
  · subst e; simp
  · rw [if_neg e, if_neg (fun z => e (Sum.inr.inj z))]
def valAt (v : List Int) (bs : List Bx) (x : Str) : Int := bs.foldl (fun a b => if x = b.1 then b.2.seen v else a) 0
theorem numAt_merge (v : List Int) (x : Str) : ∀ (bs : List Bx) (kvs : KV), numAt (mergeKD kvs (bs.map (boxK v))) x = bs.foldl (fun a b => if x = b.1 then b.2.seen v else a) (numAt kvs x)
  | [], _ => rfl
  | b :: r, kvs => by
    rw [List.map_cons, List.foldl_cons]
    show numAt (mergeKD (putKD kvs (.inr b.1) (.int (b.2.seen v))) (r.map (boxK v))) x = _
    rw [numAt_merge v x r, numAt_put]
theorem numAt_named (bs : List Bx) (vr : Int) (v : List Int) (x : Str) : numAt (namedK bs vr v) x = if x = Str.ofString "who" then vr else valAt v bs x := by
  unfold namedK
  rw [numAt_put, numAt_merge]
  rfl
theorem holds_ext {r : Ru} {k k' : KV} (h : ∀ x, numAt k x = numAt k' x) : r.holds k = r.holds k' := by
  have p : ∀ a : Pl, a.val k = a.val k' := fun a => by cases a <;> simp [Pl.val, h]
  have s : ∀ a : Sd, a.val k = a.val k' := fun a => by cases a <;> simp [Sd.val, p]
  unfold Ru.holds
  rw [s, s]
/-- what is there of some boxes: those that show a number but 0 -/
theorem fold_none {v : List Int} {x : Str} : ∀ {bs : List Bx} {a : Int}, (∀ b ∈ bs, b.1 ≠ x) → bs.foldl (fun a b => if x = b.1 then b.2.seen v else a) a = a
  | [], _, _ => rfl
  | b :: r, a, h => by
    rw [List.foldl_cons, if_neg (fun z => h b List.mem_cons_self z.symm)]
    exact fold_none fun c hc => h c (List.mem_cons_of_mem _ hc)
/-- two rows of boxes of the same names that differ only where both show 0 -/
theorem valAt_alike {v w : List Int} {x : Str} (f : Bx → Option Bx) (hf : ∀ b c, f b = some c → c.1 = b.1 ∧ c.2.seen w = b.2.seen v) (h0 : ∀ b, f b = none → b.2.seen v = 0) : ∀ {bs : List Bx}, (bs.map (·.1)).Nodup → valAt w (bs.filterMap f) x = valAt v bs x := by
  have gen : ∀ {bs : List Bx} (a : Int), (bs.map (·.1)).Nodup → (a = 0 ∨ ∀ b ∈ bs, b.1 ≠ x) → (bs.filterMap f).foldl (fun a b => if x = b.1 then b.2.seen w else a) a = bs.foldl (fun a b => if x = b.1 then b.2.seen v else a) a := by
    intro bs
    induction bs with
    | nil => intro a _ _; rfl
    | cons b r ih =>
      intro a n h
      rw [List.map_cons, List.nodup_cons] at n
      rw [List.filterMap_cons, List.foldl_cons]
      by_cases e : x = b.1
      · have ha : a = 0 := by
          rcases h with h | h
          · exact h
          · exact absurd e.symm (h b List.mem_cons_self)
        have hr : ∀ c ∈ r, c.1 ≠ x := fun c hc z => n.1 (List.mem_map.mpr ⟨c, hc, z.trans e⟩)
        rw [if_pos e]
        cases hb : f b with
        | none =>
          show (r.filterMap f).foldl _ a = _
          rw [h0 b hb, ha]
          exact ih 0 n.2 (.inl rfl)
        | some c =>
          obtain ⟨c1, c2⟩ := hf b c hb
          show ((c :: r.filterMap f).foldl _ a) = _
          rw [List.foldl_cons, if_pos (by rw [c1]; exact e), c2]
          exact ih _ n.2 (.inr hr)
      · rw [if_neg e]
        have h' : a = 0 ∨ ∀ c ∈ r, c.1 ≠ x := h.imp id fun z c hc => z c (List.mem_cons_of_mem _ hc)
        cases hb : f b with
        | none => exact ih a n.2 h'
        | some c =>
          obtain ⟨c1, c2⟩ := hf b c hb
          show ((c :: r.filterMap f).foldl _ a) = _
          rw [List.foldl_cons, if_neg (by rw [c1]; exact e)]
          exact ih a n.2 h'
  intro bs n
  exact gen 0 n (.inl rfl)
/-! worths put together view by view, the marked ones at the odd places -/
theorem odds_at {α : Type} : ∀ (xs : List α) (n i : Nat), xs.length = 2 * n → (odds xs)[i]? = xs[2 * i + 1]?
  | [], _, _, _ => by simp [odds]
  | [a], n, _, h => by simp at h; omega
  | a :: b :: r, n, 0, _ => rfl
  | a :: b :: r, n, i + 1, h => by
    simp only [List.length_cons] at h
    have := odds_at r (n - 1) i (by omega)
    rw [show 2 * (i + 1) + 1 = 2 * i + 1 + 1 + 1 from by omega]
    simpa [odds] using this
theorem evens_at {α : Type} : ∀ (xs : List α) (n i : Nat), xs.length = 2 * n → (evens xs)[i]? = xs[2 * i]?
  | [], _, _, _ => by simp [evens]
  | [a], n, _, h => by simp at h; omega
  | a :: b :: r, n, 0, _ => rfl
  | a :: b :: r, n, i + 1, h => by
    simp only [List.length_cons] at h
    have := evens_at r (n - 1) i (by omega)
    rw [show 2 * (i + 1) = 2 * i + 1 + 1 from by omega]
    simpa [evens] using this
/-- a view's place in a row of numbers -/
def ixV : List Int → List Int → Nat
  | [], _ => 0
  | m :: ms, v => (decide (m ∈ v)).toNat + 2 * ixV ms v
theorem builtE_seen : ∀ (ms ns v : List Int) (x : Int), ns.length = 2 ^ ms.length → ns[ixV ms v]? = some x → (builtE ms ns).seen v = x
  | [], ns, v, x, hn, hx => by
    match ns, hn with
    | [y], _ => simpa [ixV, builtE, Wo.seen] using hx
  | m :: ms, ns, v, x, hn, hx => by
    rw [List.length_cons, Nat.pow_succ] at hn
    obtain ⟨l1, l2⟩ := odds_len ns (n := 2 ^ ms.length) (by omega)
    by_cases hm : m ∈ v
    · have hx2 : (odds ns)[ixV ms v]? = some x := by
        rw [odds_at ns (2 ^ ms.length) _ (by omega), ← hx]
        simp only [ixV, hm, decide_true, Bool.toNat_true]
        rw [Nat.add_comm]
      have h1 := builtE_seen ms (odds ns) v x l1 hx2
      unfold builtE
      split
      · exact h1
      · simp only [Wo.seen, if_pos hm]; exact h1
    · have hx2 : (evens ns)[ixV ms v]? = some x := by
        rw [evens_at ns (2 ^ ms.length) _ (by omega), ← hx]
        simp only [ixV, hm, decide_false, Bool.toNat_false, Nat.zero_add]
      have h1 := builtE_seen ms (evens ns) v x l2 hx2
      unfold builtE
      split
      · rename_i e
        rw [e]; exact h1
      · simp only [Wo.seen, if_neg hm]; exact h1
def bitOn (b k : Nat) : Bool := decide (Builtin.bitAnd ((b : Int) / 2 ^ k) 1 = 1)
def havL (b : Nat) : List Int := (upto 0 6).filter fun x => bitOn b x.toNat
theorem bit_at : ∀ b0 b1 b2 b3 b4 b5 : Bool, ∀ k : Fin 6, bitOn (b0.toNat + 2 * (b1.toNat + 2 * (b2.toNat + 2 * (b3.toNat + 2 * (b4.toNat + 2 * (b5.toNat + 2 * 0)))))) k.1 = ([b0, b1, b2, b3, b4, b5] : List Bool).getD k.1 false := by decide +kernel
theorem ixV_lt (v : List Int) : ixV [0, 1, 2, 3, 4, 5] v < 64 := by
  simp only [ixV]
  have h := fun b : Bool => Bool.toNat_le b
  have h0 := h (decide ((0 : Int) ∈ v)); have h1 := h (decide ((1 : Int) ∈ v)); have h2 := h (decide ((2 : Int) ∈ v))
  have h3 := h (decide ((3 : Int) ∈ v)); have h4 := h (decide ((4 : Int) ∈ v)); have h5 := h (decide ((5 : Int) ∈ v))
  omega
theorem bit_ix (v : List Int) {k : Int} (h0 : 0 ≤ k) (h1 : k < 6) : bitOn (ixV [0, 1, 2, 3, 4, 5] v) k.toNat = decide (k ∈ v) := by
  have := bit_at (decide ((0 : Int) ∈ v)) (decide ((1 : Int) ∈ v)) (decide ((2 : Int) ∈ v)) (decide ((3 : Int) ∈ v)) (decide ((4 : Int) ∈ v)) (decide ((5 : Int) ∈ v)) ⟨k.toNat, by omega⟩
  have e : k = 0 ∨ k = 1 ∨ k = 2 ∨ k = 3 ∨ k = 4 ∨ k = 5 := by omega
  rcases e with rfl | rfl | rfl | rfl | rfl | rfl <;> exact this
theorem hav_ix {v : List Int} (h : VwOk 6 v) : havL (ixV [0, 1, 2, 3, 4, 5] v) = v := by
  refine rise_eq ((upto_up 0 6).sublist List.filter_sublist) h.up fun k => ?_
  unfold havL
  rw [List.mem_filter, mem_upto]
  constructor
  · rintro ⟨⟨h0, h1⟩, z⟩
    rw [bit_ix v h0 (by omega)] at z
    simpa using z
  · intro z
    obtain ⟨h0, h1⟩ := h.rng k z
    refine ⟨⟨h0, by omega⟩, ?_⟩
    rw [bit_ix v h0 h1]
    simpa using z
/-- the numbers of a worth that is one at the views with m and another without -/
def facedN (m : Int) (s o : Wo) : List Int := (List.range 64).map fun b => (if m ∈ havL b then s else o).seen (havL b)
theorem faced_seen {m : Int} {s o : Wo} {v : List Int} (h : VwOk 6 v) : (builtE [0, 1, 2, 3, 4, 5] (facedN m s o)).seen v = (if m ∈ v then s else o).seen v := by
  refine builtE_seen _ _ v _ (by simp [facedN]) ?_
  unfold facedN
  rw [List.getElem?_map, List.getElem?_range (ixV_lt v)]
  show some ((if m ∈ havL (ixV [0, 1, 2, 3, 4, 5] v) then s else o).seen (havL (ixV [0, 1, 2, 3, 4, 5] v))) = _
  rw [hav_ix h]
/-! which views are let through, told in full -/
def sp_let_views (K : PySem.W.Frag) : DSpec := fun ds c E Q => ∃ (rd : D) (rs : List Ru) (bs : List Bx) (viewer : Int), ds = [rd, .lst (bs.map bxD), .int viewer] ∧ Rl c rd rs ∧ AskOk rs bs ∧ VrOk viewer ∧ Q (.lst ((letL (okV rs bs viewer) rs.length).map viewD)) c
theorem ok_let_views {K : PySem.W.Frag} {ds c E Q} (h : sp_let_views K ds c E Q) : b_let_views (sp_need_viewer K) sp_views_of sp_all_hold (endD E Q) (startE 4 ds) c := by
  obtain ⟨rd, rs, bs, viewer, rfl, hR, hk, hv, q⟩ := h
  have hl := hk.len
  unfold b_let_views
  walk_at "go"
  refine ⟨viewer, rfl, fun _ => ?_, fun z => absurd hv z⟩
  walk_at "go"
  refine len_res hR ?_
  walk_at "go"
  refine ⟨rs.length, by rw [List.length_map], hl, ?_⟩
  walk_at "go"
  intro A hA
  refine comp_mapL (fun v : List Int => if okV rs bs viewer v = true then some (viewD v) else none) hA (by have := vws_len rs.length; have h64 : 2 ^ rs.length ≤ 2 ^ 6 := Nat.pow_le_pow_right (by decide) hl; omega) ?_ ?_
  · intro v c2 K hv2 hc hK
    have hsub := vws_mem.mp hv2
    have hvl : v.length ≤ 6 := by
      have := hsub.length_le
      rw [upto_len] at this
      omega
    have hrng : ∀ x ∈ v, 0 ≤ x ∧ x < (rs.length : Int) := fun x hx => mem_upto.mp (hsub.subset hx)
    walk_at "go"
    refine ⟨rd, rs, bs, viewer, v, rfl, res_sub hc hR, hk, hv, by omega, hrng, ?_⟩
    walk_at "go"
    cases hb : okV rs bs viewer v with
    | true =>
      rw [hb, if_pos rfl] at hK
      walk_at "go"
      exact hK
    | false =>
      rw [hb, if_neg (by decide)] at hK
      walk_at "go"
      exact hK
  rw [fm_if]
  walk_at "go"
  refine ⟨_, SubC.rfl', ?_⟩
  have e : ((vws rs.length).filter fun v => decide (okV rs bs viewer v = true)) = letL (okV rs bs viewer) rs.length := by
    unfold letL
    exact List.filter_congr fun v _ => by cases okV rs bs viewer v <;> rfl
  rw [e]
  exact q
theorem letL_nil (rs : List Ru) (bs : List Bx) (viewer : Int) (n : Nat) : [] ∈ letL (okV rs bs viewer) n := List.mem_filter.mpr ⟨vws_mem.mpr (List.nil_sublist _), rfl⟩
theorem letL_pick (ok : List Int → Bool) (n : Nat) (h : letL ok n ≠ []) : ∃ own, pick (letL ok n) (upto 0 n) = [own] ∧ own ∈ letL ok n :=
  pick_one h ((vws_nodup n).sublist List.filter_sublist) fun v hv => by
    have hs := vws_mem.mp (List.mem_filter.mp hv).1
    exact ⟨(upto_up 0 n).sublist hs, fun x hx => hs.subset hx⟩
def sp_view_for (K : PySem.W.Frag) : DSpec := fun ds c E Q => ∃ (rd : D) (rs : List Ru) (bs : List Bx) (viewer : Int), ds = [rd, .lst (bs.map bxD), .int viewer] ∧ Rl c rd rs ∧ AskOk rs bs ∧ VrOk viewer ∧ ∀ own, pick (letL (okV rs bs viewer) rs.length) (upto 0 rs.length) = [own] → own ∈ letL (okV rs bs viewer) rs.length → Q (viewD own) c
theorem ok_view_for {K : PySem.W.Frag} {ds c E Q} (h : sp_view_for K ds c E Q) : b_view_for (sp_let_views K) (endD E Q) (startE 7 ds) c := by
  obtain ⟨rd, rs, bs, viewer, rfl, hR, hk, hv, q⟩ := h
  have hl := hk.len
  unfold b_view_for
  walk_at "go"
  refine ⟨rd, rs, bs, viewer, rfl, hR, hk, hv, ?_⟩
  walk_at "go"
  refine len_res hR ?_
  walk_at "go"
  rw [List.length_map]
  walk_at "go"
  have h64 : 2 ^ rs.length ≤ 2 ^ 6 := Nat.pow_le_pow_right (by decide) hl
  have hll : (letL (okV rs bs viewer) rs.length).length ≤ 64 := by
    have := vws_len rs.length
    have := List.length_filter_le (okV rs bs viewer) (vws rs.length)
    unfold letL
    omega
  have h6 : ∀ u ∈ letL (okV rs bs viewer) rs.length, u.length ≤ 6 := fun u hu => by
    have hs := vws_mem.mp (List.mem_filter.mp hu).1
    have := hs.length_le
    rw [upto_len] at this
    omega
  have hne : letL (okV rs bs viewer) rs.length ≠ [] := List.ne_nil_of_mem (letL_nil rs bs viewer rs.length)
  obtain ⟨own, e1, e2⟩ := letL_pick (okV rs bs viewer) rs.length hne
  have qq := q own e1 e2
  clear q
  generalize letL (okV rs bs viewer) rs.length = vs at *
  refine for_inv (fun i env c' => c' = c ∧ ∃ (a4 a5 a6 : Option D), env = [some rd, some (.lst (bs.map bxD)), some (.int viewer), some (.lst ((pick vs ((upto 0 rs.length).take i)).map viewD)), a4, a5, a6]) ⟨rfl, none, none, none, rfl⟩ ?_ ?_
  · rintro i d env c' e ⟨rfl, a4, a5, a6, rfl⟩
    obtain ⟨y, hy, rfl⟩ := mem_map_at e
    have hsl := pick_sl ((upto 0 rs.length).take i) vs
    have ep : pick vs ((upto 0 rs.length).take (i + 1)) = pick1 (pick vs ((upto 0 rs.length).take i)) y := by
      rw [List.take_add_one, show (upto 0 rs.length)[i]? = some y from hy]
      unfold pick
      rw [List.foldl_append]
      rfl
    rw [ep]
    have hul := hsl.length_le
    have hu6 : ∀ u ∈ pick vs ((upto 0 rs.length).take i), u.length ≤ 6 := fun u hu => h6 u (hsl.subset hu)
    generalize pick vs ((upto 0 rs.length).take i) = us at *
    walk_at "go"
    intro A hA
    refine comp_mapL (fun u : List Int => if y ∈ u then some (viewD u) else none) hA (by omega) ?_ ?_
    · intro u c2 K hu hc hK
      walk_at "go"
      refine in_l rfl rfl (ints_flat u) ?_
      walk_at "go"
      refine ite_fd (fun h => ?_) (fun h => ?_)
      · rw [if_pos (int_mem.mp h)] at hK
        walk_at "go"
        exact hK
      · rw [if_neg (fun z => h (int_mem.mpr z))] at hK
        exact hK
    rw [fm_if]
    walk_at "go"
    obtain ⟨o1, o2⟩ := viewsD_ok (us.filter fun u => decide (y ∈ u))
    refine eq_dd (d' := .lst ((us.filter fun u => decide (y ∈ u)).map viewD)) (e' := .lst []) rfl rfl ⟨by simpa [DL.okD] using o1, by simp only [DL.dep]; omega⟩ ⟨rfl, by decide⟩ ?_
    walk_at "go"
    refine ite_td (fun h => ?_) (fun h => ?_)
    · have e3 : pick1 us y = us.filter fun u => decide (y ∈ u) := by
        unfold pick1
        rw [if_neg (fun z => h (by rw [z]; rfl))]
      rw [e3]
      walk_at "go"
      exact ⟨rfl, _, _, _, rfl⟩
    · have z : (us.filter fun u => decide (y ∈ u)) = [] := by
        injection h with h
        exact List.map_eq_nil_iff.mp h
      have e3 : pick1 us y = us := by
        unfold pick1
        rw [if_pos z]
      rw [e3]
      walk_at "go"
      exact ⟨rfl, _, _, _, rfl⟩
  · rintro env c' ⟨rfl, a4, a5, a6, rfl⟩
    rw [List.length_map, upto_len, List.take_of_length_le (by rw [upto_len]; exact Nat.le_refl _), e1]
    walk_at "go"
    exact ⟨_, SubC.rfl', qq⟩
/-! rules by numbers seen -/
def seenF (v : List Int) (b : Bx) : Option Bx := if b.2.seen v ≠ 0 then some (b.1, Wo.num (b.2.seen v)) else none
theorem seenF_val {v : List Int} {bs : List Bx} (n : (bs.map (·.1)).Nodup) (x : Str) : valAt [] (bs.filterMap (seenF v)) x = valAt v bs x := by
  refine valAt_alike (seenF v) (fun b c h => ?_) (fun b h => ?_) n
  · unfold seenF at h
    split at h
    · cases h
      exact ⟨rfl, rfl⟩
    · cases h
  · unfold seenF at h
    split at h
    · cases h
    · rename_i z
      exact Classical.not_not.mp z
theorem seenF_ok {v : List Int} {n : Int} {bs : List Bx} (h : BxOk n bs) : BxOk n (bs.filterMap (seenF v)) := by
  have key : ∀ c ∈ bs.filterMap (seenF v), ∃ b ∈ bs, c = (b.1, Wo.num (b.2.seen v)) ∧ b.2.seen v ≠ 0 := fun c hc => by
    obtain ⟨b, hb, e⟩ := List.mem_filterMap.mp hc
    unfold seenF at e
    split at e
    · rename_i z
      cases e
      exact ⟨b, hb, rfl, z⟩
    · cases e
  refine ⟨Nat.le_trans (List.length_filterMap_le _ _) h.len, fun c hc => ?_, fun c hc => ?_⟩
  · obtain ⟨b, hb, rfl, _⟩ := key c hc
    exact h.nm b hb
  · obtain ⟨b, hb, rfl, z⟩ := key c hc
    refine ⟨Wo.seen_rng v (h.wo b hb).1, trivial, fun e => z ?_⟩
    exact Wo.num.inj e
theorem seenF_holds {v : List Int} {bs : List Bx} (n : (bs.map (·.1)).Nodup) (viewer : Int) (r : Ru) : r.holds (namedK bs viewer v) = r.holds (namedK (bs.filterMap (seenF v)) viewer []) :=
  holds_ext fun x => by rw [numAt_named, numAt_named, seenF_val n]
def sp_law_by_numbers : DSpec := fun ds c E Q => ∃ (a : Addr) (rs : List Ru) (bs : List Bx) (viewer : Int) (v : List Int), ds = [.ref a, .lst (bs.map bxD), .int viewer, .lst (v.map D.int)] ∧ c a = some (.lst (rs.map Ru.d)) ∧ AskOk rs bs ∧ VrOk viewer ∧ (bs.map (·.1)).Nodup ∧ Q (.bl true) c
theorem ok_law_by_numbers {ds c E Q} (h : sp_law_by_numbers ds c E Q) : b_law_by_numbers sp_seen_by sp_rule_holds (endD E Q) (startE 9 ds) c := by
  obtain ⟨a, rs, bs, viewer, v, rfl, ha, hk, hv, hn, q⟩ := h
  have hbl := hk.bx.len
  unfold b_law_by_numbers
  walk_at "go"
  intro A hA
  refine comp_mapL (fun b : Bx => some (.tup [.str b.1, .int (b.2.seen v)])) hA (by omega) ?_ ?_
  · intro b c2 K hb hc hK
    simp only [bxD]
    walk_at "go"
    refine ⟨b.2, v, rfl, ?_⟩
    walk_at "go"
    exact hK
  rw [fm_some]
  walk_at "go"
  intro A2 hA2
  refine comp_mapL (fun b : Bx => (seenF v b).map bxD) hA2 (by omega) ?_ ?_
  · intro b c2 K hb hc hK
    walk_at "go"
    refine ite_td (fun h => ?_) (fun h => ?_)
    · unfold seenF at hK
      rw [if_pos h] at hK
      walk_at "go"
      exact hK
    · unfold seenF at hK
      rw [if_neg (fun z => z h)] at hK
      exact hK
  have e : bs.filterMap (fun b : Bx => (seenF v b).map bxD) = (bs.filterMap (seenF v)).map bxD := by rw [List.map_filterMap]
  rw [e]
  have hb2 : BxOk 6 (bs.filterMap (seenF v)) := seenF_ok hk.bx
  have hh := seenF_holds hn viewer (v := v)
  generalize bs.filterMap (seenF v) = sb at hb2 hh ⊢
  walk_at "go"
  refine for_invG (fun i env c' => c' = c ∧ ∃ v5 v6 v7 v8, env = [some (.ref a), some (.lst (bs.map bxD)), some (.int viewer), some (.lst (v.map D.int)), some (.lst (sb.map bxD)), v5, v6, v7, v8]) ⟨rfl, _, _, _, _, rfl⟩ ?_ ?_ ?_
  · rintro i d env c' e ⟨rfl, v5, v6, v7, v8, rfl⟩
    obtain ⟨r, hr, rfl⟩ := mem_map_at e
    have hro := hk.ru r (List.mem_of_getElem? hr)
    walk_at "go"
    refine ⟨r, bs, viewer, v, 6, rfl, hro, hk.bx, hv.1, by have := hv.2; omega, ?_⟩
    walk_at "go"
    refine ⟨r, sb, viewer, [], 6, rfl, hro, hb2, hv.1, by have := hv.2; omega, ?_⟩
    walk_at "go"
    rw [show (true ^^ decide (r.holds (namedK bs viewer v) = r.holds (namedK sb viewer []))) = false from by rw [hh r]; simp]
    walk_at "go"
    exact ⟨rfl, _, _, _, _, rfl⟩
  · rintro i env c' ⟨rfl, _⟩
    exact ha
  · rintro env c' ⟨rfl, v5, v6, v7, v8, rfl⟩
    walk_at "go"
    exact ⟨_, SubC.rfl', q⟩
/-! worths that are one at the views with a mark and another without -/
theorem shr_ii {c : CMap} {Q : DK} {i j : Int} (h : 0 ≤ j) (q : Q (.int (i / 2 ^ j.toNat)) c) : shrR c (.int i) (.int j) Q := ⟨h, q⟩
theorem band_ii {c : CMap} {Q : DK} {i j : Int} (q : Q (.int (Builtin.bitAnd i j)) c) : bandR c (.int i) (.int j) Q := q
theorem facedN_r {m : Int} {s o : Wo} (hs : s.ok 0) (ho : o.ok 0) : InR (facedN m s o) := by
  intro x hx
  unfold facedN at hx
  obtain ⟨b, _, rfl⟩ := List.mem_map.mp hx
  split
  · exact Wo.seen_rng _ hs
  · exact Wo.seen_rng _ ho
/-- one worth at the views with m, another at those without -/
structure FcOk (m : Int) (s o w : Wo) : Prop where
  ok : w.ok 0
  un : w.under 6
  se : ∀ v, VwOk 6 v → w.seen v = (if m ∈ v then s else o).seen v
theorem fc_gen {m : Int} {s o : Wo} {ms ns : List Int} (e1 : ms = [0, 1, 2, 3, 4, 5]) (e2 : ns = facedN m s o) (hs : s.ok 0) (ho : o.ok 0) : FcOk m s o (builtE ms ns) :=
  ⟨builtE_ok ms ns 0 (by rw [e1]; decide) (by rw [e1]; decide) (by rw [e1, e2]; simp [facedN]) (by rw [e2]; exact facedN_r hs ho), builtE_below ms ns (by rw [e1]; decide), fun v hv => by rw [e1, e2]; exact faced_seen hv⟩
def sp_law_faced : DSpec := fun ds c E Q => ∃ (m : Int) (s o : Wo), ds = [.int m, s.d, o.d] ∧ s.ok 0 ∧ o.ok 0 ∧ ∀ w : Wo, FcOk m s o w → Q w.d c
theorem ok_law_faced {ds c E Q} (h : sp_law_faced ds c E Q) : b_law_faced sp_law_seen (sp_law_least 8) (endD E Q) (startE 7 ds) c := by
  obtain ⟨m, s, o, rfl, hs, ho, q⟩ := h
  obtain ⟨N, hN⟩ : ∃ N, N = facedN m s o := ⟨_, rfl⟩
  have f3 : N.length = 64 := by rw [hN]; simp [facedN]
  obtain ⟨ms, e1⟩ : ∃ ms : List Int, ms = [0, 1, 2, 3, 4, 5] := ⟨_, rfl⟩
  unfold b_law_faced
  walk_at "go"
  refine newL_t fun A hA => ?_
  walk_at "go"
  refine for_inv (fun i env c' => ∃ v4 v5 v6, env = [some (.int m), some s.d, some o.d, some (.ref A), v4, v5, v6] ∧ i ≤ 64 ∧ c' = updc c A (.lst ((N.take i).map D.int))) ⟨none, none, none, rfl, by decide, rfl⟩ ?_ ?_
  · rintro i d env c' e ⟨v4, v5, v6, rfl, hi, rfl⟩
    obtain ⟨y, hy, rfl⟩ := mem_map_at e
    obtain ⟨hy1, rfl⟩ := upto_at hy
    have hi64 : i < 64 := hy1
    walk_at "go"
    intro A2 hA2
    refine comp_mapL (fun x : Int => if bitOn i x.toNat = true then some (.int x) else none) hA2 (by rw [upto_len]; decide) ?_ ?_
    · intro x c2 K hx hc hK
      have hx2 := mem_upto.mp hx
      walk_at "go"
      refine shr_ii hx2.1 ?_
      walk_at "go"
      refine band_ii ?_
      walk_at "go"
      refine ite_fd (fun h => ?_) (fun h => ?_)
      · rw [if_pos (show bitOn i x.toNat = true from decide_eq_true (by rw [Int.zero_add] at h; exact h))] at hK
        walk_at "go"
        exact hK
      · rw [if_neg (show ¬ bitOn i x.toNat = true from fun z => h (by rw [Int.zero_add]; exact of_decide_eq_true z))] at hK
        exact hK
    rw [fm_if]
    have eh : ((upto 0 (6 : Int).toNat).filter fun x => decide (bitOn i x.toNat = true)) = havL i := by
      unfold havL
      exact List.filter_congr fun x _ => by cases bitOn i x.toNat <;> rfl
    rw [eh]
    walk_at "go"
    refine ⟨ty_c updc_same, ?_⟩
    walk_at "go"
    refine in_l rfl rfl (ints_flat _) ?_
    walk_at "go"
    have eN : N.take (i + 1) = N.take i ++ [(if m ∈ havL i then s else o).seen (havL i)] := by
      rw [hN]
      rw [List.take_add_one]
      unfold facedN
      rw [List.getElem?_map, List.getElem?_range hi64]
      rfl
    have last : ∀ x : Int, x = (if m ∈ havL i then s else o).seen (havL i) → appR (updc c A (.lst ((N.take i).map D.int))) (.ref A) [.int x] fun d c1 => ∃ w4 w5 w6, ([some (.int m), some s.d, some o.d, some (.ref A), some (.int (0 + (i : Int))), some (.lst ((havL i).map D.int)), v6] : DEnv) = [some (.int m), some s.d, some o.d, some (.ref A), w4, w5, w6] ∧ i + 1 ≤ 64 ∧ c1 = updc c A (.lst ((N.take (i + 1)).map D.int)) := by
      rintro x rfl
      refine app_c updc_same (len_lt (by rw [List.length_map, List.length_take]; omega)) ?_
      rw [updc_updc, eN, List.map_append]
      exact ⟨_, _, _, rfl, by omega, rfl⟩
    by_cases hm : m ∈ havL i
    · rw [show (false ^^ decide (D.int m ∈ (havL i).map D.int)) = true from by simp [hm]]
      walk_at "go"
      refine ⟨s, havL i, rfl, ?_⟩
      walk_at "go"
      exact last _ (by rw [if_pos hm])
    · rw [show (false ^^ decide (D.int m ∈ (havL i).map D.int)) = false from by simp [hm]]
      walk_at "go"
      refine ⟨o, havL i, rfl, ?_⟩
      walk_at "go"
      exact last _ (by rw [if_neg hm])
  · rintro env c' ⟨v4, v5, v6, rfl, _, rfl⟩
    rw [List.length_map, upto_len, List.take_of_length_le (by rw [f3]; decide)]
    walk_at "go"
    rw [delc_updc hA]
    refine ⟨ms, N, by rw [e1]; rfl, by rw [e1]; decide, by rw [e1]; decide, by rw [f3, e1]; rfl, ?_⟩
    walk_at "go"
    exact ⟨_, SubC.rfl', q _ (fc_gen e1 hN hs ho)⟩
/-! boxes that others see otherwise -/
def shP (v : List Int) (b : Bx) : Str × Int := (b.1, b.2.seen v)
theorem valAt_shP {v : List Int} {x : Str} : ∀ {ws bs : List Bx} (a : Int), ws.map (shP v) = bs.map (shP v) → ws.foldl (fun a b => if x = b.1 then b.2.seen v else a) a = bs.foldl (fun a b => if x = b.1 then b.2.seen v else a) a
  | [], [], _, _ => rfl
  | [], _ :: _, _, h => by simp at h
  | _ :: _, [], _, h => by simp at h
  | w :: ws, b :: bs, a, h => by
    rw [List.map_cons, List.map_cons, List.cons.injEq] at h
    obtain ⟨h1, h2⟩ := h
    unfold shP at h1
    injection h1 with h3 h4
    rw [List.foldl_cons, List.foldl_cons, h3, h4]
    exact valAt_shP _ h2
def thereF (b : Bx) : Option Bx := if b.2 = .num 0 then none else some b
theorem there_val {v : List Int} {ws bs : List Bx} (h : ws.map (shP v) = bs.map (shP v)) (n : (bs.map (·.1)).Nodup) (x : Str) : valAt v (ws.filterMap thereF) x = valAt v bs x := by
  have hn : ws.map (·.1) = bs.map (·.1) := by
    have := congrArg (List.map Prod.fst) h
    rw [List.map_map, List.map_map] at this
    exact this
  rw [valAt_alike (v := v) (w := v) thereF (fun b c e => ?_) (fun b e => ?_) (by rw [hn]; exact n)]
  · exact valAt_shP 0 h
  · unfold thereF at e
    split at e
    · cases e
    · cases e; exact ⟨rfl, rfl⟩
  · unfold thereF at e
    split at e
    · rename_i z; rw [z]; rfl
    · cases e
/-- boxes that show a viewer's view the same -/
structure Alike (v : List Int) (bs cs : List Bx) : Prop where
  ok : BxOk 6 cs
  val : ∀ x, valAt v cs x = valAt v bs x
theorem alike_okV {rs : List Ru} {bs cs : List Bx} {viewer : Int} {v : List Int} (h : Alike v bs cs) : okV rs cs viewer v = okV rs bs viewer v := by
  unfold okV
  congr 1
  funext x
  congr 2
  funext r
  exact holds_ext fun y => by rw [numAt_named, numAt_named, h.val]
def sp_law_others_changed : DSpec := fun ds c E Q => ∃ (p : Addr) (k : Cell) (f : Nat) (bs : List Bx) (v : List Int), ds = [.ref p, .lst (bs.map bxD), .lst (v.map D.int)] ∧ c p = some k ∧ BgOk (f + 4000) k ∧ BxOk 6 bs ∧ VwOk 6 v ∧ (bs.map (·.1)).Nodup ∧ ∀ cs k', Alike v bs cs → BgOk f k' → Q (.lst (cs.map bxD)) (updc c p k')
theorem ok_law_others_changed {ds c E Q} (h : sp_law_others_changed ds c E Q) : b_law_others_changed sp_law_worth sp_law_faced (endD E Q) (startE 10 ds) c := by
  obtain ⟨p, k, f, bs, v, rfl, hp, hk, hb, hv, hn, q⟩ := h
  have hbl := hb.len
  unfold b_law_others_changed
  walk_at "go"
  refine newL_t fun A hA => ?_
  have pA : p ≠ A := ne_some_none hp hA
  walk_at "go"
  refine for_inv (fun i env c' => ∃ (k' : Cell) (ws : List Bx) (v4 v5 v6 v7 v8 v9 : Option D), env = [some (.ref p), some (.lst (bs.map bxD)), some (.lst (v.map D.int)), some (.ref A), v4, v5, v6, v7, v8, v9] ∧ c' = updc (updc c p k') A (.lst (ws.map bxD)) ∧ BgOk (f + 100 * (40 - i)) k' ∧ ws.map (shP v) = (bs.take i).map (shP v) ∧ ∀ w ∈ ws, w.2.ok 0 ∧ w.2.under 6) ⟨k, [], none, none, none, none, none, none, rfl, by rw [updc_self hp]; rfl, hk.mono (by omega), by simp, by simp⟩ ?_ ?_
  · rintro i d env c' e ⟨k', ws, v4, v5, v6, v7, v8, v9, rfl, rfl, hk', hw1, hw2⟩
    obtain ⟨b, hbi, rfl⟩ := mem_map_at e
    have hil : i < bs.length := (List.getElem?_eq_some_iff.mp hbi).1
    obtain ⟨b1, b2, _⟩ := hb.wo b (List.mem_of_getElem? hbi)
    have hwl : ws.length = i := by
      have := congrArg List.length hw1
      rw [List.length_map, List.length_map, List.length_take] at this
      omega
    simp only [bxD]
    walk_at "go"
    refine ⟨p, k', 6, f + 100 * (40 - (i + 1)), rfl, by walk_at "cl", hk'.mono (by omega), by decide, by decide, fun o k2 o1 o2 hk2 => ?_⟩
    rw [updc_comm (Ne.symm pA), updc_updc]
    walk_at "go"
    refine wRg3_i ?_
    walk_at "go"
    refine rg3_i (by decide) (by decide) (by decide) (by decide) ?_
    refine for_inv (fun j env c' => ∃ (u : Wo) (v8 : Option D), env = [some (.ref p), some (.lst (bs.map bxD)), some (.lst (v.map D.int)), some (.ref A), some (.str b.1), some b.2.d, some o.d, some u.d, v8, v9] ∧ c' = updc (updc c p k2) A (.lst (ws.map bxD)) ∧ u.ok 0 ∧ u.under 6 ∧ u.seen v = b.2.seen v) ⟨b.2, _, rfl, rfl, b1, b2, rfl⟩ ?_ ?_
    · rintro j d env c' e2 ⟨u, v8, rfl, rfl, u1, u2, u3⟩
      obtain ⟨y, hy, rfl⟩ := mem_map_at e2
      walk_at "go"
      refine in_l rfl rfl (ints_flat v) ?_
      walk_at "go"
      refine ite_fd (fun h => ?_) (fun h => ?_)
      · walk_at "go"
        refine ⟨y, u, o, rfl, u1, o1, fun w ⟨w1, w2, w3⟩ => ?_⟩
        walk_at "go"
        exact ⟨w, _, rfl, rfl, w1, w2, by rw [w3 v hv, if_pos (int_mem.mp h)]; exact u3⟩
      · walk_at "go"
        refine ⟨y, o, u, rfl, o1, u1, fun w ⟨w1, w2, w3⟩ => ?_⟩
        walk_at "go"
        exact ⟨w, _, rfl, rfl, w1, w2, by rw [w3 v hv, if_neg (fun z => h (int_mem.mpr z))]; exact u3⟩
    · rintro env c' ⟨u, v8, rfl, rfl, u1, u2, u3⟩
      walk_at "go"
      refine ⟨ty_c updc_same, ?_⟩
      walk_at "go"
      refine app_c updc_same (len_lt (by rw [List.length_map]; omega)) ?_
      rw [updc_updc, show ws.map bxD ++ [D.tup [.str b.1, u.d]] = (ws ++ [(b.1, u)]).map bxD from by simp [bxD]]
      refine ⟨k2, ws ++ [(b.1, u)], _, _, _, _, _, _, rfl, rfl, hk2, ?_, fun w hw => ?_⟩
      · rw [List.take_add_one, hbi, List.map_append, List.map_append, hw1]
        show _ ++ [(b.1, u.seen v)] = _ ++ [(b.1, b.2.seen v)]
        rw [u3]
      · rcases List.mem_append.mp hw with h | h
        · exact hw2 w h
        · simp only [List.mem_singleton] at h; subst h; exact ⟨u1, u2⟩
  · rintro env c' ⟨k', ws, v4, v5, v6, v7, v8, v9, rfl, rfl, hk', hw1, hw2⟩
    rw [List.length_map, List.take_length] at hw1
    have hwl : ws.length = bs.length := by
      have := congrArg List.length hw1
      rw [List.length_map, List.length_map] at this
      exact this
    walk_at "go"
    intro A2 hA2
    have aA : A ≠ A2 := ne_some_none updc_same hA2
    refine comp_mapG (fun b : Bx => (thereF b).map bxD) hA2 (by omega) (fun k => by rw [updc_ne aA]; exact updc_same) ?_ ?_
    · intro b c2 K hbw hc hK
      have hd := Wo.ok_deep (hw2 b hbw).1 (by decide)
      simp only [bxD]
      walk_at "go"
      refine eq_dd (d' := b.2.d) (e' := .int 0) Wo.res rfl (Wo.eqOk (by omega)) ⟨rfl, by decide⟩ ?_
      walk_at "go"
      refine ite_td (fun h => ?_) (fun h => ?_)
      · unfold thereF at hK
        rw [if_neg (fun z => h (by rw [z]; rfl))] at hK
        walk_at "go"
        exact hK
      · unfold thereF at hK
        rw [if_pos (Wo.d_inj (b := .num 0) h)] at hK
        exact hK
    rw [if_neg (by decide)]
    walk_at "go"
    have e : ws.filterMap (fun b : Bx => (thereF b).map bxD) = (ws.filterMap thereF).map bxD := by rw [List.map_filterMap]
    rw [e]
    have key : ∀ w ∈ ws.filterMap thereF, w ∈ ws ∧ w.2 ≠ .num 0 := fun w hw => by
      obtain ⟨b, hb, z⟩ := List.mem_filterMap.mp hw
      unfold thereF at z
      split at z
      · cases z
      · rename_i n; cases z; exact ⟨hb, n⟩
    have nm : ∀ w ∈ ws, SOk 40 w.1 := fun w hw => by
      have : shP v w ∈ bs.map (shP v) := by rw [← hw1]; exact List.mem_map_of_mem hw
      obtain ⟨b, hb2, z⟩ := List.mem_map.mp this
      have z0 : (shP v b).1 = (shP v w).1 := by rw [z]
      have z1 : b.1 = w.1 := z0
      rw [← z1]
      exact hb.nm b hb2
    refine ⟨_, SubC.newr SubC.rfl' (by rw [updc_ne (Ne.symm pA)]; exact hA), q _ k' ⟨⟨Nat.le_trans (List.length_filterMap_le _ _) (by omega), fun w hw => nm w (key w hw).1, fun w hw => ⟨(hw2 w (key w hw).1).1, (hw2 w (key w hw).1).2, (key w hw).2⟩⟩, there_val hw1 hn⟩ (hk'.mono (by omega))⟩
/-! a rule more -/
theorem under_seen {n : Int} : ∀ {w : Wo} {v : List Int}, w.under n → w.seen (v ++ [n]) = w.seen v
  | .num _, _, _ => rfl
  | .face m s u, v, h => by
    obtain ⟨h1, h2, h3⟩ := h
    simp only [Wo.seen]
    rw [under_seen h2, under_seen h3]
    have e : (m ∈ v ++ [n]) ↔ m ∈ v := by
      rw [List.mem_append, List.mem_singleton]
      exact ⟨fun z => z.elim id (fun z => absurd z (by omega)), .inl⟩
    by_cases hm : m ∈ v
    · rw [if_pos hm, if_pos (e.mpr hm)]
    · rw [if_neg hm, if_neg (fun z => hm (e.mp z))]
theorem valAt_more {n : Int} {v : List Int} {x : Str} : ∀ {bs : List Bx} (a : Int), (∀ b ∈ bs, b.2.under n) → bs.foldl (fun a b => if x = b.1 then b.2.seen (v ++ [n]) else a) a = bs.foldl (fun a b => if x = b.1 then b.2.seen v else a) a
  | [], _, _ => rfl
  | b :: r, a, h => by
    rw [List.foldl_cons, List.foldl_cons, under_seen (h b List.mem_cons_self)]
    exact valAt_more _ fun c hc => h c (List.mem_cons_of_mem _ hc)
theorem holds_more {n : Int} {v : List Int} {bs : List Bx} (h : ∀ b ∈ bs, b.2.under n) (viewer : Int) (r : Ru) : r.holds (namedK bs viewer (v ++ [n])) = r.holds (namedK bs viewer v) :=
  holds_ext fun x => by rw [numAt_named, numAt_named]; unfold valAt; rw [valAt_more 0 h]
theorem all_cg {α : Type} {p q : α → Bool} : ∀ {l : List α}, (∀ x ∈ l, p x = q x) → l.all p = l.all q
  | [], _ => rfl
  | a :: r, h => by
    rw [List.all_cons, List.all_cons, h a List.mem_cons_self, all_cg fun x hx => h x (List.mem_cons_of_mem _ hx)]
theorem okV_more1 {rs : List Ru} {r : Ru} {bs : List Bx} {viewer : Int} {v : List Int} (h : List.Sublist v (upto 0 rs.length)) : okV (rs ++ [r]) bs viewer v = okV rs bs viewer v := by
  unfold okV
  refine all_cg fun x hx => ?_
  have := mem_upto.mp (h.subset hx)
  rw [List.getElem?_append_left (by omega)]
theorem okV_more2 {rs : List Ru} {r : Ru} {bs : List Bx} {viewer : Int} {v : List Int} (hb : ∀ b ∈ bs, b.2.under (rs.length : Int)) (h : List.Sublist v (upto 0 rs.length)) : okV (rs ++ [r]) bs viewer (v ++ [(rs.length : Int)]) = (okV rs bs viewer v && r.holds (namedK bs viewer v)) := by
  unfold okV
  rw [List.all_append]
  congr 1
  · refine all_cg fun x hx => ?_
    have := mem_upto.mp (h.subset hx)
    rw [List.getElem?_append_left (by omega)]
    congr 2
    funext q
    exact holds_more hb viewer q
  · rw [List.all_cons, List.all_nil, Bool.and_true, show ((rs.length : Int)).toNat = rs.length from by omega, List.getElem?_concat_length]
    exact holds_more hb viewer r
/-- who = the viewer, who < the viewer -/
def ruW (s : Str) (viewer : Int) : Ru := ⟨s, .one (.nam "who"), .one (.num viewer)⟩
theorem ruW_who (bs : List Bx) (viewer : Int) (v : List Int) : (Pl.nam "who").val (namedK bs viewer v) = viewer := by
  show numAt (namedK bs viewer v) "who" = viewer
  rw [numAt_named]
  exact if_pos rfl
theorem ruW_eq (bs : List Bx) (viewer : Int) (v : List Int) : (ruW "=" viewer).holds (namedK bs viewer v) = true := by
  unfold Ru.holds ruW
  rw [if_pos rfl]
  exact decide_eq_true (ruW_who bs viewer v)
theorem ruW_lt (bs : List Bx) (viewer : Int) (v : List Int) : (ruW "<" viewer).holds (namedK bs viewer v) = false := by
  unfold Ru.holds ruW
  rw [if_neg (show ¬ (("<" : Str) = "=") from by decide +kernel)]
  refine decide_eq_false ?_
  show ¬ (Pl.nam "who").val (namedK bs viewer v) < viewer
  rw [ruW_who]
  omega
theorem ruW_ok {s : Str} {viewer : Int} (hs : s = "=" ∨ s = "<") (h : VrOk viewer) : (ruW s viewer).ok :=
  ⟨hs, ⟨by decide +kernel, by decide +kernel⟩, ⟨h.1, by have := h.2; show viewer < 1000; omega⟩⟩
theorem ask_more {rs : List Ru} {bs : List Bx} {r : Ru} (h : AskOk rs bs) (h5 : rs.length ≤ 5) (hr : r.ok) : AskOk (rs ++ [r]) bs := by
  refine ⟨by rw [List.length_append, List.length_singleton]; omega, fun x hx => ?_, h.bx⟩
  rcases List.mem_append.mp hx with z | z
  · exact h.ru x z
  · simp only [List.mem_singleton] at z; subst z; exact hr
theorem view_eqOk (v : List Int) : DL.eqOk (viewD v) := ints_eqOk v
theorem views_eqOk (vs : List (List Int)) : DL.eqOk (.lst (vs.map viewD)) := by
  obtain ⟨o1, o2⟩ := viewsD_ok vs
  exact ⟨by simpa [DL.okD] using o1, by simp only [DL.dep]; omega⟩
def sp_law_more : DSpec := fun ds c E Q => ∃ (rd : D) (rs : List Ru) (bs : List Bx) (viewer : Int), ds = [rd, .lst (bs.map bxD), .int viewer] ∧ Rl c rd rs ∧ rs.length ≤ 5 ∧ AskOk rs bs ∧ (∀ b ∈ bs, b.2.under (rs.length : Int)) ∧ VrOk viewer ∧ Q (.bl true) c
theorem ok_law_more {K : PySem.W.Frag} {ds c E Q} (h : sp_law_more ds c E Q) : b_law_more (sp_let_views K) (sp_view_for K) (endD E Q) (startE 10 ds) c := by
  obtain ⟨rd, rs, bs, viewer, rfl, hR, h5, hk, hu, hv, q⟩ := h
  have hR2 : res c rd = .lst (rs.map Ru.d) := hR
  have hk1 := ask_more hk h5 (ruW_ok (.inl rfl) hv)
  have hk2 := ask_more hk h5 (ruW_ok (.inr rfl) hv)
  have hn1 : rs.length + 1 = (rs ++ [ruW "=" viewer]).length := by simp
  have hn2 : rs.length + 1 = (rs ++ [ruW "<" viewer]).length := by simp
  have more : letL (okV (rs ++ [ruW "=" viewer]) bs viewer) (rs.length + 1) = vsort (letL (okV rs bs viewer) rs.length ++ (letL (okV rs bs viewer) rs.length).map (· ++ [(rs.length : Int)])) :=
    let_more (fun v hv => okV_more1 hv) fun v hv => by rw [okV_more2 hu hv, ruW_eq, Bool.and_true]
  have less : letL (okV (rs ++ [ruW "<" viewer]) bs viewer) (rs.length + 1) = letL (okV rs bs viewer) rs.length :=
    let_less (fun v hv => okV_more1 hv) fun v hv => by rw [okV_more2 hu hv, ruW_lt, Bool.and_false]
  have h64 : 2 ^ rs.length ≤ 2 ^ 6 := Nat.pow_le_pow_right (by decide) hk.len
  have hll : (letL (okV rs bs viewer) rs.length).length ≤ 64 := by
    have := vws_len rs.length
    have := List.length_filter_le (okV rs bs viewer) (vws rs.length)
    unfold letL
    omega
  have hsub : ∀ v ∈ letL (okV rs bs viewer) rs.length, List.Sublist v (upto 0 rs.length) := fun v hv => vws_mem.mp (List.mem_filter.mp hv).1
  have hno : ∀ v ∈ letL (okV rs bs viewer) rs.length, (rs.length : Int) ∉ v := fun v hv z => by
    have := mem_upto.mp ((hsub v hv).subset z)
    omega
  have hlen : ∀ v ∈ letL (okV rs bs viewer) rs.length, v.length ≤ 6 := fun v hv => by
    have := (hsub v hv).length_le
    rw [upto_len] at this
    have := hk.len
    omega
  have hup : ∀ k ∈ upto 0 rs.length, k ≠ (rs.length : Int) := fun k hk => by
    have := mem_upto.mp hk
    omega
  unfold b_law_more
  walk_at "go"
  refine ⟨rd, rs, bs, viewer, rfl, hR, hk, hv, ?_⟩
  walk_at "go"
  refine ⟨rd, rs, bs, viewer, rfl, hR, hk, hv, fun own e1 e2 => ?_⟩
  have ownl := hlen own e2
  have pmore : pick (letL (okV (rs ++ [ruW "=" viewer]) bs viewer) (rs.length + 1)) (upto 0 (rs.length + 1)) = [own ++ [(rs.length : Int)]] := by
    rw [upto_snoc, more]
    exact pick_more (vsort_p _) hup hno e1 e2
  have pless : pick (letL (okV (rs ++ [ruW "<" viewer]) bs viewer) (rs.length + 1)) (upto 0 (rs.length + 1)) = [own] := by
    rw [upto_snoc, less]
    unfold pick at e1 ⊢
    rw [List.foldl_append, e1]
    show pick1 [own] (rs.length : Int) = [own]
    unfold pick1
    simp [hno own e2]
  generalize letL (okV rs bs viewer) rs.length = vs at more less hll hsub hno hlen e1 e2 ⊢
  walk_at "go"
  refine add_res hR2 rfl (by rw [List.length_map]; show _ + 1 ≤ _; omega) (newL_f ?_)
  rw [show rs.map Ru.d ++ [D.tup [.str "=", .tup [.str "name", .str "who"], .tup [.str "number", .int viewer]]] = (rs ++ [ruW "=" viewer]).map Ru.d from by rw [List.map_append]; rfl]
  walk_at "go"
  refine len_res hR2 ?_
  rw [List.length_map]
  walk_at "go"
  refine ⟨_, rs ++ [ruW "=" viewer], bs, viewer, rfl, rfl, hk1, hv, ?_⟩
  rw [← hn1]
  walk_at "go"
  intro A hA
  refine comp_mapL (fun v : List Int => some (viewD (v ++ [(rs.length : Int)]))) hA (by omega) ?_ ?_
  · intro v c2 K hv2 hc hK
    have hvl := hlen v hv2
    walk_at "go"
    unfold viewD at hK ⊢
    refine add_ll (len_le (by rw [List.length_map]; simp; omega)) (newL_f ?_)
    rw [one_int, app_ints]
    walk_at "go"
    exact hK
  rw [fm_some]
  walk_at "go"
  refine add_ll (len_le (by rw [List.length_map, List.length_map]; omega)) (newL_f ?_)
  rw [show vs.map viewD ++ vs.map (fun v => viewD (v ++ [(rs.length : Int)])) = (vs ++ vs.map (· ++ [(rs.length : Int)])).map viewD from by rw [List.map_append, List.map_map]; rfl]
  obtain ⟨o1, o2⟩ := viewsD_ok (vs ++ vs.map (· ++ [(rs.length : Int)]))
  walk_at "go"
  refine sortD_i rfl o1 (by omega) (views_alike _) (views_sortable _) (newL_f ?_)
  rw [vsort_D, more]
  refine eq_dd (d' := .lst ((vsort (vs ++ vs.map (· ++ [(rs.length : Int)]))).map viewD)) (e' := .lst ((vsort (vs ++ vs.map (· ++ [(rs.length : Int)]))).map viewD)) rfl rfl (views_eqOk _) (views_eqOk _) ?_
  walk_at "go"
  refine ite_td (fun h => absurd rfl h) (fun _ => ?_)
  walk_at "go"
  refine ⟨_, rs ++ [ruW "=" viewer], bs, viewer, rfl, rfl, hk1, hv, fun own2 e3 _ => ?_⟩
  rw [← hn1, pmore] at e3
  injection e3 with e3 _
  subst e3
  walk_at "go"
  unfold viewD
  refine add_ll (len_le (by rw [List.length_map]; simp; omega)) (newL_f ?_)
  rw [one_int, app_ints]
  refine eq_dd (d' := .lst ((own ++ [(rs.length : Int)]).map D.int)) (e' := .lst ((own ++ [(rs.length : Int)]).map D.int)) rfl rfl (ints_eqOk _) (ints_eqOk _) ?_
  walk_at "go"
  refine ite_td (fun h => absurd rfl h) (fun _ => ?_)
  walk_at "go"
  refine add_res hR2 rfl (by rw [List.length_map]; show _ + 1 ≤ _; omega) (newL_f ?_)
  rw [show rs.map Ru.d ++ [D.tup [.str "<", .tup [.str "name", .str "who"], .tup [.str "number", .int viewer]]] = (rs ++ [ruW "<" viewer]).map Ru.d from by rw [List.map_append]; rfl]
  walk_at "go"
  refine ⟨_, rs ++ [ruW "<" viewer], bs, viewer, rfl, rfl, hk2, hv, ?_⟩
  rw [← hn2, less]
  walk_at "go"
  refine eq_dd (d' := .lst (vs.map viewD)) (e' := .lst (vs.map viewD)) rfl rfl (views_eqOk _) (views_eqOk _) ?_
  rw [show (false ^^ decide (D.lst (vs.map viewD) = D.lst (vs.map viewD))) = true from by simp]
  walk_at "go"
  refine ⟨_, rs ++ [ruW "<" viewer], bs, viewer, rfl, rfl, hk2, hv, fun own2 e3 _ => ?_⟩
  rw [← hn2, pless] at e3
  injection e3 with e3 _
  subst e3
  walk_at "go"
  refine eq_dd (d' := viewD own) (e' := viewD own) rfl rfl (view_eqOk _) (view_eqOk _) ?_
  rw [show (false ^^ decide (viewD own = viewD own)) = true from by simp]
  exact ⟨_, SubC.rfl', q⟩
/-! the law -/
theorem comp_fuelT {G : CMap → Prop} [FreeG G] {step : D → CMap → (Option D → CMap → Prop) → Prop} {c : CMap} {A p : Addr} {ds : List D} {Q : DK} {k : Cell} (ok : Nat → Cell → Prop) (T : D → Prop) (hA : c A = none) (hl : ds.length < 16777216) (hp : c p = some k) (hk : ok 0 k)
    (hs : ∀ (i : Nat) (d : D) (c' : CMap) (K : Option D → CMap → Prop) (k1 : Cell), ds[i]? = some d → c' p = some k1 → ok i k1 → (∀ b x, c b = some x → b ≠ p → c' b = some x) → (∀ (y : D) k', T y → ok (i + 1) k' → K (some y) (updc c' p k')) → step d c' K)
    (q : ∀ (out : List D) k', out.length = ds.length → (∀ y ∈ out, T y) → ok ds.length k' → Q (.ref A) (updc (updc c p k') A (.lst out))) : CompP true step A ds G c Q := by
  refine comp_inv hA (fun i acc c' => ∃ (k' : Cell), c' = updc c p k' ∧ ok i k' ∧ acc.length = i ∧ ∀ x ∈ acc, T x) hl ⟨k, (updc_self hp).symm, hk, rfl, fun _ h => by cases h⟩ ?_ ?_
  · rintro i d acc c' K e ⟨k', rfl, hk', hi, hb⟩ hA' k1 k2
    have hpA : p ≠ A := ne_some_none (c := updc c p k') updc_same hA'
    refine hs i d _ K k' e (by rw [updc_ne hpA, updc_same]) hk' (fun b x h hb => by rw [updc_ne (ne_some_none h hA), updc_ne hb]; exact h) (fun y k3 hy hk3 => ?_)
    rw [updc_comm (Ne.symm hpA), updc_updc]
    refine k1 y _ (by rw [updc_ne (Ne.symm hpA)]; exact hA) ⟨k3, rfl, hk3, by simp; omega, fun x hx => ?_⟩
    rcases List.mem_append.mp hx with h | h
    · exact hb x h
    · simp only [List.mem_singleton] at h; subst h; exact hy
  · rintro out c2 ⟨k', rfl, hk', hi, hb⟩ _
    rw [if_pos rfl]
    exact q out k' hi hb hk'
theorem under_mono {m n : Int} (l : m ≤ n) : ∀ {w : Wo}, w.under m → w.under n
  | .num _, _ => trivial
  | .face k s u, h => ⟨by have := h.1; omega, under_mono l h.2.1, under_mono l h.2.2⟩
theorem BxOk.mono {m n : Int} {bs : List Bx} (h : BxOk m bs) (l : m ≤ n) : BxOk n bs := ⟨h.len, h.nm, fun b hb => ⟨(h.wo b hb).1, under_mono l (h.wo b hb).2.1, (h.wo b hb).2.2⟩⟩
theorem ok_law_5 {K : PySem.W.Frag} {c : CMap} {E : XD} {Q : DK} {ns : List Int} {p a : Addr} {k : Cell} {rs : List Ru} {ss : List Str} {v5 : Option D} (hp : c p = some k) (hk : BgOk 500000000 k) (ha : c a = some (.lst (rs.map Ru.d))) (pa : p ≠ a) (s2 : 2 ≤ ss.length) (s25 : ss.length ≤ 25) (hss : ∀ s ∈ ss, SOk 40 s) (hnd : ss.Nodup) (hrs : ∀ r ∈ rs, r.ok) (h5 : rs.length ≤ 5) (q : ∀ c, Q (.bl true) c) :
    b_law_5 sp_law_bag sp_law_marks sp_law_names sp_law_rule sp_law_draw sp_law_some_boxes sp_law_by_numbers sp_law_others_changed (sp_is_let K) (sp_view_for K) (sp_let_views K) sp_law_more (endD E Q) [some (.scr ns), some (.ref p), some (.int (rs.length : Int)), some (.lst (ss.map D.str)), some (.ref a), v5, none, none, none, none, none] c := by
  have hR : ∀ k', res (updc c p k') (.ref a) = .lst (rs.map Ru.d) := fun k' => res_c (by walk_at "cl")
  unfold b_law_5
  walk_at "go"
  refine ⟨p, 10, k, 499999999, rfl, hp, hk, by decide, by decide, fun viewer k1 w0 w1 hk1 => ?_⟩
  have hv : VrOk viewer := ⟨w0, by omega⟩
  walk_at "go"
  refine ⟨p, k1, 6, 400000000, ss, rfl, updc_same, hk1.mono (by decide), by decide, by decide, s25, hss, hnd, fun bs k2 hbs hbn hk2 => ?_⟩
  rw [updc_updc]
  have hask : AskOk rs bs := ⟨by omega, hrs, hbs⟩
  walk_at "go"
  intro A hA
  have pA : p ≠ A := ne_some_none (c := updc c p k2) updc_same hA
  have cA : ∀ z, updc c p z A = none := fun z => by rw [updc_ne (Ne.symm pA)]; rwa [updc_ne (Ne.symm pA)] at hA
  refine comp_inv hA (fun j acc c' => ∃ (k' : Cell) (ms : List Int), c' = updc c p k' ∧ BgOk (300000000 + (100 - j)) k' ∧ acc = ms.map D.int ∧ List.Sublist ms (upto 0 j)) (by rw [List.length_map, upto_len]; omega) ⟨k2, [], rfl, hk2.mono (by omega), rfl, List.nil_sublist _⟩ ?_ ?_
  · rintro j d acc c' K' ej ⟨k5, ms, rfl, hk5, rfl, h3⟩ hA' q1 q2
    obtain ⟨z, hz, rfl⟩ := mem_map_at ej
    obtain ⟨hz1, rfl⟩ := upto_at hz
    have hz6 : j < 6 := by omega
    walk_at "go"
    refine ⟨p, 2, k5, 300000000 + (100 - (j + 1)), rfl, by walk_at "cl", hk5.mono (by omega), by decide, by decide, fun v k6 v0 v1 hk6 => ?_⟩
    rw [updc_comm (Ne.symm pA), updc_updc]
    have hsn : List.Sublist (ms ++ [0 + (j : Int)]) (upto 0 (j + 1)) := by
      rw [upto_snoc, Int.zero_add]
      exact h3.append (List.Sublist.refl _)
    walk_at "go"
    refine ite_fd (fun h => ?_) (fun h => ?_)
    · walk_at "go"
      exact q1 _ _ (cA _) ⟨k6, ms ++ [0 + (j : Int)], rfl, hk6, by simp, hsn⟩
    · exact q2 _ (cA _) ⟨k6, ms, rfl, hk6, rfl, (List.sublist_append_left _ _).trans hsn⟩
  rintro out c2 ⟨k5, v, rfl, hk5, rfl, hvs⟩ _
  rw [if_neg (by decide)]
  rw [List.length_map, upto_len, show (rs.length : Int).toNat = rs.length from by omega] at hvs hk5
  have hk5 : BgOk 300000000 k5 := hk5.mono (by omega)
  have hvw : VwOk (rs.length : Int) v := ⟨(upto_up 0 _).sublist hvs, fun x hx => mem_upto.mp (hvs.subset hx)⟩
  have hv6 : VwOk 6 v := ⟨hvw.up, fun x hx => by have := hvw.rng x hx; omega⟩
  have hvl : v.length ≤ 5 := by
    have := hvs.length_le
    rw [upto_len] at this
    omega
  walk_at "go"
  refine ⟨a, rs, bs, viewer, v, rfl, by walk_at "cl", hask, hv, hbn, ?_⟩
  walk_at "go"
  refine ⟨p, k5, 200000000, bs, v, rfl, updc_same, hk5.mono (by decide), hbs, hv6, hbn, fun cs k6 hcs hk6 => ?_⟩
  rw [updc_updc]
  have hask2 : AskOk rs cs := ⟨by omega, hrs, hcs.ok⟩
  walk_at "go"
  refine ⟨_, rs, cs, viewer, v, rfl, hR k6, hask2, by omega, hv, hvw, ?_⟩
  walk_at "go"
  refine ⟨_, rs, bs, viewer, v, rfl, hR k6, hask, by omega, hv, hvw, ?_⟩
  walk_at "go"
  rw [show (true ^^ decide (okV rs cs viewer v = okV rs bs viewer v)) = false from by simp [alike_okV hcs]]
  walk_at "go"
  refine ⟨_, rs, bs, viewer, rfl, hR k6, hask, hv, fun own e1 e2 => ?_⟩
  have hsub := vws_mem.mp (List.mem_filter.mp e2).1
  have hok : okV rs bs viewer own = true := by simpa using (List.mem_filter.mp e2).2
  have hown : VwOk (rs.length : Int) own := ⟨(upto_up 0 _).sublist hsub, fun x hx => mem_upto.mp (hsub.subset hx)⟩
  have hol : own.length ≤ 5 := by
    have := hsub.length_le
    rw [upto_len] at this
    omega
  walk_at "go"
  refine ⟨_, rs, bs, viewer, rfl, hR k6, hask, hv, ?_⟩
  walk_at "go"
  obtain ⟨o1, o2⟩ := viewsD_ok (letL (okV rs bs viewer) rs.length)
  have od : dep (viewD own) ≤ 1 := by unfold viewD; simp [dep, ints_dep]
  refine inD_l (d' := viewD own) (ds := (letL (okV rs bs viewer) rs.length).map viewD) rfl rfl (view_eqOk own).1 (by omega) o1 (by omega) ?_
  rw [show (true ^^ decide (viewD own ∈ (letL (okV rs bs viewer) rs.length).map viewD)) = false from by rw [decide_eq_true (List.mem_map_of_mem e2)]; rfl]
  walk_at "go"
  refine ⟨_, rs, bs, viewer, own, rfl, hR k6, hask, by omega, hv, hown, ?_⟩
  rw [hok]
  walk_at "go"
  refine ⟨p, k6, (rs.length : Int), 100000000, ss, rfl, updc_same, hk6.mono (by decide), by omega, by omega, s25, hss, hnd, fun bs2 k7 hbs2 hbn2 hk7 => ?_⟩
  rw [updc_updc]
  walk_at "go"
  refine ⟨_, rs, bs2, viewer, rfl, hR k7, h5, ⟨by omega, hrs, hbs2.mono (by omega)⟩, fun b hb => (hbs2.wo b hb).2.1, hv, ?_⟩
  exact ⟨_, SubC.rfl', q _⟩
theorem ok_law {K : PySem.W.Frag} {ds c E Q} (h : sp_law ds c E Q) : b_law sp_law_bag sp_law_marks sp_law_names sp_law_rule sp_law_draw sp_law_some_boxes sp_law_by_numbers sp_law_others_changed (sp_is_let K) (sp_view_for K) (sp_let_views K) sp_law_more (endD E Q) (startE 11 ds) c := by
  obtain ⟨ns, rfl, hl, q⟩ := h
  unfold b_law
  walk_at "go"
  refine ⟨ns, rfl, hl, fun p k hp hk => ?_⟩
  walk_at "go"
  refine ⟨p, k, 999000000, rfl, updc_same, hk.mono (by decide), fun m0 k1 m00 m06 hk1 => ?_⟩
  rw [updc_updc]
  walk_at "go"
  obtain ⟨m, hm⟩ : ∃ m : Int, m = if m0 < 5 then m0 else 5 := ⟨_, rfl⟩
  have mr : 0 ≤ m ∧ m ≤ 5 := by rw [hm]; split <;> omega
  rw [← hm]
  clear hm
  refine ⟨p, k1, 900000000, rfl, updc_same, hk1.mono (by decide), fun ss k2 s2 s25 hss hnd hk2 => ?_⟩
  rw [updc_updc]
  walk_at "go"
  intro A hA
  have pA : p ≠ A := ne_some_none (c := updc c p k2) updc_same hA
  refine comp_fuelT (k := k2) (fun i k' => BgOk (700000000 + 100 * (10 - i)) k') (fun d => ∃ r : Ru, d = r.d ∧ r.ok) hA (by rw [List.length_map, upto_len]; omega) updc_same (hk2.mono (by decide)) ?_ ?_
  · intro i d c' K k' e hp' hk' keep qq
    have hi6 : i < 6 := by
      have := (List.getElem?_eq_some_iff.mp e).1
      rw [List.length_map, upto_len] at this
      omega
    walk_at "go"
    refine ⟨p, k', 700000000 + 100 * (10 - (i + 1)), ss, rfl, hp', hk'.mono (by omega), s2, s25, hss, fun r k4 hr hk4 => ?_⟩
    walk_at "go"
    exact qq _ _ ⟨r, rfl, hr⟩ hk4
  intro out k4 hol hout hk4
  rw [updc_updc]
  have hk4' : BgOk 600000000 k4 := hk4.mono (by omega)
  clear hk4
  obtain ⟨rs, rfl, hrs⟩ := all_map (f := Ru.d) (P := Ru.ok) hout
  have hm : m = (rs.length : Int) := by
    rw [List.length_map, List.length_map, upto_len] at hol
    omega
  clear hol hout
  subst hm
  walk_at "go"
  refine ite_d (fun h1 => ?_) (fun _ => ?_)
  · walk_at "go"
    refine ⟨p, 4, k4, 590000000, rfl, by walk_at "cl", hk4'.mono (by decide), by decide, by decide, fun w k5 w0 w1 hk5 => ?_⟩
    rw [updc_comm (Ne.symm pA), updc_updc]
    walk_at "go"
    refine ite_fd (fun _ => ?_) (fun _ => ?_)
    · walk_at "go"
      refine ⟨p, (rs.length : Int), k5, 580000000, rfl, by walk_at "cl", hk5.mono (by decide), by omega, by omega, fun i k6 i0 i1 hk6 => ?_⟩
      rw [updc_comm (Ne.symm pA), updc_updc]
      have hi : i.toNat < rs.length := by omega
      refine ix_c (x := (rs[i.toNat]'hi).d) updc_same (atn (j := i.toNat) (by omega) (by rw [List.getElem?_map, List.getElem?_eq_getElem hi]; rfl)) ?_
      walk_at "go"
      refine ⟨p, (rs.length : Int), k6, 570000000, rfl, by walk_at "cl", hk6.mono (by decide), by omega, by omega, fun j k7 j0 j1 hk7 => ?_⟩
      rw [updc_comm (Ne.symm pA), updc_updc]
      refine set_l (j := j.toNat) updc_same (ixn (by omega) (by rw [List.length_map]; omega)) ?_
      rw [updc_updc, show (rs.map Ru.d).set j.toNat (rs[i.toNat]'hi).d = (rs.set j.toNat (rs[i.toNat]'hi)).map Ru.d from by rw [List.map_set]]
      walk_at "go"
      have hln : (rs.set j.toNat (rs[i.toNat]'hi)).length = rs.length := List.length_set
      have hro : ∀ r ∈ rs.set j.toNat (rs[i.toNat]'hi), r.ok := fun r hr => by
        rcases List.mem_or_eq_of_mem_set hr with z | z
        · exact hrs r z
        · rw [z]; exact hrs _ (List.getElem_mem hi)
      rw [← hln]
      exact ok_law_5 (k := k7) (by walk_at "cl") (hk7.mono (by decide)) updc_same pA s2 s25 hss hnd hro (by omega) q
    · walk_at "go"
      exact ok_law_5 (k := k5) (by walk_at "cl") (hk5.mono (by decide)) updc_same pA s2 s25 hss hnd hrs (by omega) q
  · walk_at "go"
    exact ok_law_5 (k := k4) (by walk_at "cl") (hk4'.mono (by decide)) updc_same pA s2 s25 hss hnd hrs (by omega) q
def topS (i : Nat) : Stmt := PySem.Challenge.pw_manyfaces_k47_whole_rules_by_numbers_see.main.body.getD i (.Pass ⟨0, 0, 0, 0⟩)
section
variable {GI : Hp → Hp → Prop} {P : Program} {w : World} {K : PySem.W.Frag} {mg : Str → Option Value} {base : Heap}
abbrev t_law_bag : Stmt := topS 25
theorem sc_law_bag : FnScope ["script", "total", "cell"] ["script"] (defScope t_law_bag) := ⟨rfl, rfl, rfl, by decide +kernel, rfl, by decide +kernel, by decide +kernel⟩
theorem d_law_bag {k : Nat} (m_list : mg "list" = none) {cdv : Value} {A : Around} {outer : List Env} {s : Shared} {H : Hp} {E : XK} {f : Addr} (hr : Room k (A.deeper (envOfC "_law_bag" (defScope t_law_bag) s.heap.objs.size f cdv))) :
    CSs GI (cxOf (L2.CX P w) P w K mg base ["script", "total", "cell"] "_law_bag" (defScope t_law_bag) f cdv A outer s H E) (defBody t_law_bag) (b_law_bag) := by
  have r0 := hr.mono (Nat.zero_le k)
  have nd := sc_law_bag.nd
  exact (css_cons (cs_asg 1 ce_int)
  (css_cons (cs_for [2] rfl (ci_any (ce_var 0)) (cg_name 2) (css_one (cs_asg 1 (ce_mod (ce_add false (ce_add false (ce_mul false (ce_var 1) ce_int) (ce_mod (ce_var 2) ce_int)) ce_int) ce_int))))
  (css_one (cs_ret (ce_lst true (ca_cons (ce_listc false rfl m_list (ca_cons (ce_var 0) ca_nil)) (ca_cons ce_int (ca_cons ce_int (ca_cons ce_int (ca_cons (ce_var 1) ca_nil))))))))))

abbrev t_law_stir : Stmt := topS 26
theorem sc_law_stir : FnScope ["number", "place", "one", "two"] ["number", "place"] (defScope t_law_stir) := ⟨rfl, rfl, rfl, by decide +kernel, rfl, by decide +kernel, by decide +kernel⟩
theorem d_law_stir {k : Nat}  {cdv : Value} {A : Around} {outer : List Env} {s : Shared} {H : Hp} {E : XK} {f : Addr} (hr : Room k (A.deeper (envOfC "_law_stir" (defScope t_law_stir) s.heap.objs.size f cdv))) :
    CSs GI (cxOf (L2.CX P w) P w K mg base ["number", "place", "one", "two"] "_law_stir" (defScope t_law_stir) f cdv A outer s H E) (defBody t_law_stir) (b_law_stir) := by
  have r0 := hr.mono (Nat.zero_le k)
  have nd := sc_law_stir.nd
  exact (css_cons (cs_asg 2 (ce_mod (ce_add false (ce_add false (ce_mul false (ce_var 0) ce_int) (ce_mul false (ce_var 1) ce_int)) ce_int) ce_int))
  (css_cons (cs_asg 3 (ce_mod (ce_mul false (ce_var 2) (ce_var 2)) ce_int))
  (css_one (cs_ret (ce_fdiv (ce_mod (ce_add false (ce_add false (ce_mul false (ce_var 3) ce_int) (ce_mul false (ce_mul false (ce_var 1) (ce_var 1)) ce_int)) (ce_fdiv (ce_var 2) ce_int)) ce_int) ce_int)))))

abbrev t_law_draw : Stmt := topS 27
theorem sc_law_draw : FnScope ["bag", "many", "cell", "found"] ["bag", "many"] (defScope t_law_draw) := ⟨rfl, rfl, rfl, by decide +kernel, rfl, by decide +kernel, by decide +kernel⟩
theorem d_law_draw {s_law_stir : DSpec} {k : Nat} (h_law_stir : HasG GI P w K mg base k "_law_stir" 2 s_law_stir) (m_len : mg "len" = none) {cdv : Value} {A : Around} {outer : List Env} {s : Shared} {H : Hp} {E : XK} {f : Addr} (hr : Room k (A.deeper (envOfC "_law_draw" (defScope t_law_draw) s.heap.objs.size f cdv))) :
    CSs GI (cxOf (L2.CX P w) P w K mg base ["bag", "many", "cell", "found"] "_law_draw" (defScope t_law_draw) f cdv A outer s H E) (defBody t_law_draw) (b_law_draw s_law_stir) := by
  have r0 := hr.mono (Nat.zero_le k)
  have nd := sc_law_draw.nd
  exact (css_cons (cs_if (ct_eq r0 (ce_var 1) ce_int) (css_one (cs_ret ce_int)) css_nil)
  (css_cons (cs_set r0 (ce_var 0) ce_int (ce_add false (ce_idx r0 (ce_var 0) ce_int) ce_int))
  (css_cons (cs_if (cw_and (ct_lt (ce_idx r0 (ce_var 0) ce_int) ce_int) (cw_and1 (ct_eq r0 (ce_idx r0 (ce_var 0) ce_int) (ce_len m_len (ca_cons (ce_idx r0 (ce_var 0) ce_int) ca_nil))))).ct (css_one (cs_ret (ce_mod (ce_call h_law_stir hr (ca_cons (ce_idx r0 (ce_var 0) ce_int) (ca_cons (ce_idx r0 (ce_var 0) ce_int) ca_nil))) (ce_var 1)))) css_nil)
  (css_cons (cs_if (ct_lt (ce_idx r0 (ce_var 0) ce_int) ce_int) (css_cons (cs_asg 2 (ce_idx r0 (ce_idx r0 (ce_var 0) ce_int) (ce_idx r0 (ce_var 0) ce_int)))
  (css_cons (cs_set r0 (ce_var 0) ce_int (ce_add false (ce_idx r0 (ce_var 0) ce_int) ce_int))
  (css_cons (cs_if (ct_lt (ce_var 2) (ce_pow ce_int ce_int)) (css_one (cs_ret (ce_mod (ce_call h_law_stir hr (ca_cons (ce_mod (ce_var 2) ce_int) (ca_cons (ce_idx r0 (ce_var 0) ce_int) ca_nil))) (ce_var 1)))) css_nil)
  (css_one (cs_set r0 (ce_var 0) ce_int (ce_sub (ce_var 2) (ce_pow ce_int ce_int))))))) css_nil)
  (css_cons (cs_asg 3 (ce_mod (ce_idx r0 (ce_var 0) ce_int) (ce_var 1)))
  (css_cons (cs_set r0 (ce_var 0) ce_int (ce_fdiv (ce_idx r0 (ce_var 0) ce_int) (ce_var 1)))
  (css_one (cs_ret (ce_var 3)))))))))

abbrev t_law_marks : Stmt := topS 39
theorem sc_law_marks : FnScope ["bag"] ["bag"] (defScope t_law_marks) := ⟨rfl, rfl, rfl, by decide +kernel, rfl, by decide +kernel, by decide +kernel⟩
theorem d_law_marks {s_law_draw : DSpec} {k : Nat} (h_law_draw : HasG GI P w K mg base k "_law_draw" 2 s_law_draw) {cdv : Value} {A : Around} {outer : List Env} {s : Shared} {H : Hp} {E : XK} {f : Addr} (hr : Room k (A.deeper (envOfC "_law_marks" (defScope t_law_marks) s.heap.objs.size f cdv))) :
    CSs GI (cxOf (L2.CX P w) P w K mg base ["bag"] "_law_marks" (defScope t_law_marks) f cdv A outer s H E) (defBody t_law_marks) (b_law_marks s_law_draw) := by
  have r0 := hr.mono (Nat.zero_le k)
  have nd := sc_law_marks.nd
  exact (css_one (cs_ret (ce_idx r0 (ce_lst false (ca_cons (ce_call h_law_draw hr (ca_cons (ce_var 0) (ca_cons ce_int ca_nil))) (ca_cons ce_int (ca_cons ce_int (ca_cons (ce_call h_law_draw hr (ca_cons (ce_var 0) (ca_cons ce_int ca_nil))) (ca_cons ce_int (ca_cons ce_int (ca_cons ce_int (ca_cons (ce_call h_law_draw hr (ca_cons (ce_var 0) (ca_cons ce_int ca_nil))) ca_nil))))))))) (ce_call h_law_draw hr (ca_cons (ce_var 0) (ca_cons ce_int ca_nil))))))

abbrev t_law_words : Stmt := topS 28
theorem sc_law_words : FnScope ["bag", "many", "letters", "kind", "base", "k", "at", "some", "letter", "whole", "turn", "menu"] ["bag", "many"] (defScope t_law_words) := ⟨rfl, rfl, rfl, by decide +kernel, rfl, by decide +kernel, by decide +kernel⟩
theorem d_law_words {s_law_draw : DSpec} {k : Nat} (h_law_draw : HasG GI P w K mg base k "_law_draw" 2 s_law_draw) (m_range : mg "range" = none) (m_len : mg "len" = none) {cdv : Value} {A : Around} {outer : List Env} {s : Shared} {H : Hp} {E : XK} {f : Addr} (hr : Room k (A.deeper (envOfC "_law_words" (defScope t_law_words) s.heap.objs.size f cdv))) :
    CSs GI (cxOf (L2.CX P w) P w K mg base ["bag", "many", "letters", "kind", "base", "k", "at", "some", "letter", "whole", "turn", "menu"] "_law_words" (defScope t_law_words) f cdv A outer s H E) (defBody t_law_words) (b_law_words s_law_draw) := by
  have r0 := hr.mono (Nat.zero_le k)
  have nd := sc_law_words.nd
  exact (css_cons (cs_asg 2 ce_str)
  (css_cons (cs_asg 3 (ce_call h_law_draw hr (ca_cons (ce_var 0) (ca_cons ce_int ca_nil))))
  (css_cons (cs_asg 4 (ce_add false (ce_idx r0 ce_str (ce_call h_law_draw hr (ca_cons (ce_var 0) (ca_cons ce_int ca_nil)))) (ce_join ce_str (ca_cons (ce_comp false [("k", 5)] nd rfl (ci_range1 m_range (ca_cons (ce_call h_law_draw hr (ca_cons (ce_var 0) (ca_cons ce_int ca_nil))) ca_nil)) (blkOk_by (N := ["bag", "many", "letters", "kind", "base", "k", "at", "some", "letter", "whole", "turn", "menu"]) (sc := defScope t_law_words) (own := [("k", 5)]) (by decide +kernel)) (fun _ _ _ _ _ => (cg_name 5)) (fun _ _ _ _ _ => cts_nil) (fun _ _ _ _ _ => (ce_idx r0 (ce_var 2) (ce_call h_law_draw hr (ca_cons (ce_var 0) (ca_cons ce_int ca_nil)))))) ca_nil))))
  (css_cons (cs_asg 6 (ce_call h_law_draw hr (ca_cons (ce_var 0) (ca_cons (ce_add false (ce_len m_len (ca_cons (ce_var 4) ca_nil)) ce_int) ca_nil))))
  (css_cons (cs_asg 7 (ce_comp true [("letter", 8)] nd rfl (ci_any (ce_var 2)) (blkOk_by (N := ["bag", "many", "letters", "kind", "base", "k", "at", "some", "letter", "whole", "turn", "menu"]) (sc := defScope t_law_words) (own := [("letter", 8)]) (by decide +kernel)) (fun _ _ _ _ _ => (cg_name 8)) (fun _ _ _ _ _ => cts_nil) (fun _ _ _ _ _ => (ce_add false (ce_add false (ce_slice false (ce_var 4) co_none (co_some (ce_var 6))) (ce_var 8)) (ce_slice false (ce_var 4) (co_some (ce_var 6)) co_none)))))
  (css_cons (cs_if (cw_and (ct_lt (ce_var 1) ce_int) (cw_and1 (ct_gt (ce_var 3) ce_int))).ct (css_cons (cs_asg 9 (ce_add false (ce_var 4) ce_str))
  (css_cons (cs_asg 10 (ce_add false ce_str (ce_idx r0 (ce_var 4) ce_int)))
  (css_cons (cs_asg 11 (ce_lst true (ca_cons ce_str (ca_cons ce_str (ca_cons ce_str (ca_cons ce_str (ca_cons ce_str (ca_cons ce_str (ca_cons ce_str (ca_cons ce_str (ca_cons ce_str (ca_cons ce_str (ca_cons (ce_add false (ce_slice false (ce_var 4) (co_some ce_int) co_none) ce_str) ca_nil)))))))))))))
  (css_cons (cs_asg 7 (ce_lst true (ca_cons (ce_comp true [("k", 5)] nd rfl (ci_range1 m_range (ca_cons ce_int ca_nil)) (blkOk_by (N := ["bag", "many", "letters", "kind", "base", "k", "at", "some", "letter", "whole", "turn", "menu"]) (sc := defScope t_law_words) (own := [("k", 5)]) (by decide +kernel)) (fun _ _ _ _ _ => (cg_name 5)) (fun _ _ _ _ _ => cts_nil) (fun _ _ _ _ _ => (ce_slice false (ce_var 9) co_none (co_some (ce_add false (ce_var 5) ce_int))))) (ca_cons (ce_comp true [("k", 5)] nd rfl (ci_range1 m_range (ca_cons ce_int ca_nil)) (blkOk_by (N := ["bag", "many", "letters", "kind", "base", "k", "at", "some", "letter", "whole", "turn", "menu"]) (sc := defScope t_law_words) (own := [("k", 5)]) (by decide +kernel)) (fun _ _ _ _ _ => (cg_name 5)) (fun _ _ _ _ _ => cts_nil) (fun _ _ _ _ _ => (ce_slice3 false (ce_var 9) (co_some (ce_var 5)) co_none (co_some (ce_neg ce_int))))) ca_nil))))
  (css_one (cs_asg 7 (ce_idx r0 (ce_add false (ce_var 7) (ce_lst false (ca_cons (ce_comp true [("k", 5)] nd rfl (ci_range1 m_range (ca_cons ce_int ca_nil)) (blkOk_by (N := ["bag", "many", "letters", "kind", "base", "k", "at", "some", "letter", "whole", "turn", "menu"]) (sc := defScope t_law_words) (own := [("k", 5)]) (by decide +kernel)) (fun _ _ _ _ _ => (cg_name 5)) (fun _ _ _ _ _ => cts_nil) (fun _ _ _ _ _ => (ce_add false (ce_slice false (ce_var 10) (co_some (ce_var 5)) co_none) (ce_slice false (ce_var 10) co_none (co_some (ce_var 5)))))) (ca_cons (ce_var 11) ca_nil)))) (ce_sub (ce_var 3) ce_int)))))))) css_nil)
  (css_one (cs_ret (ce_comp false [("k", 5)] nd rfl (ci_range1 m_range (ca_cons (ce_var 1) ca_nil)) (blkOk_by (N := ["bag", "many", "letters", "kind", "base", "k", "at", "some", "letter", "whole", "turn", "menu"]) (sc := defScope t_law_words) (own := [("k", 5)]) (by decide +kernel)) (fun _ _ _ _ _ => (cg_name 5)) (fun _ _ _ _ _ => cts_nil) (fun _ _ _ _ _ => (ce_pop1 (ce_var 7) (ca_cons (ce_call h_law_draw hr (ca_cons (ce_var 0) (ca_cons (ce_len m_len (ca_cons (ce_var 7) ca_nil)) ca_nil))) ca_nil))))))))))))

abbrev t_law_names : Stmt := topS 29
theorem sc_law_names : FnScope ["bag"] ["bag"] (defScope t_law_names) := ⟨rfl, rfl, rfl, by decide +kernel, rfl, by decide +kernel, by decide +kernel⟩
theorem d_law_names {s_law_draw s_law_words : DSpec} {k : Nat} (h_law_draw : HasG GI P w K mg base k "_law_draw" 2 s_law_draw) (h_law_words : HasG GI P w K mg base k "_law_words" 2 s_law_words) {cdv : Value} {A : Around} {outer : List Env} {s : Shared} {H : Hp} {E : XK} {f : Addr} (hr : Room k (A.deeper (envOfC "_law_names" (defScope t_law_names) s.heap.objs.size f cdv))) :
    CSs GI (cxOf (L2.CX P w) P w K mg base ["bag"] "_law_names" (defScope t_law_names) f cdv A outer s H E) (defBody t_law_names) (b_law_names s_law_draw s_law_words) := by
  have r0 := hr.mono (Nat.zero_le k)
  have nd := sc_law_names.nd
  exact (css_one (cs_ret (ce_call h_law_words hr (ca_cons (ce_var 0) (ca_cons (ce_add false ce_int (ce_call h_law_draw hr (ca_cons (ce_var 0) (ca_cons (ce_idx r0 (ce_lst false (ca_cons ce_int (ca_cons ce_int (ca_cons ce_int (ca_cons ce_int ca_nil))))) (ce_call h_law_draw hr (ca_cons (ce_var 0) (ca_cons ce_int ca_nil)))) ca_nil)))) ca_nil)))))

abbrev t_law_plain : Stmt := topS 33
theorem sc_law_plain : FnScope ["bag", "names", "kind"] ["bag", "names"] (defScope t_law_plain) := ⟨rfl, rfl, rfl, by decide +kernel, rfl, by decide +kernel, by decide +kernel⟩
theorem d_law_plain {s_law_draw : DSpec} {k : Nat} (h_law_draw : HasG GI P w K mg base k "_law_draw" 2 s_law_draw) (m_len : mg "len" = none) {cdv : Value} {A : Around} {outer : List Env} {s : Shared} {H : Hp} {E : XK} {f : Addr} (hr : Room k (A.deeper (envOfC "_law_plain" (defScope t_law_plain) s.heap.objs.size f cdv))) :
    CSs GI (cxOf (L2.CX P w) P w K mg base ["bag", "names", "kind"] "_law_plain" (defScope t_law_plain) f cdv A outer s H E) (defBody t_law_plain) (b_law_plain s_law_draw) := by
  have r0 := hr.mono (Nat.zero_le k)
  have nd := sc_law_plain.nd
  exact (css_cons (cs_asg 2 (ce_call h_law_draw hr (ca_cons (ce_var 0) (ca_cons ce_int ca_nil))))
  (css_cons (cs_if (ct_eq r0 (ce_var 2) ce_int) (css_one (cs_ret (ce_tup (ca_cons ce_str (ca_cons (ce_idx r0 (ce_lst false (ca_cons (ce_call h_law_draw hr (ca_cons (ce_var 0) (ca_cons ce_int ca_nil))) (ca_cons (ce_call h_law_draw hr (ca_cons (ce_var 0) (ca_cons ce_int ca_nil))) ca_nil))) (ce_call h_law_draw hr (ca_cons (ce_var 0) (ca_cons ce_int ca_nil)))) ca_nil))))) css_nil)
  (css_cons (cs_if (ct_eq r0 (ce_var 2) ce_int) (css_one (cs_ret (ce_tup (ca_cons ce_str (ca_cons ce_str ca_nil))))) css_nil)
  (css_one (cs_ret (ce_tup (ca_cons ce_str (ca_cons (ce_idx r0 (ce_var 1) (ce_call h_law_draw hr (ca_cons (ce_var 0) (ca_cons (ce_len m_len (ca_cons (ce_var 1) ca_nil)) ca_nil)))) ca_nil))))))))

abbrev t_law_e : Stmt := topS 34
theorem sc_law_e : FnScope ["bag", "names", "kind", "one"] ["bag", "names"] (defScope t_law_e) := ⟨rfl, rfl, rfl, by decide +kernel, rfl, by decide +kernel, by decide +kernel⟩
theorem d_law_e {s_law_draw s_law_plain : DSpec} {k : Nat} (h_law_draw : HasG GI P w K mg base k "_law_draw" 2 s_law_draw) (h_law_plain : HasG GI P w K mg base k "_law_plain" 2 s_law_plain) {cdv : Value} {A : Around} {outer : List Env} {s : Shared} {H : Hp} {E : XK} {f : Addr} (hr : Room k (A.deeper (envOfC "_law_e" (defScope t_law_e) s.heap.objs.size f cdv))) :
    CSs GI (cxOf (L2.CX P w) P w K mg base ["bag", "names", "kind", "one"] "_law_e" (defScope t_law_e) f cdv A outer s H E) (defBody t_law_e) (b_law_e s_law_draw s_law_plain) := by
  have r0 := hr.mono (Nat.zero_le k)
  have nd := sc_law_e.nd
  exact (css_cons (cs_asg 2 (ce_call h_law_draw hr (ca_cons (ce_var 0) (ca_cons ce_int ca_nil))))
  (css_cons (cs_asg 3 (ce_call h_law_plain hr (ca_cons (ce_var 0) (ca_cons (ce_var 1) ca_nil))))
  (css_cons (cs_if (ct_lt (ce_var 2) ce_int) (css_one (cs_ret (ce_var 3))) css_nil)
  (css_one (cs_ret (ce_tup (ca_cons (ce_idx r0 ce_str (ce_call h_law_draw hr (ca_cons (ce_var 0) (ca_cons ce_int ca_nil)))) (ca_cons (ce_var 3) (ca_cons (ce_call h_law_plain hr (ca_cons (ce_var 0) (ca_cons (ce_var 1) ca_nil))) ca_nil)))))))))

abbrev t_law_rule : Stmt := topS 35
theorem sc_law_rule : FnScope ["bag", "names"] ["bag", "names"] (defScope t_law_rule) := ⟨rfl, rfl, rfl, by decide +kernel, rfl, by decide +kernel, by decide +kernel⟩
theorem d_law_rule {s_law_draw s_law_e : DSpec} {k : Nat} (h_law_draw : HasG GI P w K mg base k "_law_draw" 2 s_law_draw) (h_law_e : HasG GI P w K mg base k "_law_e" 2 s_law_e) {cdv : Value} {A : Around} {outer : List Env} {s : Shared} {H : Hp} {E : XK} {f : Addr} (hr : Room k (A.deeper (envOfC "_law_rule" (defScope t_law_rule) s.heap.objs.size f cdv))) :
    CSs GI (cxOf (L2.CX P w) P w K mg base ["bag", "names"] "_law_rule" (defScope t_law_rule) f cdv A outer s H E) (defBody t_law_rule) (b_law_rule s_law_draw s_law_e) := by
  have r0 := hr.mono (Nat.zero_le k)
  have nd := sc_law_rule.nd
  exact (css_one (cs_ret (ce_tup (ca_cons (ce_idx r0 ce_str (ce_call h_law_draw hr (ca_cons (ce_var 0) (ca_cons ce_int ca_nil)))) (ca_cons (ce_call h_law_e hr (ca_cons (ce_var 0) (ca_cons (ce_var 1) ca_nil))) (ca_cons (ce_call h_law_e hr (ca_cons (ce_var 0) (ca_cons (ce_var 1) ca_nil))) ca_nil))))))

abbrev t_law_least : Stmt := topS 31
theorem sc_law_least : FnScope ["numbers", "some", "seen", "other"] ["numbers", "some"] (defScope t_law_least) := ⟨rfl, rfl, rfl, by decide +kernel, rfl, by decide +kernel, by decide +kernel⟩
theorem d_law_least {s_law_least : DSpec} {k : Nat} (h_law_least : HasG GI P w K mg base k "_law_least" 2 s_law_least) {cdv : Value} {A : Around} {outer : List Env} {s : Shared} {H : Hp} {E : XK} {f : Addr} (hr : Room k (A.deeper (envOfC "_law_least" (defScope t_law_least) s.heap.objs.size f cdv))) :
    CSs GI (cxOf (L2.CX P w) P w K mg base ["numbers", "some", "seen", "other"] "_law_least" (defScope t_law_least) f cdv A outer s H E) (defBody t_law_least) (b_law_least s_law_least) := by
  have r0 := hr.mono (Nat.zero_le k)
  have nd := sc_law_least.nd
  exact (css_cons (cs_if (ct_eq r0 (ce_var 1) (ce_lst false ca_nil)) (css_one (cs_ret (ce_idx r0 (ce_var 0) ce_int))) css_nil)
  (css_cons (cs_asg 2 (ce_call h_law_least hr (ca_cons (ce_slice3 false (ce_var 0) (co_some ce_int) co_none (co_some ce_int)) (ca_cons (ce_slice false (ce_var 1) (co_some ce_int) co_none) ca_nil))))
  (css_cons (cs_asg 3 (ce_call h_law_least hr (ca_cons (ce_slice3 false (ce_var 0) co_none co_none (co_some ce_int)) (ca_cons (ce_slice false (ce_var 1) (co_some ce_int) co_none) ca_nil))))
  (css_cons (cs_if (ct_eq r0 (ce_var 2) (ce_var 3)) (css_one (cs_ret (ce_var 2))) css_nil)
  (css_one (cs_ret (ce_tup (ca_cons ce_str (ca_cons (ce_idx r0 (ce_var 1) ce_int) (ca_cons (ce_var 2) (ca_cons (ce_var 3) ca_nil)))))))))))

abbrev t_law_worth : Stmt := topS 32
theorem sc_law_worth : FnScope ["bag", "marks", "top", "some", "mark", "k"] ["bag", "marks"] (defScope t_law_worth) := ⟨rfl, rfl, rfl, by decide +kernel, rfl, by decide +kernel, by decide +kernel⟩
theorem d_law_worth {s_law_draw s_law_least : DSpec} {k : Nat} (h_law_draw : HasG GI P w K mg base k "_law_draw" 2 s_law_draw) (h_law_least : HasG GI P w K mg base k "_law_least" 2 s_law_least) (m_range : mg "range" = none) (m_len : mg "len" = none) {cdv : Value} {A : Around} {outer : List Env} {s : Shared} {H : Hp} {E : XK} {f : Addr} (hr : Room k (A.deeper (envOfC "_law_worth" (defScope t_law_worth) s.heap.objs.size f cdv))) :
    CSs GI (cxOf (L2.CX P w) P w K mg base ["bag", "marks", "top", "some", "mark", "k"] "_law_worth" (defScope t_law_worth) f cdv A outer s H E) (defBody t_law_worth) (b_law_worth s_law_draw s_law_least) := by
  have r0 := hr.mono (Nat.zero_le k)
  have nd := sc_law_worth.nd
  exact (css_cons (cs_asg 2 (ce_idx r0 (ce_lst false (ca_cons ce_int (ca_cons ce_int (ca_cons ce_int (ca_cons ce_int ca_nil))))) (ce_call h_law_draw hr (ca_cons (ce_var 0) (ca_cons ce_int ca_nil)))))
  (css_cons (cs_setcomp false 3 [("mark", 4)] nd rfl (ci_range1 m_range (ca_cons (ce_var 1) ca_nil)) (blkOk_by (N := ["bag", "marks", "top", "some", "mark", "k"]) (sc := defScope t_law_worth) (own := [("mark", 4)]) (by decide +kernel)) (fun _ _ _ _ _ => (cg_name 4)) (fun _ _ _ _ _ => (cts_one (ct_eq r0 (ce_call h_law_draw hr (ca_cons (ce_var 0) (ca_cons ce_int ca_nil))) ce_int))) (fun _ _ _ _ _ => (ce_var 4)))
  (css_one (cs_ret (ce_call h_law_least hr (ca_cons (ce_comp false [("k", 5)] nd rfl (ci_range1 m_range (ca_cons (ce_shl ce_int (ce_len m_len (ca_cons (ce_var 3) ca_nil))) ca_nil)) (blkOk_by (N := ["bag", "marks", "top", "some", "mark", "k"]) (sc := defScope t_law_worth) (own := [("k", 5)]) (by decide +kernel)) (fun _ _ _ _ _ => (cg_name 5)) (fun _ _ _ _ _ => cts_nil) (fun _ _ _ _ _ => (ce_call h_law_draw hr (ca_cons (ce_var 0) (ca_cons (ce_var 2) ca_nil))))) (ca_cons (ce_var 3) ca_nil)))))))

abbrev t_law_some_boxes : Stmt := topS 38
theorem sc_law_some_boxes : FnScope ["bag", "names", "marks", "found", "name", "worth"] ["bag", "names", "marks"] (defScope t_law_some_boxes) := ⟨rfl, rfl, rfl, by decide +kernel, rfl, by decide +kernel, by decide +kernel⟩
theorem d_law_some_boxes {s_law_worth : DSpec} {k : Nat} (h_law_worth : HasG GI P w K mg base k "_law_worth" 2 s_law_worth) (m_sorted : mg "sorted" = none) {cdv : Value} {A : Around} {outer : List Env} {s : Shared} {H : Hp} {E : XK} {f : Addr} (hr : Room k (A.deeper (envOfC "_law_some_boxes" (defScope t_law_some_boxes) s.heap.objs.size f cdv))) :
    CSs GI (cxOf (L2.CX P w) P w K mg base ["bag", "names", "marks", "found", "name", "worth"] "_law_some_boxes" (defScope t_law_some_boxes) f cdv A outer s H E) (defBody t_law_some_boxes) (b_law_some_boxes s_law_worth) := by
  have r0 := hr.mono (Nat.zero_le k)
  have nd := sc_law_some_boxes.nd
  exact (css_cons (cs_asg 3 (ce_lst true ca_nil))
  (css_cons (cs_for [4] rfl (ci_any (ce_sorted false m_sorted (ca_cons (ce_var 1) ca_nil))) (cg_name 4) (css_cons (cs_asg 5 (ce_call h_law_worth hr (ca_cons (ce_var 0) (ca_cons (ce_var 2) ca_nil))))
  (css_one (cs_if (ct_ne r0 (ce_var 5) ce_int) (css_one (cs_expr (ce_append (ce_var 3) (ca_cons (ce_tup (ca_cons (ce_var 4) (ca_cons (ce_var 5) ca_nil))) ca_nil)))) css_nil))))
  (css_one (cs_ret (ce_frz (ce_var 3))))))

abbrev t_seen_by : Stmt := topS 5
theorem sc_seen_by : FnScope ["worth", "view", "word", "mark", "seen", "unseen"] ["worth", "view"] (defScope t_seen_by) := ⟨rfl, rfl, rfl, by decide +kernel, rfl, by decide +kernel, by decide +kernel⟩
theorem d_seen_by {k : Nat} (m_tuple : mg "tuple" = none) (m_isinstance : mg "isinstance" = none) {cdv : Value} {A : Around} {outer : List Env} {s : Shared} {H : Hp} {E : XK} {f : Addr} (hr : Room k (A.deeper (envOfC "seen_by" (defScope t_seen_by) s.heap.objs.size f cdv))) :
    CSs GI (cxOf (L2.CX P w) P w K mg base ["worth", "view", "word", "mark", "seen", "unseen"] "seen_by" (defScope t_seen_by) f cdv A outer s H E) (defBody t_seen_by) (b_seen_by) := by
  have r0 := hr.mono (Nat.zero_le k)
  have nd := sc_seen_by.nd
  exact (css_cons (cs_while (ct_val (ce_isi m_isinstance (ca_cons (ce_var 0) (ca_cons (ce_bty m_tuple) ca_nil)))) (css_cons (cs_asgG [2, 3, 4, 5] (ce_var 0) (cg_tup 4 rfl (cgs_cons (cg_name 2) (cgs_cons (cg_name 3) (cgs_cons (cg_name 4) (cgs_cons (cg_name 5) cgs_nil))))))
  (css_one (cs_asg 0 (ce_if (ct_in r0 (ce_var 3) (ce_var 1)) (ce_var 4) (ce_var 5))))))
  (css_one (cs_ret (ce_var 0))))

abbrev t_named_for : Stmt := topS 15
theorem sc_named_for : FnScope ["boxes", "viewer", "view", "named", "name", "worth"] ["boxes", "viewer", "view"] (defScope t_named_for) := ⟨rfl, rfl, rfl, by decide +kernel, rfl, by decide +kernel, by decide +kernel⟩
theorem d_named_for {s_seen_by : DSpec} {k : Nat} (h_seen_by : HasG GI P w K mg base k "seen_by" 2 s_seen_by) (m_dict : mg "dict" = none) {cdv : Value} {A : Around} {outer : List Env} {s : Shared} {H : Hp} {E : XK} {f : Addr} (hr : Room k (A.deeper (envOfC "named_for" (defScope t_named_for) s.heap.objs.size f cdv))) :
    CSs GI (cxOf (L2.CX P w) P w K mg base ["boxes", "viewer", "view", "named", "name", "worth"] "named_for" (defScope t_named_for) f cdv A outer s H E) (defBody t_named_for) (b_named_for s_seen_by) := by
  have r0 := hr.mono (Nat.zero_le k)
  have nd := sc_named_for.nd
  exact (css_cons (cs_asg 3 (ce_dictc rfl m_dict (ca_cons (ce_comp false [("name", 4), ("worth", 5)] nd rfl (ci_any (ce_var 0)) (blkOk_by (N := ["boxes", "viewer", "view", "named", "name", "worth"]) (sc := defScope t_named_for) (own := [("name", 4), ("worth", 5)]) (by decide +kernel)) (fun _ _ _ _ _ => (cg_tup 2 rfl (cgs_cons (cg_name 4) (cgs_cons (cg_name 5) cgs_nil)))) (fun _ _ _ _ _ => cts_nil) (fun _ _ _ _ _ => (ce_tup (ca_cons (ce_var 4) (ca_cons (ce_call h_seen_by hr (ca_cons (ce_var 5) (ca_cons (ce_var 2) ca_nil))) ca_nil))))) ca_nil)))
  (css_cons (cs_set r0 (ce_var 3) ce_str (ce_var 1))
  (css_one (cs_ret (ce_var 3)))))

abbrev t_added : Stmt := topS 8
theorem sc_added : FnScope ["one", "other"] ["one", "other"] (defScope t_added) := ⟨rfl, rfl, rfl, by decide +kernel, rfl, by decide +kernel, by decide +kernel⟩
theorem d_added {k : Nat}  {cdv : Value} {A : Around} {outer : List Env} {s : Shared} {H : Hp} {E : XK} {f : Addr} (hr : Room k (A.deeper (envOfC "added" (defScope t_added) s.heap.objs.size f cdv))) :
    CSs GI (cxOf (L2.CX P w) P w K mg base ["one", "other"] "added" (defScope t_added) f cdv A outer s H E) (defBody t_added) (b_added) := by
  have r0 := hr.mono (Nat.zero_le k)
  have nd := sc_added.nd
  exact (css_one (cs_ret (ce_add false (ce_var 0) (ce_var 1))))

abbrev t_lessened : Stmt := topS 9
theorem sc_lessened : FnScope ["one", "other"] ["one", "other"] (defScope t_lessened) := ⟨rfl, rfl, rfl, by decide +kernel, rfl, by decide +kernel, by decide +kernel⟩
theorem d_lessened {k : Nat}  {cdv : Value} {A : Around} {outer : List Env} {s : Shared} {H : Hp} {E : XK} {f : Addr} (hr : Room k (A.deeper (envOfC "lessened" (defScope t_lessened) s.heap.objs.size f cdv))) :
    CSs GI (cxOf (L2.CX P w) P w K mg base ["one", "other"] "lessened" (defScope t_lessened) f cdv A outer s H E) (defBody t_lessened) (b_lessened) := by
  have r0 := hr.mono (Nat.zero_le k)
  have nd := sc_lessened.nd
  exact (css_one (cs_ret (ce_sub (ce_var 0) (ce_var 1))))

abbrev t_multiplied : Stmt := topS 10
theorem sc_multiplied : FnScope ["one", "other"] ["one", "other"] (defScope t_multiplied) := ⟨rfl, rfl, rfl, by decide +kernel, rfl, by decide +kernel, by decide +kernel⟩
theorem d_multiplied {k : Nat}  {cdv : Value} {A : Around} {outer : List Env} {s : Shared} {H : Hp} {E : XK} {f : Addr} (hr : Room k (A.deeper (envOfC "multiplied" (defScope t_multiplied) s.heap.objs.size f cdv))) :
    CSs GI (cxOf (L2.CX P w) P w K mg base ["one", "other"] "multiplied" (defScope t_multiplied) f cdv A outer s H E) (defBody t_multiplied) (b_multiplied) := by
  have r0 := hr.mono (Nat.zero_le k)
  have nd := sc_multiplied.nd
  exact (css_one (cs_ret (ce_mul false (ce_var 0) (ce_var 1))))

abbrev t_number_of : Stmt := topS 12
theorem sc_number_of : FnScope ["side", "named", "deed"] ["side", "named"] (defScope t_number_of) := ⟨rfl, rfl, rfl, by decide +kernel, rfl, by decide +kernel, by decide +kernel⟩
theorem d_number_of {s_number_of s_added s_lessened s_multiplied : DSpec} {k : Nat} (h_number_of : HasG GI P w K mg base k "number_of" 2 s_number_of) (tf_SUMS : TabF GI P w K mg base k [("added", s_added), ("lessened", s_lessened), ("multiplied", s_multiplied)]) (t_SUMS : TabD K w mg "SUMS" [("+", .glo "added"), ("-", .glo "lessened"), ("*", .glo "multiplied")]) (g_ROUND : GlD K mg "ROUND" (.int 1000)) {cdv : Value} {A : Around} {outer : List Env} {s : Shared} {H : Hp} {E : XK} {f : Addr} (hr : Room k (A.deeper (envOfC "number_of" (defScope t_number_of) s.heap.objs.size f cdv))) :
    CSs GI (cxOf (L2.CX P w) P w K mg base ["side", "named", "deed"] "number_of" (defScope t_number_of) f cdv A outer s H E) (defBody t_number_of) (b_number_of K s_number_of s_added s_lessened s_multiplied) := by
  have r0 := hr.mono (Nat.zero_le k)
  have nd := sc_number_of.nd
  exact (css_cons (cs_if (ct_eq r0 (ce_idx r0 (ce_var 0) ce_int) ce_str) (css_one (cs_ret (ce_idx r0 (ce_var 0) ce_int))) css_nil)
  (css_cons (cs_if (ct_eq r0 (ce_idx r0 (ce_var 0) ce_int) ce_str) (css_one (cs_ret (ce_get2 r0 (ce_var 1) (ce_idx r0 (ce_var 0) ce_int) ce_int))) css_nil)
  (css_cons (cs_asg 2 (ce_tab t_SUMS (ce_idx r0 (ce_var 0) ce_int)))
  (css_one (cs_ret (ce_mod (ce_callT 2 tf_SUMS hr (ca_cons (ce_call h_number_of hr (ca_cons (ce_idx r0 (ce_var 0) ce_int) (ca_cons (ce_var 1) ca_nil))) (ca_cons (ce_call h_number_of hr (ca_cons (ce_idx r0 (ce_var 0) ce_int) (ca_cons (ce_var 1) ca_nil))) ca_nil))) (ce_glob g_ROUND)))))))

abbrev t_rule_holds : Stmt := topS 16
theorem sc_rule_holds : FnScope ["rule", "boxes", "viewer", "view", "sign", "one", "other", "named", "left", "right"] ["rule", "boxes", "viewer", "view"] (defScope t_rule_holds) := ⟨rfl, rfl, rfl, by decide +kernel, rfl, by decide +kernel, by decide +kernel⟩
theorem d_rule_holds {s_named_for s_number_of : DSpec} {k : Nat} (h_named_for : HasG GI P w K mg base k "named_for" 3 s_named_for) (h_number_of : HasG GI P w K mg base k "number_of" 2 s_number_of) {cdv : Value} {A : Around} {outer : List Env} {s : Shared} {H : Hp} {E : XK} {f : Addr} (hr : Room k (A.deeper (envOfC "rule_holds" (defScope t_rule_holds) s.heap.objs.size f cdv))) :
    CSs GI (cxOf (L2.CX P w) P w K mg base ["rule", "boxes", "viewer", "view", "sign", "one", "other", "named", "left", "right"] "rule_holds" (defScope t_rule_holds) f cdv A outer s H E) (defBody t_rule_holds) (b_rule_holds s_named_for s_number_of) := by
  have r0 := hr.mono (Nat.zero_le k)
  have nd := sc_rule_holds.nd
  exact (css_cons (cs_asgG [4, 5, 6] (ce_var 0) (cg_tup 3 rfl (cgs_cons (cg_name 4) (cgs_cons (cg_name 5) (cgs_cons (cg_name 6) cgs_nil)))))
  (css_cons (cs_asg 7 (ce_call h_named_for hr (ca_cons (ce_var 1) (ca_cons (ce_var 2) (ca_cons (ce_var 3) ca_nil)))))
  (css_cons (cs_asg 8 (ce_call h_number_of hr (ca_cons (ce_var 5) (ca_cons (ce_var 7) ca_nil))))
  (css_cons (cs_asg 9 (ce_call h_number_of hr (ca_cons (ce_var 6) (ca_cons (ce_var 7) ca_nil))))
  (css_one (cs_ret (ce_if (ct_eq r0 (ce_var 4) ce_str) (ce_eq r0 (ce_var 8) (ce_var 9)) (ce_lt (ce_var 8) (ce_var 9)))))))))

abbrev t_law_by_numbers : Stmt := topS 40
theorem sc_law_by_numbers : FnScope ["rules", "boxes", "viewer", "seer", "seen", "name", "worth", "pair", "rule"] ["rules", "boxes", "viewer", "seer"] (defScope t_law_by_numbers) := ⟨rfl, rfl, rfl, by decide +kernel, rfl, by decide +kernel, by decide +kernel⟩
theorem d_law_by_numbers {s_seen_by s_rule_holds : DSpec} {k : Nat} (h_seen_by : HasG GI P w K mg base k "seen_by" 2 s_seen_by) (h_rule_holds : HasG GI P w K mg base k "rule_holds" 4 s_rule_holds) {cdv : Value} {A : Around} {outer : List Env} {s : Shared} {H : Hp} {E : XK} {f : Addr} (hr : Room k (A.deeper (envOfC "_law_by_numbers" (defScope t_law_by_numbers) s.heap.objs.size f cdv))) :
    CSs GI (cxOf (L2.CX P w) P w K mg base ["rules", "boxes", "viewer", "seer", "seen", "name", "worth", "pair", "rule"] "_law_by_numbers" (defScope t_law_by_numbers) f cdv A outer s H E) (defBody t_law_by_numbers) (b_law_by_numbers s_seen_by s_rule_holds) := by
  have r0 := hr.mono (Nat.zero_le k)
  have nd := sc_law_by_numbers.nd
  exact (css_cons (cs_setcomp false 4 [("name", 5), ("worth", 6)] nd rfl (ci_any (ce_var 1)) (blkOk_by (N := ["rules", "boxes", "viewer", "seer", "seen", "name", "worth", "pair", "rule"]) (sc := defScope t_law_by_numbers) (own := [("name", 5), ("worth", 6)]) (by decide +kernel)) (fun _ _ _ _ _ => (cg_tup 2 rfl (cgs_cons (cg_name 5) (cgs_cons (cg_name 6) cgs_nil)))) (fun _ _ _ _ _ => cts_nil) (fun _ _ _ _ _ => (ce_tup (ca_cons (ce_var 5) (ca_cons (ce_call h_seen_by hr (ca_cons (ce_var 6) (ca_cons (ce_var 3) ca_nil))) ca_nil)))))
  (css_cons (cs_setcomp false 4 [("pair", 7)] nd rfl (ci_any (ce_var 4)) (blkOk_by (N := ["rules", "boxes", "viewer", "seer", "seen", "name", "worth", "pair", "rule"]) (sc := defScope t_law_by_numbers) (own := [("pair", 7)]) (by decide +kernel)) (fun _ _ _ _ _ => (cg_name 7)) (fun _ _ _ _ _ => (cts_one (ct_ne r0 (ce_idx r0 (ce_var 7) ce_int) ce_int))) (fun _ _ _ _ _ => (ce_var 7)))
  (css_cons (cs_for [8] rfl (ci_any (ce_var 0)) (cg_name 8) (css_one (cs_if (ct_ne r0 (ce_call h_rule_holds hr (ca_cons (ce_var 8) (ca_cons (ce_var 1) (ca_cons (ce_var 2) (ca_cons (ce_var 3) ca_nil))))) (ce_call h_rule_holds hr (ca_cons (ce_var 8) (ca_cons (ce_var 4) (ca_cons (ce_var 2) (ca_cons (ce_lst false ca_nil) ca_nil)))))) (css_one (cs_ret ce_bl)) css_nil)))
  (css_one (cs_ret ce_bl)))))

abbrev t_law_seen : Stmt := topS 30
theorem sc_law_seen : FnScope ["worth", "seer"] ["worth", "seer"] (defScope t_law_seen) := ⟨rfl, rfl, rfl, by decide +kernel, rfl, by decide +kernel, by decide +kernel⟩
theorem d_law_seen {k : Nat} (m_int : mg "int" = none) (m_isinstance : mg "isinstance" = none) {cdv : Value} {A : Around} {outer : List Env} {s : Shared} {H : Hp} {E : XK} {f : Addr} (hr : Room k (A.deeper (envOfC "_law_seen" (defScope t_law_seen) s.heap.objs.size f cdv))) :
    CSs GI (cxOf (L2.CX P w) P w K mg base ["worth", "seer"] "_law_seen" (defScope t_law_seen) f cdv A outer s H E) (defBody t_law_seen) (b_law_seen) := by
  have r0 := hr.mono (Nat.zero_le k)
  have nd := sc_law_seen.nd
  exact (css_cons (cs_while (ct_not (ct_val (ce_isi m_isinstance (ca_cons (ce_var 0) (ca_cons (ce_bty m_int) ca_nil))))) (css_one (cs_asg 0 (ce_idx r0 (ce_var 0) (ce_add false ce_int (ce_intc m_int (ca_cons (ce_ni r0 (ce_idx r0 (ce_var 0) ce_int) (ce_var 1)) ca_nil)))))))
  (css_one (cs_ret (ce_var 0))))

abbrev t_law_faced : Stmt := topS 43
theorem sc_law_faced : FnScope ["mark", "seen", "other", "numbers", "bits", "having", "k"] ["mark", "seen", "other"] (defScope t_law_faced) := ⟨rfl, rfl, rfl, by decide +kernel, rfl, by decide +kernel, by decide +kernel⟩
theorem d_law_faced {s_law_seen s_law_least : DSpec} {k : Nat} (h_law_seen : HasG GI P w K mg base k "_law_seen" 2 s_law_seen) (h_law_least : HasG GI P w K mg base k "_law_least" 2 s_law_least) (m_range : mg "range" = none) (m_int : mg "int" = none) {cdv : Value} {A : Around} {outer : List Env} {s : Shared} {H : Hp} {E : XK} {f : Addr} (hr : Room k (A.deeper (envOfC "_law_faced" (defScope t_law_faced) s.heap.objs.size f cdv))) :
    CSs GI (cxOf (L2.CX P w) P w K mg base ["mark", "seen", "other", "numbers", "bits", "having", "k"] "_law_faced" (defScope t_law_faced) f cdv A outer s H E) (defBody t_law_faced) (b_law_faced s_law_seen s_law_least) := by
  have r0 := hr.mono (Nat.zero_le k)
  have nd := sc_law_faced.nd
  exact (css_cons (cs_asg 3 (ce_lst true ca_nil))
  (css_cons (cs_for [4] rfl (ci_range1 m_range (ca_cons ce_int ca_nil)) (cg_name 4) (css_cons (cs_setcomp false 5 [("k", 6)] nd rfl (ci_range1 m_range (ca_cons ce_int ca_nil)) (blkOk_by (N := ["mark", "seen", "other", "numbers", "bits", "having", "k"]) (sc := defScope t_law_faced) (own := [("k", 6)]) (by decide +kernel)) (fun _ _ _ _ _ => (cg_name 6)) (fun _ _ _ _ _ => (cts_one (ct_eq r0 (ce_band (ce_shr (ce_var 4) (ce_var 6)) ce_int) ce_int))) (fun _ _ _ _ _ => (ce_var 6)))
  (css_one (cs_expr (ce_append (ce_var 3) (ca_cons (ce_call h_law_seen hr (ca_cons (ce_idx r0 (ce_lst false (ca_cons (ce_var 2) (ca_cons (ce_var 1) ca_nil))) (ce_intc m_int (ca_cons (ce_in r0 (ce_var 0) (ce_var 5)) ca_nil))) (ca_cons (ce_var 5) ca_nil))) ca_nil))))))
  (css_one (cs_ret (ce_call h_law_least hr (ca_cons (ce_frz (ce_var 3)) (ca_cons (ce_lst false (ca_cons ce_int (ca_cons ce_int (ca_cons ce_int (ca_cons ce_int (ca_cons ce_int (ca_cons ce_int ca_nil))))))) ca_nil)))))))

abbrev t_law_others_changed : Stmt := topS 42
theorem sc_law_others_changed : FnScope ["bag", "boxes", "seer", "found", "name", "worth", "other", "changed", "mark", "pair"] ["bag", "boxes", "seer"] (defScope t_law_others_changed) := ⟨rfl, rfl, rfl, by decide +kernel, rfl, by decide +kernel, by decide +kernel⟩
theorem d_law_others_changed {s_law_worth s_law_faced : DSpec} {k : Nat} (h_law_worth : HasG GI P w K mg base k "_law_worth" 2 s_law_worth) (h_law_faced : HasG GI P w K mg base k "_law_faced" 3 s_law_faced) (m_range : mg "range" = none) {cdv : Value} {A : Around} {outer : List Env} {s : Shared} {H : Hp} {E : XK} {f : Addr} (hr : Room k (A.deeper (envOfC "_law_others_changed" (defScope t_law_others_changed) s.heap.objs.size f cdv))) :
    CSs GI (cxOf (L2.CX P w) P w K mg base ["bag", "boxes", "seer", "found", "name", "worth", "other", "changed", "mark", "pair"] "_law_others_changed" (defScope t_law_others_changed) f cdv A outer s H E) (defBody t_law_others_changed) (b_law_others_changed s_law_worth s_law_faced) := by
  have r0 := hr.mono (Nat.zero_le k)
  have nd := sc_law_others_changed.nd
  exact (css_cons (cs_asg 3 (ce_lst true ca_nil))
  (css_cons (cs_for [4, 5] rfl (ci_any (ce_var 1)) (cg_tup 2 rfl (cgs_cons (cg_name 4) (cgs_cons (cg_name 5) cgs_nil))) (css_cons (cs_asg 6 (ce_call h_law_worth hr (ca_cons (ce_var 0) (ca_cons ce_int ca_nil))))
  (css_cons (cs_asg 7 (ce_var 5))
  (css_cons (cs_for [8] rfl (ci_range3 m_range (ca_cons ce_int (ca_cons (ce_neg ce_int) (ca_cons (ce_neg ce_int) ca_nil)))) (cg_name 8) (css_one (cs_if (ct_in r0 (ce_var 8) (ce_var 2)) (css_one (cs_asg 7 (ce_call h_law_faced hr (ca_cons (ce_var 8) (ca_cons (ce_var 7) (ca_cons (ce_var 6) ca_nil)))))) (css_one (cs_asg 7 (ce_call h_law_faced hr (ca_cons (ce_var 8) (ca_cons (ce_var 6) (ca_cons (ce_var 7) ca_nil)))))))))
  (css_one (cs_expr (ce_append (ce_var 3) (ca_cons (ce_tup (ca_cons (ce_var 4) (ca_cons (ce_var 7) ca_nil))) ca_nil))))))))
  (css_one (cs_ret (ce_comp false [("pair", 9)] nd rfl (ci_any (ce_var 3)) (blkOk_by (N := ["bag", "boxes", "seer", "found", "name", "worth", "other", "changed", "mark", "pair"]) (sc := defScope t_law_others_changed) (own := [("pair", 9)]) (by decide +kernel)) (fun _ _ _ _ _ => (cg_name 9)) (fun _ _ _ _ _ => (cts_one (ct_ne r0 (ce_idx r0 (ce_var 9) ce_int) ce_int))) (fun _ _ _ _ _ => (ce_var 9)))))))

abbrev t_need_viewer : Stmt := topS 17
theorem sc_need_viewer : FnScope ["viewer"] ["viewer"] (defScope t_need_viewer) := ⟨rfl, rfl, rfl, by decide +kernel, rfl, by decide +kernel, by decide +kernel⟩
theorem d_need_viewer {k : Nat} (e_NoNumber : ExcD K mg "NoNumber") (g_MOST_VIEWER : GlD K mg "MOST_VIEWER" (.int 9)) {cdv : Value} {A : Around} {outer : List Env} {s : Shared} {H : Hp} {E : XK} {f : Addr} (hr : Room k (A.deeper (envOfC "need_viewer" (defScope t_need_viewer) s.heap.objs.size f cdv))) :
    CSs GI (cxOf (L2.CX P w) P w K mg base ["viewer"] "need_viewer" (defScope t_need_viewer) f cdv A outer s H E) (defBody t_need_viewer) (b_need_viewer K) := by
  have r0 := hr.mono (Nat.zero_le k)
  have nd := sc_need_viewer.nd
  exact (css_one (cs_if (cw_or (ct_lt (ce_var 0) ce_int) (cw_or1 (ct_gt (ce_var 0) (ce_glob g_MOST_VIEWER)))).ct (css_one (cs_raise e_NoNumber rfl)) css_nil))

abbrev t_need_view : Stmt := topS 18
theorem sc_need_view : FnScope ["view", "many", "mark"] ["view", "many"] (defScope t_need_view) := ⟨rfl, rfl, rfl, by decide +kernel, rfl, by decide +kernel, by decide +kernel⟩
theorem d_need_view {k : Nat} (m_sorted : mg "sorted" = none) (m_set : mg "set" = none) (e_NoMark : ExcD K mg "NoMark") {cdv : Value} {A : Around} {outer : List Env} {s : Shared} {H : Hp} {E : XK} {f : Addr} (hr : Room k (A.deeper (envOfC "need_view" (defScope t_need_view) s.heap.objs.size f cdv))) :
    CSs GI (cxOf (L2.CX P w) P w K mg base ["view", "many", "mark"] "need_view" (defScope t_need_view) f cdv A outer s H E) (defBody t_need_view) (b_need_view K) := by
  have r0 := hr.mono (Nat.zero_le k)
  have nd := sc_need_view.nd
  exact (css_one (cs_if (cw_or (ct_ne r0 (ce_var 0) (ce_sorSet false rfl m_sorted m_set (ce_var 0))) (cw_or1 (ct_ne r0 (ce_comp false [("mark", 2)] nd rfl (ci_any (ce_var 0)) (blkOk_by (N := ["view", "many", "mark"]) (sc := defScope t_need_view) (own := [("mark", 2)]) (by decide +kernel)) (fun _ _ _ _ _ => (cg_name 2)) (fun _ _ _ _ _ => (cts_one (cw_or (ct_lt (ce_var 2) ce_int) (cw_or1 (ct_ge (ce_var 2) (ce_var 1)))).ct)) (fun _ _ _ _ _ => (ce_var 2))) (ce_lst false ca_nil)))).ct (css_one (cs_raise e_NoMark rfl)) css_nil))

abbrev t_all_hold : Stmt := topS 20
theorem sc_all_hold : FnScope ["rules", "boxes", "viewer", "view", "mark"] ["rules", "boxes", "viewer", "view"] (defScope t_all_hold) := ⟨rfl, rfl, rfl, by decide +kernel, rfl, by decide +kernel, by decide +kernel⟩
theorem d_all_hold {s_rule_holds : DSpec} {k : Nat} (h_rule_holds : HasG GI P w K mg base k "rule_holds" 4 s_rule_holds) (m_all : mg "all" = none) {cdv : Value} {A : Around} {outer : List Env} {s : Shared} {H : Hp} {E : XK} {f : Addr} (hr : Room k (A.deeper (envOfC "all_hold" (defScope t_all_hold) s.heap.objs.size f cdv))) :
    CSs GI (cxOf (L2.CX P w) P w K mg base ["rules", "boxes", "viewer", "view", "mark"] "all_hold" (defScope t_all_hold) f cdv A outer s H E) (defBody t_all_hold) (b_all_hold s_rule_holds) := by
  have r0 := hr.mono (Nat.zero_le k)
  have nd := sc_all_hold.nd
  exact (css_one (cs_ret (ce_all rfl m_all (ca_cons (ce_comp false [("mark", 4)] nd rfl (ci_any (ce_var 3)) (blkOk_by (N := ["rules", "boxes", "viewer", "view", "mark"]) (sc := defScope t_all_hold) (own := [("mark", 4)]) (by decide +kernel)) (fun _ _ _ _ _ => (cg_name 4)) (fun _ _ _ _ _ => cts_nil) (fun _ _ _ _ _ => (ce_call h_rule_holds hr (ca_cons (ce_idx r0 (ce_var 0) (ce_var 4)) (ca_cons (ce_var 1) (ca_cons (ce_var 2) (ca_cons (ce_var 3) ca_nil))))))) ca_nil))))

abbrev t_is_let : Stmt := topS 21
theorem sc_is_let : FnScope ["rules", "boxes", "viewer", "view"] ["rules", "boxes", "viewer", "view"] (defScope t_is_let) := ⟨rfl, rfl, rfl, by decide +kernel, rfl, by decide +kernel, by decide +kernel⟩
theorem d_is_let {s_need_viewer s_need_view s_all_hold : DSpec} {k : Nat} (h_need_viewer : HasG GI P w K mg base k "need_viewer" 1 s_need_viewer) (h_need_view : HasG GI P w K mg base k "need_view" 2 s_need_view) (h_all_hold : HasG GI P w K mg base k "all_hold" 4 s_all_hold) (m_len : mg "len" = none) {cdv : Value} {A : Around} {outer : List Env} {s : Shared} {H : Hp} {E : XK} {f : Addr} (hr : Room k (A.deeper (envOfC "is_let" (defScope t_is_let) s.heap.objs.size f cdv))) :
    CSs GI (cxOf (L2.CX P w) P w K mg base ["rules", "boxes", "viewer", "view"] "is_let" (defScope t_is_let) f cdv A outer s H E) (defBody t_is_let) (b_is_let s_need_viewer s_need_view s_all_hold) := by
  have r0 := hr.mono (Nat.zero_le k)
  have nd := sc_is_let.nd
  exact (css_cons (cs_expr (ce_call h_need_viewer hr (ca_cons (ce_var 2) ca_nil)))
  (css_cons (cs_expr (ce_call h_need_view hr (ca_cons (ce_var 3) (ca_cons (ce_len m_len (ca_cons (ce_var 0) ca_nil)) ca_nil))))
  (css_one (cs_ret (ce_call h_all_hold hr (ca_cons (ce_var 0) (ca_cons (ce_var 1) (ca_cons (ce_var 2) (ca_cons (ce_var 3) ca_nil)))))))))

abbrev t_views_of : Stmt := topS 19
theorem sc_views_of : FnScope ["many", "found", "mark", "view"] ["many"] (defScope t_views_of) := ⟨rfl, rfl, rfl, by decide +kernel, rfl, by decide +kernel, by decide +kernel⟩
theorem d_views_of {k : Nat} (m_range : mg "range" = none) (m_sorted : mg "sorted" = none) {cdv : Value} {A : Around} {outer : List Env} {s : Shared} {H : Hp} {E : XK} {f : Addr} (hr : Room k (A.deeper (envOfC "views_of" (defScope t_views_of) s.heap.objs.size f cdv))) :
    CSs GI (cxOf (L2.CX P w) P w K mg base ["many", "found", "mark", "view"] "views_of" (defScope t_views_of) f cdv A outer s H E) (defBody t_views_of) (b_views_of) := by
  have r0 := hr.mono (Nat.zero_le k)
  have nd := sc_views_of.nd
  exact (css_cons (cs_asg 1 (ce_lst false (ca_cons (ce_lst false ca_nil) ca_nil)))
  (css_cons (cs_for [2] rfl (ci_range1 m_range (ca_cons (ce_var 0) ca_nil)) (cg_name 2) (css_one (cs_asg 1 (ce_add false (ce_var 1) (ce_comp false [("view", 3)] nd rfl (ci_any (ce_var 1)) (blkOk_by (N := ["many", "found", "mark", "view"]) (sc := defScope t_views_of) (own := [("view", 3)]) (by decide +kernel)) (fun _ _ _ _ _ => (cg_name 3)) (fun _ _ _ _ _ => cts_nil) (fun _ _ _ _ _ => (ce_add false (ce_var 3) (ce_lst false (ca_cons (ce_var 2) ca_nil)))))))))
  (css_one (cs_ret (ce_sortedD false r0 m_sorted (ca_cons (ce_var 1) ca_nil))))))

abbrev t_let_views : Stmt := topS 22
theorem sc_let_views : FnScope ["rules", "boxes", "viewer", "view"] ["rules", "boxes", "viewer"] (defScope t_let_views) := ⟨rfl, rfl, rfl, by decide +kernel, rfl, by decide +kernel, by decide +kernel⟩
theorem d_let_views {s_need_viewer s_views_of s_all_hold : DSpec} {k : Nat} (h_need_viewer : HasG GI P w K mg base k "need_viewer" 1 s_need_viewer) (h_views_of : HasG GI P w K mg base k "views_of" 1 s_views_of) (h_all_hold : HasG GI P w K mg base k "all_hold" 4 s_all_hold) (m_len : mg "len" = none) {cdv : Value} {A : Around} {outer : List Env} {s : Shared} {H : Hp} {E : XK} {f : Addr} (hr : Room k (A.deeper (envOfC "let_views" (defScope t_let_views) s.heap.objs.size f cdv))) :
    CSs GI (cxOf (L2.CX P w) P w K mg base ["rules", "boxes", "viewer", "view"] "let_views" (defScope t_let_views) f cdv A outer s H E) (defBody t_let_views) (b_let_views s_need_viewer s_views_of s_all_hold) := by
  have r0 := hr.mono (Nat.zero_le k)
  have nd := sc_let_views.nd
  exact (css_cons (cs_expr (ce_call h_need_viewer hr (ca_cons (ce_var 2) ca_nil)))
  (css_one (cs_ret (ce_comp false [("view", 3)] nd rfl (ci_any (ce_call h_views_of hr (ca_cons (ce_len m_len (ca_cons (ce_var 0) ca_nil)) ca_nil))) (blkOk_by (N := ["rules", "boxes", "viewer", "view"]) (sc := defScope t_let_views) (own := [("view", 3)]) (by decide +kernel)) (fun _ _ _ _ _ => (cg_name 3)) (fun _ _ _ _ _ => (cts_one (ct_val (ce_call h_all_hold hr (ca_cons (ce_var 0) (ca_cons (ce_var 1) (ca_cons (ce_var 2) (ca_cons (ce_var 3) ca_nil)))))))) (fun _ _ _ _ _ => (ce_var 3))))))

abbrev t_view_for : Stmt := topS 23
theorem sc_view_for : FnScope ["rules", "boxes", "viewer", "left", "mark", "some", "view"] ["rules", "boxes", "viewer"] (defScope t_view_for) := ⟨rfl, rfl, rfl, by decide +kernel, rfl, by decide +kernel, by decide +kernel⟩
theorem d_view_for {s_let_views : DSpec} {k : Nat} (h_let_views : HasG GI P w K mg base k "let_views" 3 s_let_views) (m_len : mg "len" = none) (m_range : mg "range" = none) {cdv : Value} {A : Around} {outer : List Env} {s : Shared} {H : Hp} {E : XK} {f : Addr} (hr : Room k (A.deeper (envOfC "view_for" (defScope t_view_for) s.heap.objs.size f cdv))) :
    CSs GI (cxOf (L2.CX P w) P w K mg base ["rules", "boxes", "viewer", "left", "mark", "some", "view"] "view_for" (defScope t_view_for) f cdv A outer s H E) (defBody t_view_for) (b_view_for s_let_views) := by
  have r0 := hr.mono (Nat.zero_le k)
  have nd := sc_view_for.nd
  exact (css_cons (cs_asg 3 (ce_call h_let_views hr (ca_cons (ce_var 0) (ca_cons (ce_var 1) (ca_cons (ce_var 2) ca_nil)))))
  (css_cons (cs_for [4] rfl (ci_range1 m_range (ca_cons (ce_len m_len (ca_cons (ce_var 0) ca_nil)) ca_nil)) (cg_name 4) (css_cons (cs_setcomp false 5 [("view", 6)] nd rfl (ci_any (ce_var 3)) (blkOk_by (N := ["rules", "boxes", "viewer", "left", "mark", "some", "view"]) (sc := defScope t_view_for) (own := [("view", 6)]) (by decide +kernel)) (fun _ _ _ _ _ => (cg_name 6)) (fun _ _ _ _ _ => (cts_one (ct_in r0 (ce_var 4) (ce_var 6)))) (fun _ _ _ _ _ => (ce_var 6)))
  (css_one (cs_if (ct_ne r0 (ce_var 5) (ce_lst false ca_nil)) (css_one (cs_asg 3 (ce_var 5))) css_nil))))
  (css_one (cs_ret (ce_idx r0 (ce_var 3) ce_int)))))

abbrev t_law_more : Stmt := topS 41
theorem sc_law_more : FnScope ["rules", "boxes", "viewer", "let", "own", "one", "more", "last", "seer", "less"] ["rules", "boxes", "viewer"] (defScope t_law_more) := ⟨rfl, rfl, rfl, by decide +kernel, rfl, by decide +kernel, by decide +kernel⟩
theorem d_law_more {s_let_views s_view_for : DSpec} {k : Nat} (h_let_views : HasG GI P w K mg base k "let_views" 3 s_let_views) (h_view_for : HasG GI P w K mg base k "view_for" 3 s_view_for) (m_len : mg "len" = none) (m_sorted : mg "sorted" = none) {cdv : Value} {A : Around} {outer : List Env} {s : Shared} {H : Hp} {E : XK} {f : Addr} (hr : Room k (A.deeper (envOfC "_law_more" (defScope t_law_more) s.heap.objs.size f cdv))) :
    CSs GI (cxOf (L2.CX P w) P w K mg base ["rules", "boxes", "viewer", "let", "own", "one", "more", "last", "seer", "less"] "_law_more" (defScope t_law_more) f cdv A outer s H E) (defBody t_law_more) (b_law_more s_let_views s_view_for) := by
  have r0 := hr.mono (Nat.zero_le k)
  have nd := sc_law_more.nd
  exact (css_cons (cs_asg 3 (ce_call h_let_views hr (ca_cons (ce_var 0) (ca_cons (ce_var 1) (ca_cons (ce_var 2) ca_nil)))))
  (css_cons (cs_asg 4 (ce_call h_view_for hr (ca_cons (ce_var 0) (ca_cons (ce_var 1) (ca_cons (ce_var 2) ca_nil)))))
  (css_cons (cs_asg 5 (ce_tup (ca_cons ce_str (ca_cons (ce_var 2) ca_nil))))
  (css_cons (cs_asg 6 (ce_add false (ce_var 0) (ce_lst false (ca_cons (ce_tup (ca_cons ce_str (ca_cons (ce_tup (ca_cons ce_str (ca_cons ce_str ca_nil))) (ca_cons (ce_var 5) ca_nil)))) ca_nil))))
  (css_cons (cs_asg 7 (ce_len m_len (ca_cons (ce_var 0) ca_nil)))
  (css_cons (cs_if (ct_ne r0 (ce_call h_let_views hr (ca_cons (ce_var 6) (ca_cons (ce_var 1) (ca_cons (ce_var 2) ca_nil)))) (ce_sortedD false r0 m_sorted (ca_cons (ce_add false (ce_var 3) (ce_comp false [("seer", 8)] nd rfl (ci_any (ce_var 3)) (blkOk_by (N := ["rules", "boxes", "viewer", "let", "own", "one", "more", "last", "seer", "less"]) (sc := defScope t_law_more) (own := [("seer", 8)]) (by decide +kernel)) (fun _ _ _ _ _ => (cg_name 8)) (fun _ _ _ _ _ => cts_nil) (fun _ _ _ _ _ => (ce_add false (ce_var 8) (ce_lst false (ca_cons (ce_var 7) ca_nil)))))) ca_nil))) (css_one (cs_ret ce_bl)) css_nil)
  (css_cons (cs_if (ct_ne r0 (ce_call h_view_for hr (ca_cons (ce_var 6) (ca_cons (ce_var 1) (ca_cons (ce_var 2) ca_nil)))) (ce_add false (ce_var 4) (ce_lst false (ca_cons (ce_var 7) ca_nil)))) (css_one (cs_ret ce_bl)) css_nil)
  (css_cons (cs_asg 9 (ce_add false (ce_var 0) (ce_lst false (ca_cons (ce_tup (ca_cons ce_str (ca_cons (ce_tup (ca_cons ce_str (ca_cons ce_str ca_nil))) (ca_cons (ce_var 5) ca_nil)))) ca_nil))))
  (css_one (cs_ret (ce_and (ce_eq r0 (ce_call h_let_views hr (ca_cons (ce_var 9) (ca_cons (ce_var 1) (ca_cons (ce_var 2) ca_nil)))) (ce_var 3)) (ce_bone (ce_eq r0 (ce_call h_view_for hr (ca_cons (ce_var 9) (ca_cons (ce_var 1) (ca_cons (ce_var 2) ca_nil)))) (ce_var 4))))))))))))))

abbrev t_law : Stmt := topS 44
theorem sc_law : FnScope ["script", "bag", "marks", "names", "rules", "mark", "viewer", "boxes", "seer", "changed", "own"] ["script"] (defScope t_law) := ⟨rfl, rfl, rfl, by decide +kernel, rfl, by decide +kernel, by decide +kernel⟩
theorem d_law {s_law_bag s_law_marks s_law_names s_law_rule s_law_draw s_law_some_boxes s_law_by_numbers s_law_others_changed s_is_let s_view_for s_let_views s_law_more : DSpec} {k : Nat} (h_law_bag : HasG GI P w K mg base k "_law_bag" 1 s_law_bag) (h_law_marks : HasG GI P w K mg base k "_law_marks" 1 s_law_marks) (h_law_names : HasG GI P w K mg base k "_law_names" 1 s_law_names) (h_law_rule : HasG GI P w K mg base k "_law_rule" 2 s_law_rule) (h_law_draw : HasG GI P w K mg base k "_law_draw" 2 s_law_draw) (h_law_some_boxes : HasG GI P w K mg base k "_law_some_boxes" 3 s_law_some_boxes) (h_law_by_numbers : HasG GI P w K mg base k "_law_by_numbers" 4 s_law_by_numbers) (h_law_others_changed : HasG GI P w K mg base k "_law_others_changed" 3 s_law_others_changed) (h_is_let : HasG GI P w K mg base k "is_let" 4 s_is_let) (h_view_for : HasG GI P w K mg base k "view_for" 3 s_view_for) (h_let_views : HasG GI P w K mg base k "let_views" 3 s_let_views) (h_law_more : HasG GI P w K mg base k "_law_more" 3 s_law_more) (m_min : mg "min" = none) (m_range : mg "range" = none) {cdv : Value} {A : Around} {outer : List Env} {s : Shared} {H : Hp} {E : XK} {f : Addr} (hr : Room k (A.deeper (envOfC "law" (defScope t_law) s.heap.objs.size f cdv))) :
    CSs GI (cxOf (L2.CX P w) P w K mg base ["script", "bag", "marks", "names", "rules", "mark", "viewer", "boxes", "seer", "changed", "own"] "law" (defScope t_law) f cdv A outer s H E) (defBody t_law) (b_law s_law_bag s_law_marks s_law_names s_law_rule s_law_draw s_law_some_boxes s_law_by_numbers s_law_others_changed s_is_let s_view_for s_let_views s_law_more) := by
  have r0 := hr.mono (Nat.zero_le k)
  have nd := sc_law.nd
  exact (css_cons (cs_asg 1 (ce_call h_law_bag hr (ca_cons (ce_var 0) ca_nil)))
  (css_cons (cs_asg 2 (ce_min2 rfl m_min (ca_cons ce_int (ca_cons (ce_call h_law_marks hr (ca_cons (ce_var 1) ca_nil)) ca_nil))))
  (css_cons (cs_asg 3 (ce_call h_law_names hr (ca_cons (ce_var 1) ca_nil)))
  (css_cons (cs_setcomp true 4 [("mark", 5)] nd rfl (ci_range1 m_range (ca_cons (ce_var 2) ca_nil)) (blkOk_by (N := ["script", "bag", "marks", "names", "rules", "mark", "viewer", "boxes", "seer", "changed", "own"]) (sc := defScope t_law) (own := [("mark", 5)]) (by decide +kernel)) (fun _ _ _ _ _ => (cg_name 5)) (fun _ _ _ _ _ => cts_nil) (fun _ _ _ _ _ => (ce_call h_law_rule hr (ca_cons (ce_var 1) (ca_cons (ce_var 3) ca_nil)))))
  (css_cons (cs_if (cw_and (ct_gt (ce_var 2) ce_int) (cw_and1 (ct_eq r0 (ce_call h_law_draw hr (ca_cons (ce_var 1) (ca_cons ce_int ca_nil))) ce_int))).ct (css_one (cs_set r0 (ce_var 4) (ce_call h_law_draw hr (ca_cons (ce_var 1) (ca_cons (ce_var 2) ca_nil))) (ce_idx r0 (ce_var 4) (ce_call h_law_draw hr (ca_cons (ce_var 1) (ca_cons (ce_var 2) ca_nil)))))) css_nil)
  (css_cons (cs_asg 6 (ce_call h_law_draw hr (ca_cons (ce_var 1) (ca_cons ce_int ca_nil))))
  (css_cons (cs_asg 7 (ce_call h_law_some_boxes hr (ca_cons (ce_var 1) (ca_cons (ce_var 3) (ca_cons ce_int ca_nil)))))
  (css_cons (cs_setcomp false 8 [("mark", 5)] nd rfl (ci_range1 m_range (ca_cons (ce_var 2) ca_nil)) (blkOk_by (N := ["script", "bag", "marks", "names", "rules", "mark", "viewer", "boxes", "seer", "changed", "own"]) (sc := defScope t_law) (own := [("mark", 5)]) (by decide +kernel)) (fun _ _ _ _ _ => (cg_name 5)) (fun _ _ _ _ _ => (cts_one (ct_eq r0 (ce_call h_law_draw hr (ca_cons (ce_var 1) (ca_cons ce_int ca_nil))) ce_int))) (fun _ _ _ _ _ => (ce_var 5)))
  (css_cons (cs_if (ct_not (ct_val (ce_call h_law_by_numbers hr (ca_cons (ce_var 4) (ca_cons (ce_var 7) (ca_cons (ce_var 6) (ca_cons (ce_var 8) ca_nil))))))) (css_one (cs_ret ce_bl)) css_nil)
  (css_cons (cs_asg 9 (ce_call h_law_others_changed hr (ca_cons (ce_var 1) (ca_cons (ce_var 7) (ca_cons (ce_var 8) ca_nil)))))
  (css_cons (cs_if (ct_ne r0 (ce_call h_is_let hr (ca_cons (ce_var 4) (ca_cons (ce_var 9) (ca_cons (ce_var 6) (ca_cons (ce_var 8) ca_nil))))) (ce_call h_is_let hr (ca_cons (ce_var 4) (ca_cons (ce_var 7) (ca_cons (ce_var 6) (ca_cons (ce_var 8) ca_nil)))))) (css_one (cs_ret ce_bl)) css_nil)
  (css_cons (cs_asg 10 (ce_call h_view_for hr (ca_cons (ce_var 4) (ca_cons (ce_var 7) (ca_cons (ce_var 6) ca_nil)))))
  (css_cons (cs_if (cw_or (ct_niD r0 (ce_var 10) (ce_call h_let_views hr (ca_cons (ce_var 4) (ca_cons (ce_var 7) (ca_cons (ce_var 6) ca_nil))))) (cw_or1 (ct_not (ct_val (ce_call h_is_let hr (ca_cons (ce_var 4) (ca_cons (ce_var 7) (ca_cons (ce_var 6) (ca_cons (ce_var 10) ca_nil))))))))).ct (css_one (cs_ret ce_bl)) css_nil)
  (css_one (cs_ret (ce_call h_law_more hr (ca_cons (ce_var 4) (ca_cons (ce_call h_law_some_boxes hr (ca_cons (ce_var 1) (ca_cons (ce_var 3) (ca_cons (ce_var 2) ca_nil)))) (ca_cons (ce_var 6) ca_nil)))))))))))))))))))
end
def mksH : Mks := []
theorem link {l : PySem.W.OpenLaw} {w : World} {K : PySem.W.Frag} {h : Heap} {mg : Str → Option Value} {fa : Addr} (X : K.In h) (G : h.Ns mainGlobals mg) (hfa : mg "law" = some (.ref fa)) (nd : ndM mksH K = true)
    (q_law_bag : ∃ f fd, DefAt K "_law_bag" "_law_bag" t_law_bag f fd)
    (q_law_stir : ∃ f fd, DefAt K "_law_stir" "_law_stir" t_law_stir f fd)
    (q_law_draw : ∃ f fd, DefAt K "_law_draw" "_law_draw" t_law_draw f fd)
    (q_law_marks : ∃ f fd, DefAt K "_law_marks" "_law_marks" t_law_marks f fd)
    (q_law_words : ∃ f fd, DefAt K "_law_words" "_law_words" t_law_words f fd)
    (q_law_names : ∃ f fd, DefAt K "_law_names" "_law_names" t_law_names f fd)
    (q_law_plain : ∃ f fd, DefAt K "_law_plain" "_law_plain" t_law_plain f fd)
    (q_law_e : ∃ f fd, DefAt K "_law_e" "_law_e" t_law_e f fd)
    (q_law_rule : ∃ f fd, DefAt K "_law_rule" "_law_rule" t_law_rule f fd)
    (q_law_least : ∃ f fd, DefAt K "_law_least" "_law_least" t_law_least f fd)
    (q_law_worth : ∃ f fd, DefAt K "_law_worth" "_law_worth" t_law_worth f fd)
    (q_law_some_boxes : ∃ f fd, DefAt K "_law_some_boxes" "_law_some_boxes" t_law_some_boxes f fd)
    (q_seen_by : ∃ f fd, DefAt K "seen_by" "seen_by" t_seen_by f fd)
    (q_named_for : ∃ f fd, DefAt K "named_for" "named_for" t_named_for f fd)
    (q_added : ∃ f fd, DefAt K "added" "added" t_added f fd)
    (q_lessened : ∃ f fd, DefAt K "lessened" "lessened" t_lessened f fd)
    (q_multiplied : ∃ f fd, DefAt K "multiplied" "multiplied" t_multiplied f fd)
    (q_number_of : ∃ f fd, DefAt K "number_of" "number_of" t_number_of f fd)
    (q_rule_holds : ∃ f fd, DefAt K "rule_holds" "rule_holds" t_rule_holds f fd)
    (q_law_by_numbers : ∃ f fd, DefAt K "_law_by_numbers" "_law_by_numbers" t_law_by_numbers f fd)
    (q_law_seen : ∃ f fd, DefAt K "_law_seen" "_law_seen" t_law_seen f fd)
    (q_law_faced : ∃ f fd, DefAt K "_law_faced" "_law_faced" t_law_faced f fd)
    (q_law_others_changed : ∃ f fd, DefAt K "_law_others_changed" "_law_others_changed" t_law_others_changed f fd)
    (q_need_viewer : ∃ f fd, DefAt K "need_viewer" "need_viewer" t_need_viewer f fd)
    (q_need_view : ∃ f fd, DefAt K "need_view" "need_view" t_need_view f fd)
    (q_all_hold : ∃ f fd, DefAt K "all_hold" "all_hold" t_all_hold f fd)
    (q_is_let : ∃ f fd, DefAt K "is_let" "is_let" t_is_let f fd)
    (q_views_of : ∃ f fd, DefAt K "views_of" "views_of" t_views_of f fd)
    (q_let_views : ∃ f fd, DefAt K "let_views" "let_views" t_let_views f fd)
    (q_view_for : ∃ f fd, DefAt K "view_for" "view_for" t_view_for f fd)
    (q_law_more : ∃ f fd, DefAt K "_law_more" "_law_more" t_law_more f fd)
    (q_law : ∃ f fd, DefAt K "law" "law" t_law f fd)
    (z_all : PySem.W.nsIn K mainGlobals "all" = some none)
    (z_dict : PySem.W.nsIn K mainGlobals "dict" = some none)
    (z_int : PySem.W.nsIn K mainGlobals "int" = some none)
    (z_isinstance : PySem.W.nsIn K mainGlobals "isinstance" = some none)
    (z_len : PySem.W.nsIn K mainGlobals "len" = some none)
    (z_list : PySem.W.nsIn K mainGlobals "list" = some none)
    (z_min : PySem.W.nsIn K mainGlobals "min" = some none)
    (z_range : PySem.W.nsIn K mainGlobals "range" = some none)
    (z_set : PySem.W.nsIn K mainGlobals "set" = some none)
    (z_sorted : PySem.W.nsIn K mainGlobals "sorted" = some none)
    (z_tuple : PySem.W.nsIn K mainGlobals "tuple" = some none)
    (g_MOST_VIEWER : ∀ mg, h.Ns mainGlobals mg → GlD K mg "MOST_VIEWER" (.int 9))
    (g_ROUND : ∀ mg, h.Ns mainGlobals mg → GlD K mg "ROUND" (.int 1000))
    (t_SUMS : ∀ mg, h.Ns mainGlobals mg → TabD K w mg "SUMS" [("+", .glo "added"), ("-", .glo "lessened"), ("*", .glo "multiplied")])
    (e_NoMark : ∀ mg, h.Ns mainGlobals mg → ExcD K mg "NoMark")
    (e_NoNumber : ∀ mg, h.Ns mainGlobals mg → ExcD K mg "NoNumber")
    : ∃ fd : FuncData, (∀ (s : Shared) (v : Value), BindsTo s fd ⟨[v], []⟩ [("script", v)]) ∧ ∀ base : Heap, K.In base → base.Ns mainGlobals mg → (∀ p ∈ csM K mksH, LamX.TabB base mg p.1 p.2) → FnOk l.prog w K mg base (L2.CX l.prog w) 11 fa fd ["script"] (lowSp K (GIT (tabsM K mksH)) sp_law) := by
  obtain ⟨f_law_bag, fd_law_bag, q_law_bag⟩ := q_law_bag
  obtain ⟨f_law_stir, fd_law_stir, q_law_stir⟩ := q_law_stir
  obtain ⟨f_law_draw, fd_law_draw, q_law_draw⟩ := q_law_draw
  obtain ⟨f_law_marks, fd_law_marks, q_law_marks⟩ := q_law_marks
  obtain ⟨f_law_words, fd_law_words, q_law_words⟩ := q_law_words
  obtain ⟨f_law_names, fd_law_names, q_law_names⟩ := q_law_names
  obtain ⟨f_law_plain, fd_law_plain, q_law_plain⟩ := q_law_plain
  obtain ⟨f_law_e, fd_law_e, q_law_e⟩ := q_law_e
  obtain ⟨f_law_rule, fd_law_rule, q_law_rule⟩ := q_law_rule
  obtain ⟨f_law_least, fd_law_least, q_law_least⟩ := q_law_least
  obtain ⟨f_law_worth, fd_law_worth, q_law_worth⟩ := q_law_worth
  obtain ⟨f_law_some_boxes, fd_law_some_boxes, q_law_some_boxes⟩ := q_law_some_boxes
  obtain ⟨f_seen_by, fd_seen_by, q_seen_by⟩ := q_seen_by
  obtain ⟨f_named_for, fd_named_for, q_named_for⟩ := q_named_for
  obtain ⟨f_added, fd_added, q_added⟩ := q_added
  obtain ⟨f_lessened, fd_lessened, q_lessened⟩ := q_lessened
  obtain ⟨f_multiplied, fd_multiplied, q_multiplied⟩ := q_multiplied
  obtain ⟨f_number_of, fd_number_of, q_number_of⟩ := q_number_of
  obtain ⟨f_rule_holds, fd_rule_holds, q_rule_holds⟩ := q_rule_holds
  obtain ⟨f_law_by_numbers, fd_law_by_numbers, q_law_by_numbers⟩ := q_law_by_numbers
  obtain ⟨f_law_seen, fd_law_seen, q_law_seen⟩ := q_law_seen
  obtain ⟨f_law_faced, fd_law_faced, q_law_faced⟩ := q_law_faced
  obtain ⟨f_law_others_changed, fd_law_others_changed, q_law_others_changed⟩ := q_law_others_changed
  obtain ⟨f_need_viewer, fd_need_viewer, q_need_viewer⟩ := q_need_viewer
  obtain ⟨f_need_view, fd_need_view, q_need_view⟩ := q_need_view
  obtain ⟨f_all_hold, fd_all_hold, q_all_hold⟩ := q_all_hold
  obtain ⟨f_is_let, fd_is_let, q_is_let⟩ := q_is_let
  obtain ⟨f_views_of, fd_views_of, q_views_of⟩ := q_views_of
  obtain ⟨f_let_views, fd_let_views, q_let_views⟩ := q_let_views
  obtain ⟨f_view_for, fd_view_for, q_view_for⟩ := q_view_for
  obtain ⟨f_law_more, fd_law_more, q_law_more⟩ := q_law_more
  obtain ⟨f_law, fd_law, q_law⟩ := q_law
  have hx := hfa.symm.trans (PySem.W.mg_of X G q_law.ns)
  cases hx
  have m_all := PySem.W.mg_none_of X G z_all
  have m_dict := PySem.W.mg_none_of X G z_dict
  have m_int := PySem.W.mg_none_of X G z_int
  have m_isinstance := PySem.W.mg_none_of X G z_isinstance
  have m_len := PySem.W.mg_none_of X G z_len
  have m_list := PySem.W.mg_none_of X G z_list
  have m_min := PySem.W.mg_none_of X G z_min
  have m_range := PySem.W.mg_none_of X G z_range
  have m_set := PySem.W.mg_none_of X G z_set
  have m_sorted := PySem.W.mg_none_of X G z_sorted
  have m_tuple := PySem.W.mg_none_of X G z_tuple
  have g_MOST_VIEWER := g_MOST_VIEWER mg G
  have g_ROUND := g_ROUND mg G
  have t_SUMS := t_SUMS mg G
  have e_NoMark := e_NoMark mg G
  have e_NoNumber := e_NoNumber mg G
  have b_law_bag := q_law_bag.fn.binds (ps := ["script"]) fun _ _ _ _ _ _ us hl => match us, hl with | [_], _ => rfl
  have b_law_stir := q_law_stir.fn.binds (ps := ["number", "place"]) fun _ _ _ _ _ _ us hl => match us, hl with | [_, _], _ => rfl
  have b_law_draw := q_law_draw.fn.binds (ps := ["bag", "many"]) fun _ _ _ _ _ _ us hl => match us, hl with | [_, _], _ => rfl
  have b_law_marks := q_law_marks.fn.binds (ps := ["bag"]) fun _ _ _ _ _ _ us hl => match us, hl with | [_], _ => rfl
  have b_law_words := q_law_words.fn.binds (ps := ["bag", "many"]) fun _ _ _ _ _ _ us hl => match us, hl with | [_, _], _ => rfl
  have b_law_names := q_law_names.fn.binds (ps := ["bag"]) fun _ _ _ _ _ _ us hl => match us, hl with | [_], _ => rfl
  have b_law_plain := q_law_plain.fn.binds (ps := ["bag", "names"]) fun _ _ _ _ _ _ us hl => match us, hl with | [_, _], _ => rfl
  have b_law_e := q_law_e.fn.binds (ps := ["bag", "names"]) fun _ _ _ _ _ _ us hl => match us, hl with | [_, _], _ => rfl
  have b_law_rule := q_law_rule.fn.binds (ps := ["bag", "names"]) fun _ _ _ _ _ _ us hl => match us, hl with | [_, _], _ => rfl
  have b_law_least := q_law_least.fn.binds (ps := ["numbers", "some"]) fun _ _ _ _ _ _ us hl => match us, hl with | [_, _], _ => rfl
  have b_law_worth := q_law_worth.fn.binds (ps := ["bag", "marks"]) fun _ _ _ _ _ _ us hl => match us, hl with | [_, _], _ => rfl
  have b_law_some_boxes := q_law_some_boxes.fn.binds (ps := ["bag", "names", "marks"]) fun _ _ _ _ _ _ us hl => match us, hl with | [_, _, _], _ => rfl
  have b_seen_by := q_seen_by.fn.binds (ps := ["worth", "view"]) fun _ _ _ _ _ _ us hl => match us, hl with | [_, _], _ => rfl
  have b_named_for := q_named_for.fn.binds (ps := ["boxes", "viewer", "view"]) fun _ _ _ _ _ _ us hl => match us, hl with | [_, _, _], _ => rfl
  have b_added := q_added.fn.binds (ps := ["one", "other"]) fun _ _ _ _ _ _ us hl => match us, hl with | [_, _], _ => rfl
  have b_lessened := q_lessened.fn.binds (ps := ["one", "other"]) fun _ _ _ _ _ _ us hl => match us, hl with | [_, _], _ => rfl
  have b_multiplied := q_multiplied.fn.binds (ps := ["one", "other"]) fun _ _ _ _ _ _ us hl => match us, hl with | [_, _], _ => rfl
  have b_number_of := q_number_of.fn.binds (ps := ["side", "named"]) fun _ _ _ _ _ _ us hl => match us, hl with | [_, _], _ => rfl
  have b_rule_holds := q_rule_holds.fn.binds (ps := ["rule", "boxes", "viewer", "view"]) fun _ _ _ _ _ _ us hl => match us, hl with | [_, _, _, _], _ => rfl
  have b_law_by_numbers := q_law_by_numbers.fn.binds (ps := ["rules", "boxes", "viewer", "seer"]) fun _ _ _ _ _ _ us hl => match us, hl with | [_, _, _, _], _ => rfl
  have b_law_seen := q_law_seen.fn.binds (ps := ["worth", "seer"]) fun _ _ _ _ _ _ us hl => match us, hl with | [_, _], _ => rfl
  have b_law_faced := q_law_faced.fn.binds (ps := ["mark", "seen", "other"]) fun _ _ _ _ _ _ us hl => match us, hl with | [_, _, _], _ => rfl
  have b_law_others_changed := q_law_others_changed.fn.binds (ps := ["bag", "boxes", "seer"]) fun _ _ _ _ _ _ us hl => match us, hl with | [_, _, _], _ => rfl
  have b_need_viewer := q_need_viewer.fn.binds (ps := ["viewer"]) fun _ _ _ _ _ _ us hl => match us, hl with | [_], _ => rfl
  have b_need_view := q_need_view.fn.binds (ps := ["view", "many"]) fun _ _ _ _ _ _ us hl => match us, hl with | [_, _], _ => rfl
  have b_all_hold := q_all_hold.fn.binds (ps := ["rules", "boxes", "viewer", "view"]) fun _ _ _ _ _ _ us hl => match us, hl with | [_, _, _, _], _ => rfl
  have b_is_let := q_is_let.fn.binds (ps := ["rules", "boxes", "viewer", "view"]) fun _ _ _ _ _ _ us hl => match us, hl with | [_, _, _, _], _ => rfl
  have b_views_of := q_views_of.fn.binds (ps := ["many"]) fun _ _ _ _ _ _ us hl => match us, hl with | [_], _ => rfl
  have b_let_views := q_let_views.fn.binds (ps := ["rules", "boxes", "viewer"]) fun _ _ _ _ _ _ us hl => match us, hl with | [_, _, _], _ => rfl
  have b_view_for := q_view_for.fn.binds (ps := ["rules", "boxes", "viewer"]) fun _ _ _ _ _ _ us hl => match us, hl with | [_, _, _], _ => rfl
  have b_law_more := q_law_more.fn.binds (ps := ["rules", "boxes", "viewer"]) fun _ _ _ _ _ _ us hl => match us, hl with | [_, _, _], _ => rfl
  have b_law := q_law.fn.binds (ps := ["script"]) fun _ _ _ _ _ _ us hl => match us, hl with | [_], _ => rfl
  have gm_added := q_added.mgA X G
  have gm_lessened := q_lessened.mgA X G
  have gm_multiplied := q_multiplied.mgA X G
  refine ⟨fd_law, fun s v => ?_, fun base KB GB TB => ?_⟩
  · obtain ⟨oc, od, kV, doc, pm, an, cdv, ct, osl, rfl, lk, hcd⟩ := q_law.fn.ex
    exact .of_eq rfl
  have H_law_bag : ∀ {GI : Hp → Hp → Prop} (LG : LamG GI (tabsM K mksH)) {B : Heap} (sub : ∀ b o, base.get? b = some o → B.get? b = some o), HasG GI l.prog w K mg B (1) "_law_bag" 1 sp_law_bag := by
    intro GI LG B sub
    exact hasG_of X G q_law_bag b_law_bag sc_law_bag rfl (fun ds c E Q h => by repeat (first | (obtain ⟨rfl, _⟩ := h; rfl) | (obtain ⟨_, h⟩ := h))) (fun cdv A outer s H E hr => d_law_bag m_list hr) (fun ds c E Q h => ok_law_bag  h)
  have H_law_stir : ∀ {GI : Hp → Hp → Prop} (LG : LamG GI (tabsM K mksH)) {B : Heap} (sub : ∀ b o, base.get? b = some o → B.get? b = some o), HasG GI l.prog w K mg B (1) "_law_stir" 2 sp_law_stir := by
    intro GI LG B sub
    exact hasG_of X G q_law_stir b_law_stir sc_law_stir rfl (fun ds c E Q h => by repeat (first | (obtain ⟨rfl, _⟩ := h; rfl) | (obtain ⟨_, h⟩ := h))) (fun cdv A outer s H E hr => d_law_stir  hr) (fun ds c E Q h => ok_law_stir  h)
  have H_law_draw : ∀ {GI : Hp → Hp → Prop} (LG : LamG GI (tabsM K mksH)) {B : Heap} (sub : ∀ b o, base.get? b = some o → B.get? b = some o), HasG GI l.prog w K mg B (2) "_law_draw" 2 sp_law_draw := by
    intro GI LG B sub
    exact hasG_of X G q_law_draw b_law_draw sc_law_draw rfl (fun ds c E Q h => by repeat (first | (obtain ⟨rfl, _⟩ := h; rfl) | (obtain ⟨_, h⟩ := h))) (fun cdv A outer s H E hr => d_law_draw ((H_law_stir LG sub).mono (by omega)) m_len hr) (fun ds c E Q h => ok_law_draw  h)
  have H_law_marks : ∀ {GI : Hp → Hp → Prop} (LG : LamG GI (tabsM K mksH)) {B : Heap} (sub : ∀ b o, base.get? b = some o → B.get? b = some o), HasG GI l.prog w K mg B (3) "_law_marks" 1 sp_law_marks := by
    intro GI LG B sub
    exact hasG_of X G q_law_marks b_law_marks sc_law_marks rfl (fun ds c E Q h => by repeat (first | (obtain ⟨rfl, _⟩ := h; rfl) | (obtain ⟨_, h⟩ := h))) (fun cdv A outer s H E hr => d_law_marks ((H_law_draw LG sub).mono (by omega)) hr) (fun ds c E Q h => ok_law_marks  h)
  have H_law_words : ∀ {GI : Hp → Hp → Prop} (LG : LamG GI (tabsM K mksH)) {B : Heap} (sub : ∀ b o, base.get? b = some o → B.get? b = some o), HasG GI l.prog w K mg B (3) "_law_words" 2 sp_law_words := by
    intro GI LG B sub
    exact hasG_of X G q_law_words b_law_words sc_law_words rfl (fun ds c E Q h => by repeat (first | (obtain ⟨rfl, _⟩ := h; rfl) | (obtain ⟨_, h⟩ := h))) (fun cdv A outer s H E hr => d_law_words ((H_law_draw LG sub).mono (by omega)) m_range m_len hr) (fun ds c E Q h => ok_law_words  h)
  have H_law_names : ∀ {GI : Hp → Hp → Prop} (LG : LamG GI (tabsM K mksH)) {B : Heap} (sub : ∀ b o, base.get? b = some o → B.get? b = some o), HasG GI l.prog w K mg B (4) "_law_names" 1 sp_law_names := by
    intro GI LG B sub
    exact hasG_of X G q_law_names b_law_names sc_law_names rfl (fun ds c E Q h => by repeat (first | (obtain ⟨rfl, _⟩ := h; rfl) | (obtain ⟨_, h⟩ := h))) (fun cdv A outer s H E hr => d_law_names ((H_law_draw LG sub).mono (by omega)) ((H_law_words LG sub).mono (by omega)) hr) (fun ds c E Q h => ok_law_names  h)
  have H_law_plain : ∀ {GI : Hp → Hp → Prop} (LG : LamG GI (tabsM K mksH)) {B : Heap} (sub : ∀ b o, base.get? b = some o → B.get? b = some o), HasG GI l.prog w K mg B (3) "_law_plain" 2 sp_law_plain := by
    intro GI LG B sub
    exact hasG_of X G q_law_plain b_law_plain sc_law_plain rfl (fun ds c E Q h => by repeat (first | (obtain ⟨rfl, _⟩ := h; rfl) | (obtain ⟨_, h⟩ := h))) (fun cdv A outer s H E hr => d_law_plain ((H_law_draw LG sub).mono (by omega)) m_len hr) (fun ds c E Q h => ok_law_plain  h)
  have H_law_e : ∀ {GI : Hp → Hp → Prop} (LG : LamG GI (tabsM K mksH)) {B : Heap} (sub : ∀ b o, base.get? b = some o → B.get? b = some o), HasG GI l.prog w K mg B (4) "_law_e" 2 sp_law_e := by
    intro GI LG B sub
    exact hasG_of X G q_law_e b_law_e sc_law_e rfl (fun ds c E Q h => by repeat (first | (obtain ⟨rfl, _⟩ := h; rfl) | (obtain ⟨_, h⟩ := h))) (fun cdv A outer s H E hr => d_law_e ((H_law_draw LG sub).mono (by omega)) ((H_law_plain LG sub).mono (by omega)) hr) (fun ds c E Q h => ok_law_e  h)
  have H_law_rule : ∀ {GI : Hp → Hp → Prop} (LG : LamG GI (tabsM K mksH)) {B : Heap} (sub : ∀ b o, base.get? b = some o → B.get? b = some o), HasG GI l.prog w K mg B (5) "_law_rule" 2 sp_law_rule := by
    intro GI LG B sub
    exact hasG_of X G q_law_rule b_law_rule sc_law_rule rfl (fun ds c E Q h => by repeat (first | (obtain ⟨rfl, _⟩ := h; rfl) | (obtain ⟨_, h⟩ := h))) (fun cdv A outer s H E hr => d_law_rule ((H_law_draw LG sub).mono (by omega)) ((H_law_e LG sub).mono (by omega)) hr) (fun ds c E Q h => ok_law_rule  h)
  have H_law_least : ∀ {GI : Hp → Hp → Prop} (LG : LamG GI (tabsM K mksH)) {B : Heap} (sub : ∀ b o, base.get? b = some o → B.get? b = some o), HasG GI l.prog w K mg B (8) "_law_least" 2 (sp_law_least 8) := by
    intro GI LG B sub
    have R : ∀ n, HasG GI l.prog w K mg B (0 + n) "_law_least" 2 (sp_law_least n) := by
      intro n
      induction n with
      | zero => exact hasG_void X G q_law_least b_law_least rfl void_law_least
      | succ n ih => exact hasG_of X G q_law_least b_law_least sc_law_least rfl (fun ds c E Q h => by repeat (first | (obtain ⟨rfl, _⟩ := h; rfl) | (obtain ⟨_, h⟩ := h))) (fun cdv A outer s H E hr => d_law_least ih hr) (fun ds c E Q h => ok_law_least  h)
    exact R 8
  have H_law_worth : ∀ {GI : Hp → Hp → Prop} (LG : LamG GI (tabsM K mksH)) {B : Heap} (sub : ∀ b o, base.get? b = some o → B.get? b = some o), HasG GI l.prog w K mg B (9) "_law_worth" 2 sp_law_worth := by
    intro GI LG B sub
    exact hasG_of X G q_law_worth b_law_worth sc_law_worth rfl (fun ds c E Q h => by repeat (first | (obtain ⟨rfl, _⟩ := h; rfl) | (obtain ⟨_, h⟩ := h))) (fun cdv A outer s H E hr => d_law_worth ((H_law_draw LG sub).mono (by omega)) ((H_law_least LG sub).mono (by omega)) m_range m_len hr) (fun ds c E Q h => ok_law_worth  h)
  have H_law_some_boxes : ∀ {GI : Hp → Hp → Prop} (LG : LamG GI (tabsM K mksH)) {B : Heap} (sub : ∀ b o, base.get? b = some o → B.get? b = some o), HasG GI l.prog w K mg B (10) "_law_some_boxes" 3 sp_law_some_boxes := by
    intro GI LG B sub
    exact hasG_of X G q_law_some_boxes b_law_some_boxes sc_law_some_boxes rfl (fun ds c E Q h => by repeat (first | (obtain ⟨rfl, _⟩ := h; rfl) | (obtain ⟨_, h⟩ := h))) (fun cdv A outer s H E hr => d_law_some_boxes ((H_law_worth LG sub).mono (by omega)) m_sorted hr) (fun ds c E Q h => ok_law_some_boxes  h)
  have H_seen_by : ∀ {GI : Hp → Hp → Prop} (LG : LamG GI (tabsM K mksH)) {B : Heap} (sub : ∀ b o, base.get? b = some o → B.get? b = some o), HasG GI l.prog w K mg B (1) "seen_by" 2 sp_seen_by := by
    intro GI LG B sub
    exact hasG_of X G q_seen_by b_seen_by sc_seen_by rfl (fun ds c E Q h => by repeat (first | (obtain ⟨rfl, _⟩ := h; rfl) | (obtain ⟨_, h⟩ := h))) (fun cdv A outer s H E hr => d_seen_by m_tuple m_isinstance hr) (fun ds c E Q h => ok_seen_by  h)
  have H_named_for : ∀ {GI : Hp → Hp → Prop} (LG : LamG GI (tabsM K mksH)) {B : Heap} (sub : ∀ b o, base.get? b = some o → B.get? b = some o), HasG GI l.prog w K mg B (2) "named_for" 3 sp_named_for := by
    intro GI LG B sub
    exact hasG_of X G q_named_for b_named_for sc_named_for rfl (fun ds c E Q h => by repeat (first | (obtain ⟨rfl, _⟩ := h; rfl) | (obtain ⟨_, h⟩ := h))) (fun cdv A outer s H E hr => d_named_for ((H_seen_by LG sub).mono (by omega)) m_dict hr) (fun ds c E Q h => ok_named_for  h)
  have H_added : ∀ {GI : Hp → Hp → Prop} (LG : LamG GI (tabsM K mksH)) {B : Heap} (sub : ∀ b o, base.get? b = some o → B.get? b = some o), HasG GI l.prog w K mg B (1) "added" 2 sp_added := by
    intro GI LG B sub
    exact hasG_of X G q_added b_added sc_added rfl (fun ds c E Q h => by repeat (first | (obtain ⟨rfl, _⟩ := h; rfl) | (obtain ⟨_, h⟩ := h))) (fun cdv A outer s H E hr => d_added  hr) (fun ds c E Q h => ok_added  h)
  have H_lessened : ∀ {GI : Hp → Hp → Prop} (LG : LamG GI (tabsM K mksH)) {B : Heap} (sub : ∀ b o, base.get? b = some o → B.get? b = some o), HasG GI l.prog w K mg B (1) "lessened" 2 sp_lessened := by
    intro GI LG B sub
    exact hasG_of X G q_lessened b_lessened sc_lessened rfl (fun ds c E Q h => by repeat (first | (obtain ⟨rfl, _⟩ := h; rfl) | (obtain ⟨_, h⟩ := h))) (fun cdv A outer s H E hr => d_lessened  hr) (fun ds c E Q h => ok_lessened  h)
  have H_multiplied : ∀ {GI : Hp → Hp → Prop} (LG : LamG GI (tabsM K mksH)) {B : Heap} (sub : ∀ b o, base.get? b = some o → B.get? b = some o), HasG GI l.prog w K mg B (1) "multiplied" 2 sp_multiplied := by
    intro GI LG B sub
    exact hasG_of X G q_multiplied b_multiplied sc_multiplied rfl (fun ds c E Q h => by repeat (first | (obtain ⟨rfl, _⟩ := h; rfl) | (obtain ⟨_, h⟩ := h))) (fun cdv A outer s H E hr => d_multiplied  hr) (fun ds c E Q h => ok_multiplied  h)
  have H_number_of : ∀ {GI : Hp → Hp → Prop} (LG : LamG GI (tabsM K mksH)) {B : Heap} (sub : ∀ b o, base.get? b = some o → B.get? b = some o), HasG GI l.prog w K mg B (5) "number_of" 2 (sp_number_of 4) := by
    intro GI LG B sub
    have R : ∀ n, HasG GI l.prog w K mg B (1 + n) "number_of" 2 (sp_number_of n) := by
      intro n
      induction n with
      | zero => exact hasG_void X G q_number_of b_number_of rfl void_number_of
      | succ n ih => exact hasG_of X G q_number_of b_number_of sc_number_of rfl (fun ds c E Q h => by repeat (first | (obtain ⟨rfl, _⟩ := h; rfl) | (obtain ⟨_, h⟩ := h))) (fun cdv A outer s H E hr => d_number_of ih ⟨⟨⟨_, ((H_added LG sub).mono (by omega))⟩, gm_added⟩, ⟨⟨⟨_, ((H_lessened LG sub).mono (by omega))⟩, gm_lessened⟩, ⟨⟨⟨_, ((H_multiplied LG sub).mono (by omega))⟩, gm_multiplied⟩, trivial⟩⟩⟩ t_SUMS g_ROUND hr) (fun ds c E Q h => ok_number_of  h)
    exact R 4
  have H_rule_holds : ∀ {GI : Hp → Hp → Prop} (LG : LamG GI (tabsM K mksH)) {B : Heap} (sub : ∀ b o, base.get? b = some o → B.get? b = some o), HasG GI l.prog w K mg B (6) "rule_holds" 4 sp_rule_holds := by
    intro GI LG B sub
    exact hasG_of X G q_rule_holds b_rule_holds sc_rule_holds rfl (fun ds c E Q h => by repeat (first | (obtain ⟨rfl, _⟩ := h; rfl) | (obtain ⟨_, h⟩ := h))) (fun cdv A outer s H E hr => d_rule_holds ((H_named_for LG sub).mono (by omega)) ((H_number_of LG sub).mono (by omega)) hr) (fun ds c E Q h => ok_rule_holds  h)
  have H_law_by_numbers : ∀ {GI : Hp → Hp → Prop} (LG : LamG GI (tabsM K mksH)) {B : Heap} (sub : ∀ b o, base.get? b = some o → B.get? b = some o), HasG GI l.prog w K mg B (7) "_law_by_numbers" 4 sp_law_by_numbers := by
    intro GI LG B sub
    exact hasG_of X G q_law_by_numbers b_law_by_numbers sc_law_by_numbers rfl (fun ds c E Q h => by repeat (first | (obtain ⟨rfl, _⟩ := h; rfl) | (obtain ⟨_, h⟩ := h))) (fun cdv A outer s H E hr => d_law_by_numbers ((H_seen_by LG sub).mono (by omega)) ((H_rule_holds LG sub).mono (by omega)) hr) (fun ds c E Q h => ok_law_by_numbers  h)
  have H_law_seen : ∀ {GI : Hp → Hp → Prop} (LG : LamG GI (tabsM K mksH)) {B : Heap} (sub : ∀ b o, base.get? b = some o → B.get? b = some o), HasG GI l.prog w K mg B (1) "_law_seen" 2 sp_law_seen := by
    intro GI LG B sub
    exact hasG_of X G q_law_seen b_law_seen sc_law_seen rfl (fun ds c E Q h => by repeat (first | (obtain ⟨rfl, _⟩ := h; rfl) | (obtain ⟨_, h⟩ := h))) (fun cdv A outer s H E hr => d_law_seen m_int m_isinstance hr) (fun ds c E Q h => ok_law_seen  h)
  have H_law_faced : ∀ {GI : Hp → Hp → Prop} (LG : LamG GI (tabsM K mksH)) {B : Heap} (sub : ∀ b o, base.get? b = some o → B.get? b = some o), HasG GI l.prog w K mg B (9) "_law_faced" 3 sp_law_faced := by
    intro GI LG B sub
    exact hasG_of X G q_law_faced b_law_faced sc_law_faced rfl (fun ds c E Q h => by repeat (first | (obtain ⟨rfl, _⟩ := h; rfl) | (obtain ⟨_, h⟩ := h))) (fun cdv A outer s H E hr => d_law_faced ((H_law_seen LG sub).mono (by omega)) ((H_law_least LG sub).mono (by omega)) m_range m_int hr) (fun ds c E Q h => ok_law_faced  h)
  have H_law_others_changed : ∀ {GI : Hp → Hp → Prop} (LG : LamG GI (tabsM K mksH)) {B : Heap} (sub : ∀ b o, base.get? b = some o → B.get? b = some o), HasG GI l.prog w K mg B (10) "_law_others_changed" 3 sp_law_others_changed := by
    intro GI LG B sub
    exact hasG_of X G q_law_others_changed b_law_others_changed sc_law_others_changed rfl (fun ds c E Q h => by repeat (first | (obtain ⟨rfl, _⟩ := h; rfl) | (obtain ⟨_, h⟩ := h))) (fun cdv A outer s H E hr => d_law_others_changed ((H_law_worth LG sub).mono (by omega)) ((H_law_faced LG sub).mono (by omega)) m_range hr) (fun ds c E Q h => ok_law_others_changed  h)
  have H_need_viewer : ∀ {GI : Hp → Hp → Prop} (LG : LamG GI (tabsM K mksH)) {B : Heap} (sub : ∀ b o, base.get? b = some o → B.get? b = some o), HasG GI l.prog w K mg B (1) "need_viewer" 1 (sp_need_viewer K) := by
    intro GI LG B sub
    exact hasG_of X G q_need_viewer b_need_viewer sc_need_viewer rfl (fun ds c E Q h => by repeat (first | (obtain ⟨rfl, _⟩ := h; rfl) | (obtain ⟨_, h⟩ := h))) (fun cdv A outer s H E hr => d_need_viewer e_NoNumber g_MOST_VIEWER hr) (fun ds c E Q h => ok_need_viewer  h)
  have H_need_view : ∀ {GI : Hp → Hp → Prop} (LG : LamG GI (tabsM K mksH)) {B : Heap} (sub : ∀ b o, base.get? b = some o → B.get? b = some o), HasG GI l.prog w K mg B (1) "need_view" 2 (sp_need_view K) := by
    intro GI LG B sub
    exact hasG_of X G q_need_view b_need_view sc_need_view rfl (fun ds c E Q h => by repeat (first | (obtain ⟨rfl, _⟩ := h; rfl) | (obtain ⟨_, h⟩ := h))) (fun cdv A outer s H E hr => d_need_view m_sorted m_set e_NoMark hr) (fun ds c E Q h => ok_need_view  h)
  have H_all_hold : ∀ {GI : Hp → Hp → Prop} (LG : LamG GI (tabsM K mksH)) {B : Heap} (sub : ∀ b o, base.get? b = some o → B.get? b = some o), HasG GI l.prog w K mg B (7) "all_hold" 4 sp_all_hold := by
    intro GI LG B sub
    exact hasG_of X G q_all_hold b_all_hold sc_all_hold rfl (fun ds c E Q h => by repeat (first | (obtain ⟨rfl, _⟩ := h; rfl) | (obtain ⟨_, h⟩ := h))) (fun cdv A outer s H E hr => d_all_hold ((H_rule_holds LG sub).mono (by omega)) m_all hr) (fun ds c E Q h => ok_all_hold  h)
  have H_is_let : ∀ {GI : Hp → Hp → Prop} (LG : LamG GI (tabsM K mksH)) {B : Heap} (sub : ∀ b o, base.get? b = some o → B.get? b = some o), HasG GI l.prog w K mg B (8) "is_let" 4 (sp_is_let K) := by
    intro GI LG B sub
    exact hasG_of X G q_is_let b_is_let sc_is_let rfl (fun ds c E Q h => by repeat (first | (obtain ⟨rfl, _⟩ := h; rfl) | (obtain ⟨_, h⟩ := h))) (fun cdv A outer s H E hr => d_is_let ((H_need_viewer LG sub).mono (by omega)) ((H_need_view LG sub).mono (by omega)) ((H_all_hold LG sub).mono (by omega)) m_len hr) (fun ds c E Q h => ok_is_let  h)
  have H_views_of : ∀ {GI : Hp → Hp → Prop} (LG : LamG GI (tabsM K mksH)) {B : Heap} (sub : ∀ b o, base.get? b = some o → B.get? b = some o), HasG GI l.prog w K mg B (1) "views_of" 1 sp_views_of := by
    intro GI LG B sub
    exact hasG_of X G q_views_of b_views_of sc_views_of rfl (fun ds c E Q h => by repeat (first | (obtain ⟨rfl, _⟩ := h; rfl) | (obtain ⟨_, h⟩ := h))) (fun cdv A outer s H E hr => d_views_of m_range m_sorted hr) (fun ds c E Q h => ok_views_of  h)
  have H_let_views : ∀ {GI : Hp → Hp → Prop} (LG : LamG GI (tabsM K mksH)) {B : Heap} (sub : ∀ b o, base.get? b = some o → B.get? b = some o), HasG GI l.prog w K mg B (8) "let_views" 3 (sp_let_views K) := by
    intro GI LG B sub
    exact hasG_of X G q_let_views b_let_views sc_let_views rfl (fun ds c E Q h => by repeat (first | (obtain ⟨rfl, _⟩ := h; rfl) | (obtain ⟨_, h⟩ := h))) (fun cdv A outer s H E hr => d_let_views ((H_need_viewer LG sub).mono (by omega)) ((H_views_of LG sub).mono (by omega)) ((H_all_hold LG sub).mono (by omega)) m_len hr) (fun ds c E Q h => ok_let_views  h)
  have H_view_for : ∀ {GI : Hp → Hp → Prop} (LG : LamG GI (tabsM K mksH)) {B : Heap} (sub : ∀ b o, base.get? b = some o → B.get? b = some o), HasG GI l.prog w K mg B (9) "view_for" 3 (sp_view_for K) := by
    intro GI LG B sub
    exact hasG_of X G q_view_for b_view_for sc_view_for rfl (fun ds c E Q h => by repeat (first | (obtain ⟨rfl, _⟩ := h; rfl) | (obtain ⟨_, h⟩ := h))) (fun cdv A outer s H E hr => d_view_for ((H_let_views LG sub).mono (by omega)) m_len m_range hr) (fun ds c E Q h => ok_view_for  h)
  have H_law_more : ∀ {GI : Hp → Hp → Prop} (LG : LamG GI (tabsM K mksH)) {B : Heap} (sub : ∀ b o, base.get? b = some o → B.get? b = some o), HasG GI l.prog w K mg B (10) "_law_more" 3 sp_law_more := by
    intro GI LG B sub
    exact hasG_of X G q_law_more b_law_more sc_law_more rfl (fun ds c E Q h => by repeat (first | (obtain ⟨rfl, _⟩ := h; rfl) | (obtain ⟨_, h⟩ := h))) (fun cdv A outer s H E hr => d_law_more ((H_let_views LG sub).mono (by omega)) ((H_view_for LG sub).mono (by omega)) m_len m_sorted hr) (fun ds c E Q h => ok_law_more  h)
  have LG := lamG_git (tabsM K mksH)
  have sub : ∀ b o, base.get? b = some o → base.get? b = some o := fun _ _ h => h
  exact fnok_of q_law.fn sc_law (fun ds c E Q h => by repeat (first | (obtain ⟨rfl, _⟩ := h; rfl) | (obtain ⟨_, h⟩ := h))) (fun cdv A outer s H E hr => d_law ((H_law_bag LG sub).mono (by omega)) ((H_law_marks LG sub).mono (by omega)) ((H_law_names LG sub).mono (by omega)) ((H_law_rule LG sub).mono (by omega)) ((H_law_draw LG sub).mono (by omega)) ((H_law_some_boxes LG sub).mono (by omega)) ((H_law_by_numbers LG sub).mono (by omega)) ((H_law_others_changed LG sub).mono (by omega)) ((H_is_let LG sub).mono (by omega)) ((H_view_for LG sub).mono (by omega)) ((H_let_views LG sub).mono (by omega)) ((H_law_more LG sub).mono (by omega)) m_min m_range hr) (fun ds c E Q h => ok_law  h)
def fnH : List He.DefD := [⟨("_law_bag", none), "_law_bag", "_law_bag", defArgs t_law_bag, defBody t_law_bag, defScope t_law_bag, [], []⟩, ⟨("_law_stir", none), "_law_stir", "_law_stir", defArgs t_law_stir, defBody t_law_stir, defScope t_law_stir, [], []⟩, ⟨("_law_draw", none), "_law_draw", "_law_draw", defArgs t_law_draw, defBody t_law_draw, defScope t_law_draw, [], []⟩, ⟨("_law_marks", none), "_law_marks", "_law_marks", defArgs t_law_marks, defBody t_law_marks, defScope t_law_marks, [], []⟩, ⟨("_law_words", none), "_law_words", "_law_words", defArgs t_law_words, defBody t_law_words, defScope t_law_words, [], []⟩, ⟨("_law_names", none), "_law_names", "_law_names", defArgs t_law_names, defBody t_law_names, defScope t_law_names, [], []⟩, ⟨("_law_plain", none), "_law_plain", "_law_plain", defArgs t_law_plain, defBody t_law_plain, defScope t_law_plain, [], []⟩, ⟨("_law_e", none), "_law_e", "_law_e", defArgs t_law_e, defBody t_law_e, defScope t_law_e, [], []⟩, ⟨("_law_rule", none), "_law_rule", "_law_rule", defArgs t_law_rule, defBody t_law_rule, defScope t_law_rule, [], []⟩, ⟨("_law_least", none), "_law_least", "_law_least", defArgs t_law_least, defBody t_law_least, defScope t_law_least, [], []⟩, ⟨("_law_worth", none), "_law_worth", "_law_worth", defArgs t_law_worth, defBody t_law_worth, defScope t_law_worth, [], []⟩, ⟨("_law_some_boxes", none), "_law_some_boxes", "_law_some_boxes", defArgs t_law_some_boxes, defBody t_law_some_boxes, defScope t_law_some_boxes, [], []⟩, ⟨("seen_by", none), "seen_by", "seen_by", defArgs t_seen_by, defBody t_seen_by, defScope t_seen_by, [], []⟩, ⟨("named_for", none), "named_for", "named_for", defArgs t_named_for, defBody t_named_for, defScope t_named_for, [], []⟩, ⟨("added", none), "added", "added", defArgs t_added, defBody t_added, defScope t_added, [], []⟩, ⟨("lessened", none), "lessened", "lessened", defArgs t_lessened, defBody t_lessened, defScope t_lessened, [], []⟩, ⟨("multiplied", none), "multiplied", "multiplied", defArgs t_multiplied, defBody t_multiplied, defScope t_multiplied, [], []⟩, ⟨("number_of", none), "number_of", "number_of", defArgs t_number_of, defBody t_number_of, defScope t_number_of, [], []⟩, ⟨("rule_holds", none), "rule_holds", "rule_holds", defArgs t_rule_holds, defBody t_rule_holds, defScope t_rule_holds, [], []⟩, ⟨("_law_by_numbers", none), "_law_by_numbers", "_law_by_numbers", defArgs t_law_by_numbers, defBody t_law_by_numbers, defScope t_law_by_numbers, [], []⟩, ⟨("_law_seen", none), "_law_seen", "_law_seen", defArgs t_law_seen, defBody t_law_seen, defScope t_law_seen, [], []⟩, ⟨("_law_faced", none), "_law_faced", "_law_faced", defArgs t_law_faced, defBody t_law_faced, defScope t_law_faced, [], []⟩, ⟨("_law_others_changed", none), "_law_others_changed", "_law_others_changed", defArgs t_law_others_changed, defBody t_law_others_changed, defScope t_law_others_changed, [], []⟩, ⟨("need_viewer", none), "need_viewer", "need_viewer", defArgs t_need_viewer, defBody t_need_viewer, defScope t_need_viewer, [], []⟩, ⟨("need_view", none), "need_view", "need_view", defArgs t_need_view, defBody t_need_view, defScope t_need_view, [], []⟩, ⟨("all_hold", none), "all_hold", "all_hold", defArgs t_all_hold, defBody t_all_hold, defScope t_all_hold, [], []⟩, ⟨("is_let", none), "is_let", "is_let", defArgs t_is_let, defBody t_is_let, defScope t_is_let, [], []⟩, ⟨("views_of", none), "views_of", "views_of", defArgs t_views_of, defBody t_views_of, defScope t_views_of, [], []⟩, ⟨("let_views", none), "let_views", "let_views", defArgs t_let_views, defBody t_let_views, defScope t_let_views, [], []⟩, ⟨("view_for", none), "view_for", "view_for", defArgs t_view_for, defBody t_view_for, defScope t_view_for, [], []⟩, ⟨("_law_more", none), "_law_more", "_law_more", defArgs t_law_more, defBody t_law_more, defScope t_law_more, [], []⟩, ⟨("law", none), "law", "law", defArgs t_law, defBody t_law, defScope t_law, [], []⟩]
def faH : List He.Fa := [.glo "_law_bag", .glo "_law_stir", .glo "_law_draw", .glo "_law_marks", .glo "_law_words", .glo "_law_names", .glo "_law_plain", .glo "_law_e", .glo "_law_rule", .glo "_law_least", .glo "_law_worth", .glo "_law_some_boxes", .glo "seen_by", .glo "named_for", .glo "added", .glo "lessened", .glo "multiplied", .glo "number_of", .glo "rule_holds", .glo "_law_by_numbers", .glo "_law_seen", .glo "_law_faced", .glo "_law_others_changed", .glo "need_viewer", .glo "need_view", .glo "all_hold", .glo "is_let", .glo "views_of", .glo "let_views", .glo "view_for", .glo "_law_more", .glo "law", .free "all", .free "dict", .free "int", .free "isinstance", .free "len", .free "list", .free "min", .free "range", .free "set", .free "sorted", .free "tuple", .int "MOST_VIEWER" 9, .int "ROUND" 1000, .glo "NoMark", .glo "NoNumber", .exc "NoMark", .exc "NoNumber", .glo "SUMS"]
def exH (K : PySem.W.Frag) : Bool := ndM mksH K && (dicB K "SUMS" [("+", .glo "added"), ("-", .glo "lessened"), ("*", .glo "multiplied")])
theorem exH_ok {K : PySem.W.Frag} (h : exH K = true) : ndM mksH K = true ∧ dicB K "SUMS" [("+", .glo "added"), ("-", .glo "lessened"), ("*", .glo "multiplied")] = true := by
  unfold exH at h
  simp only [Bool.and_eq_true] at h
  exact h
abbrev RH : PySem.W.OpenRow := PySem.W.OpenLaw.row PySem.Challenge.rw_manyfaces_k47_whole_rules_by_numbers_see
abbrev hkH : PySem.W.Hook := He.hookX 4 faH fnH [((fun K => He.ga K "SUMS"), ["+", "-", "*"])] (mksH.map (·.1)) exH
def obH (s : PySem.W.SharedT) : He.AlX := He.obsX 4 faH fnH [((fun K => He.ga K "SUMS"), ["+", "-", "*"])] (mksH.map (·.1)) exH (HandSHeadRun.getT s)
theorem obH_eq (s : PySem.W.SharedT) : obH s = hkH.obs s.abs := He.obsX_eq (HandSHeadRun.getT_eq s)
def looseH : List Str := [("FaceError" : Str), ("NoNumber" : Str), ("NoMark" : Str), ("seen_by" : Str), ("ROUND" : Str), ("added" : Str), ("lessened" : Str), ("multiplied" : Str), ("SUMS" : Str), ("number_of" : Str), ("MOST_VIEWER" : Str), ("named_for" : Str), ("rule_holds" : Str), ("need_viewer" : Str), ("need_view" : Str), ("views_of" : Str), ("all_hold" : Str), ("is_let" : Str), ("let_views" : Str), ("view_for" : Str), ("_law_bag" : Str), ("_law_stir" : Str), ("_law_draw" : Str), ("_law_words" : Str), ("_law_names" : Str), ("_law_seen" : Str), ("_law_least" : Str), ("_law_worth" : Str), ("_law_plain" : Str), ("_law_e" : Str), ("_law_rule" : Str), ("_law_reckoned" : Str), ("_law_holds" : Str), ("_law_some_boxes" : Str), ("_law_marks" : Str), ("_law_by_numbers" : Str), ("_law_more" : Str), ("_law_others_changed" : Str), ("_law_faced" : Str)]
set_option maxHeartbeats 0 in
theorem runH (w : World) : HandSHeadRun.RunEq RH (PySem.W.view RH.prog [44]) hkH obH 4000 looseH w := by
  refine by_wset (p := fun w => HandSHeadRun.RunEq RH (PySem.W.view RH.prog [44]) hkH obH 4000 looseH w) (fun w => ?_) (fun w => ?_) w
  · intro os
    kernel_rfl
  · intro os
    kernel_rfl
end DL
open PySem PySem.W PyProof.Rows
set_option maxRecDepth 100000 in
set_option maxHeartbeats 0 in
theorem PySem.Challenge.cw_manyfaces_k47_whole_rules_by_numbers_see_holds : PySem.Challenge.rw_manyfaces_k47_whole_rules_by_numbers_see.Holds := by
  w_on; o_law
  refine HandSHeadRun.head_any (r := PySem.W.OpenLaw.row PySem.Challenge.rw_manyfaces_k47_whole_rules_by_numbers_see) (q := PySem.W.view (PySem.W.OpenLaw.row PySem.Challenge.rw_manyfaces_k47_whole_rules_by_numbers_see).prog [44]) (H := DL.hkH) (ob := DL.obH) (M := 4000) (loose := DL.looseH) (d := HandSHeadRun.topDef (PySem.W.OpenLaw.row PySem.Challenge.rw_manyfaces_k47_whole_rules_by_numbers_see).prog 44) (kwd := []) DL.obH_eq
    (by kernel_rfl) (fun s => by kernel_rfl) DL.runH (by kernel_rfl) (by kernel_rfl) (by kernel_rfl) (by rfl) (by first | assumption | decide +kernel) (by decide +kernel) ⟨rfl, rfl, rfl, rfl, rfl, by decide +kernel⟩ ?hw ?hc
  case hw => w_witness2
  case hc =>
    refine LamX.walk_ofTsE (l := PySem.Challenge.rw_manyfaces_k47_whole_rules_by_numbers_see) (n := 63) (k := 11) (x := "script") (CX := fun w => L2.CX PySem.Challenge.rw_manyfaces_k47_whole_rules_by_numbers_see.prog w) rfl (by decide) (by kernel_rfl) ⟨rfl, by decide, by decide⟩ ?F (fun _ _ _ _ _ h => DL.cx_none h)
    intro w mg fa h Y G hmg0
    obtain ⟨K, KX, c⟩ := Y
    have hmg : mg ("law" : PySem.Str) = some (.ref fa) := by
      have e : (HandSHeadRun.topDef (PySem.W.OpenLaw.row PySem.Challenge.rw_manyfaces_k47_whole_rules_by_numbers_see).prog 44).name = ("law" : PySem.Str) := by kernel_rfl
      rw [← e]
      exact hmg0
    obtain ⟨fd, hb, hF⟩ := DL.link (l := PySem.Challenge.rw_manyfaces_k47_whole_rules_by_numbers_see) (w := w) KX G hmg (DL.exH_ok c.more).1 (DL.defAt_of c.t.d 0 0 rfl rfl) (DL.defAt_of c.t.d 1 1 rfl rfl) (DL.defAt_of c.t.d 2 2 rfl rfl) (DL.defAt_of c.t.d 3 3 rfl rfl) (DL.defAt_of c.t.d 4 4 rfl rfl) (DL.defAt_of c.t.d 5 5 rfl rfl) (DL.defAt_of c.t.d 6 6 rfl rfl) (DL.defAt_of c.t.d 7 7 rfl rfl) (DL.defAt_of c.t.d 8 8 rfl rfl) (DL.defAt_of c.t.d 9 9 rfl rfl) (DL.defAt_of c.t.d 10 10 rfl rfl) (DL.defAt_of c.t.d 11 11 rfl rfl) (DL.defAt_of c.t.d 12 12 rfl rfl) (DL.defAt_of c.t.d 13 13 rfl rfl) (DL.defAt_of c.t.d 14 14 rfl rfl) (DL.defAt_of c.t.d 15 15 rfl rfl) (DL.defAt_of c.t.d 16 16 rfl rfl) (DL.defAt_of c.t.d 17 17 rfl rfl) (DL.defAt_of c.t.d 18 18 rfl rfl) (DL.defAt_of c.t.d 19 19 rfl rfl) (DL.defAt_of c.t.d 20 20 rfl rfl) (DL.defAt_of c.t.d 21 21 rfl rfl) (DL.defAt_of c.t.d 22 22 rfl rfl) (DL.defAt_of c.t.d 23 23 rfl rfl) (DL.defAt_of c.t.d 24 24 rfl rfl) (DL.defAt_of c.t.d 25 25 rfl rfl) (DL.defAt_of c.t.d 26 26 rfl rfl) (DL.defAt_of c.t.d 27 27 rfl rfl) (DL.defAt_of c.t.d 28 28 rfl rfl) (DL.defAt_of c.t.d 29 29 rfl rfl) (DL.defAt_of c.t.d 30 30 rfl rfl) (DL.defAt_of c.t.d 31 31 rfl rfl) (DL.free_of c.t.d 32 rfl) (DL.free_of c.t.d 33 rfl) (DL.free_of c.t.d 34 rfl) (DL.free_of c.t.d 35 rfl) (DL.free_of c.t.d 36 rfl) (DL.free_of c.t.d 37 rfl) (DL.free_of c.t.d 38 rfl) (DL.free_of c.t.d 39 rfl) (DL.free_of c.t.d 40 rfl) (DL.free_of c.t.d 41 rfl) (DL.free_of c.t.d 42 rfl) (DL.glD_int KX c.t.d 43 rfl) (DL.glD_int KX c.t.d 44 rfl) (DL.tabD_of KX c.t.d 49 rfl (c.t.tab 0 rfl) (DL.exH_ok c.more).2) (DL.excD_of KX c.t.d 45 47 rfl rfl) (DL.excD_of KX c.t.d 46 48 rfl rfl)
    exact ⟨K, KX, fd, DL.csM K DL.mksH, DL.lowSp K (DL.GIT (DL.tabsM K DL.mksH)) DL.sp_law, DL.emptyM c.empty, DL.outM c.out, DL.codeM KX c.hd, hb, fun H a ns hl _ hT hS => DL.law_spT (DL.tblM hT) hl hS, fun base KB GB TB => hF base KB GB TB⟩
