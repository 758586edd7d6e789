import PyProof.Rows.All
import Wide.All
import OpenK.AllK
import Wide.FinOn
import HandS.ForMost
import HandS.ForExc
import HandS.IsInst
import HandS.Wide
import HandS.SortInts
import HandS.Zip
import KE.KStateDown
import HandS.Defaults
import HandS.Head0
import HandS.Head1
import HandS.Head2
import HandS.HeadHook1
import HandS.HeadHook2
import HandS.HeadHook3
import HandS.HeadHook4
import HandS.HeadWalk
import HandS.Lambda
import HandS.Nested
import HandS.Style
import HandS.FStr
import HandS.SetKeys
import HandS.StrMore
import HandS.Deep
import HandS.More
import HandS.EndTab
import HandS.CallSlots
import HandS.ExcOwn
import HandS.TryOnly
import KE.SortData
import KE.DataEq
import KE.DataMinMax
import HandS.SortKw
import HandS.RaiseMore
import HandS.Dict
import HandS.Strs
import PySem.Challenge.RW_manyfaces_k24_just_three_hundred
set_option Elab.async false
set_option linter.all false
set_option autoImplicit false
set_option maxRecDepth 100000
set_option maxHeartbeats 4000000
/-! the data layer: values as trees, changing things as cells -/
namespace DL
open PySem PySem.Spec L2
open PyProof.Rows hiding St

inductive D where
  | non | bl (b : Bool) | int (i : Int) | str (x : Str) | tup (ds : List D) | lst (ds : List D) | kt (ds : List D) | scr (ns : List Int) | ref (a : Addr) | ty (n : String)

noncomputable instance : DecidableEq D := fun _ _ => Classical.propDecidable _

mutual
inductive DV (K : PySem.W.Frag) (F : Hp) : V → D → Prop
  | non : DV K F .non .non
  | bl (b : Bool) : DV K F (.bl b) (.bl b)
  | int (i : Int) : DV K F (.int i) (.int i)
  | str (x : Str) : DV K F (.str x) (.str x)
  | ref (a : Addr) : DV K F (.ref a) (.ref a)
  | ty (n : String) : DV K F (.ty n) (.ty n)
  | lst {a : Addr} {xs : List V} {ds : List D} : F a = some (.lst xs) → DVs K F xs ds → DV K F (.ref a) (.lst ds)
  | tup {a : Addr} {xs : List V} {ds : List D} : F a = some (.tup xs) → DVs K F xs ds → DV K F (.ref a) (.tup ds)
  | kt {a : Addr} {xs : List V} {ds : List D} : SqT K F a xs → DVs K F xs ds → DV K F (.ref a) (.kt ds)
  | scr {a : Addr} {ns : List Int} : SqL K F a (ns.map V.int) → DV K F (.ref a) (.scr ns)
inductive DVs (K : PySem.W.Frag) (F : Hp) : List V → List D → Prop
  | nil : DVs K F [] []
  | cons {v : V} {vs : List V} {d : D} {ds : List D} : DV K F v d → DVs K F vs ds → DVs K F (v :: vs) (d :: ds)
end

abbrev Le (F G : Hp) : Prop := ∀ a o, F a = some o → G a = some o
theorem Le.rfl' {F : Hp} : Le F F := fun _ _ h => h
theorem Le.trans' {F G H : Hp} (p : Le F G) (q : Le G H) : Le F H := fun a o h => q a o (p a o h)
theorem Le.new {F : Hp} {p : Addr} {o : HO} (h : F p = none) : Le F (upd F p o) := fun a u e => by
  rw [upd_ne (ne_of_none e h)]; exact e
theorem rd_le {F G : Hp} {a : Addr} {u : HO} (l : Le F G) (r : Rd F a u) : Rd G a u := by
  rcases r with r | ⟨o, r⟩
  · exact .inl (l _ _ r)
  · exact .inr ⟨o, l _ _ r⟩
theorem sqT_le {K : PySem.W.Frag} {F G : Hp} {a : Addr} {xs : List V} (l : Le F G) (r : SqT K F a xs) : SqT K G a xs := by
  rcases r with r | r
  · exact .inl (rd_le l r)
  · exact .inr r
theorem sqL_le {K : PySem.W.Frag} {F G : Hp} {a : Addr} {xs : List V} (l : Le F G) (r : SqL K F a xs) : SqL K G a xs := by
  rcases r with r | r
  · exact .inl (rd_le l r)
  · exact .inr r
mutual
theorem DV.le {K : PySem.W.Frag} {F G : Hp} (l : Le F G) : ∀ {v : V} {d : D}, DV K F v d → DV K G v d
  | _, _, .non => .non
  | _, _, .bl b => .bl b
  | _, _, .int i => .int i
  | _, _, .str x => .str x
  | _, _, .ref a => .ref a
  | _, _, .ty n => .ty n
  | _, _, .lst h k => .lst (l _ _ h) (DVs.le l k)
  | _, _, .tup h k => .tup (l _ _ h) (DVs.le l k)
  | _, _, .kt h k => .kt (sqT_le l h) (DVs.le l k)
  | _, _, .scr h => .scr (sqL_le l h)
theorem DVs.le {K : PySem.W.Frag} {F G : Hp} (l : Le F G) : ∀ {v : List V} {d : List D}, DVs K F v d → DVs K G v d
  | _, _, .nil => .nil
  | _, _, .cons h k => .cons (DV.le l h) (DVs.le l k)
end
section
variable {K : PySem.W.Frag} {F : Hp}
theorem DVs.length : ∀ {vs : List V} {ds : List D}, DVs K F vs ds → vs.length = ds.length
  | _, _, .nil => rfl
  | _, _, .cons _ k => by simp [DVs.length k]
theorem DVs.app : ∀ {vs : List V} {ds : List D} {ws : List V} {es : List D}, DVs K F vs ds → DVs K F ws es → DVs K F (vs ++ ws) (ds ++ es)
  | _, _, _, _, .nil, q => q
  | _, _, _, _, .cons h k, q => .cons h (DVs.app k q)
theorem DVs.at : ∀ {vs : List V} {ds : List D} (i : Nat) {d : D}, DVs K F vs ds → ds[i]? = some d → ∃ v, vs[i]? = some v ∧ DV K F v d
  | _, _, _, _, .nil, e => by simp at e
  | _, _, 0, _, .cons h k, e => by simp at e; subst e; exact ⟨_, by simp, h⟩
  | _, _, i + 1, d, .cons h k, e => by
    obtain ⟨v, e1, e2⟩ := DVs.at i (d := d) k (by simpa using e)
    exact ⟨v, by simpa using e1, e2⟩
theorem DVs.at' : ∀ {vs : List V} {ds : List D} (i : Nat) {v : V}, DVs K F vs ds → vs[i]? = some v → ∃ d, ds[i]? = some d ∧ DV K F v d
  | _, _, _, _, .nil, e => by simp at e
  | _, _, 0, _, .cons h k, e => by simp at e; subst e; exact ⟨_, by simp, h⟩
  | _, _, i + 1, d, .cons h k, e => by
    obtain ⟨v, e1, e2⟩ := DVs.at' i (v := d) k (by simpa using e)
    exact ⟨v, by simpa using e1, e2⟩
theorem DVs.take : ∀ {vs : List V} {ds : List D} (n : Nat), DVs K F vs ds → DVs K F (vs.take n) (ds.take n)
  | _, _, 0, _ => by simpa using DVs.nil
  | _, _, _ + 1, .nil => .nil
  | _, _, n + 1, .cons h k => .cons h (DVs.take n k)
theorem DVs.drop : ∀ {vs : List V} {ds : List D} (n : Nat), DVs K F vs ds → DVs K F (vs.drop n) (ds.drop n)
  | _, _, 0, h => h
  | _, _, _ + 1, .nil => .nil
  | _, _, n + 1, .cons h k => DVs.drop n k
theorem DVs.set : ∀ {vs : List V} {ds : List D} {v : V} {d : D} (n : Nat), DV K F v d → DVs K F vs ds → DVs K F (vs.set n v) (ds.set n d)
  | _, _, _, _, _, _, .nil => .nil
  | _, _, _, _, 0, q, .cons h k => .cons q k
  | _, _, _, _, n + 1, q, .cons h k => .cons h (DVs.set n q k)
theorem DVs.ints : ∀ {ns : List Int}, DVs K F (ns.map V.int) (ns.map D.int)
  | [] => .nil
  | n :: r => .cons (.int n) DVs.ints
theorem DVs.one {v : V} {d : D} (h : DV K F v d) : DVs K F [v] [d] := .cons h .nil
theorem DVs.rev : ∀ {vs : List V} {ds : List D}, DVs K F vs ds → DVs K F vs.reverse ds.reverse
  | _, _, .nil => .nil
  | _, _, .cons h k => by simp only [List.reverse_cons]; exact DVs.app (DVs.rev k) (.one h)
theorem DVs.dropLast {vs : List V} {ds : List D} (h : DVs K F vs ds) : DVs K F vs.dropLast ds.dropLast := by
  rw [List.dropLast_eq_take, List.dropLast_eq_take, h.length]; exact h.take _
theorem DVs.erase : ∀ {vs : List V} {ds : List D} (n : Nat), DVs K F vs ds → DVs K F (vs.eraseIdx n) (ds.eraseIdx n)
  | _, _, _, .nil => .nil
  | _, _, 0, .cons _ k => k
  | _, _, n + 1, .cons h k => .cons h (DVs.erase n k)
theorem DVs.rep {vs : List V} {ds : List D} (h : DVs K F vs ds) : ∀ n : Nat, DVs K F (List.replicate n vs).flatten (List.replicate n ds).flatten
  | 0 => .nil
  | n + 1 => by simp only [List.replicate_succ, List.flatten_cons]; exact h.app (DVs.rep h n)
end

/-! ### cells -/
inductive Cell where
  | lst (ds : List D)
  | dK (kvs : List (Key × D))
  | dT (kvs : List (List Key × D))
  | set (S : Int → Bool) (n : Nat)
  | ins (C : Addr) (fs : List (Str × D))
  | xd (fs : List (Str × D))
  | raw (o : HO)
  | fK (w : Obj) (us : List (Key × V)) (kvs : List (Key × D))
  | fT (w : Obj) (us : List (List Key × V)) (kvs : List (List Key × D))
def KD {κ : Type} (K : PySem.W.Frag) (F : Hp) (kvs : List (κ × V)) (eds : List (κ × D)) : Prop := Paired (fun p q => p.1 = q.1 ∧ DV K F p.2 q.2) kvs eds
def CellR (K : PySem.W.Frag) (F : Hp) (o : HO) : Cell → Prop
  | .lst ds => ∃ vs, o = .lst vs ∧ DVs K F vs ds
  | .dK kvs => ∃ us, o = .dK us ∧ KD K F us kvs
  | .dT kvs => ∃ us, o = .dT us ∧ KD K F us kvs
  | .set S n => o = .set S n
  | .ins C fs => ∃ dx us, o = .ins C dx us ∧ KD K F us fs
  | .xd fs => ∃ us, o = .xd us ∧ KD K F us fs
  | .raw u => o = u ∧ ((∃ a b, u = .rng a b) ∨ ∃ oe x, u = .frz oe (.own x))
  | .fK w us kvs => o = .frz w (.dK us) ∧ KD K F us kvs
  | .fT w us kvs => o = .frz w (.dT us) ∧ KD K F us kvs
abbrev CMap := Addr → Option Cell
def updc (c : CMap) (a : Addr) (k : Cell) : CMap := fun b => if b = a then some k else c b
def delc (c : CMap) (a : Addr) : CMap := fun b => if b = a then none else c b
section
variable {c : CMap} {a b : Addr} {k k' : Cell}
theorem updc_same : updc c a k a = some k := by unfold updc; rw [if_pos rfl]
theorem updc_ne (h : b ≠ a) : updc c a k b = c b := by unfold updc; rw [if_neg h]
theorem updc_updc : updc (updc c a k) a k' = updc c a k' := by funext b; unfold updc; split <;> rfl
theorem delc_same : delc c a a = none := by unfold delc; rw [if_pos rfl]
theorem delc_ne (h : b ≠ a) : delc c a b = c b := by unfold delc; rw [if_neg h]
theorem ne_some_none (h : c a = some k) (h' : c b = none) : a ≠ b := by intro e; subst e; rw [h] at h'; cases h'
theorem ne_none_some (h : c a = none) (h' : c b = some k) : a ≠ b := by intro e; subst e; rw [h] at h'; cases h'
end
abbrev SubC (c c' : CMap) : Prop := ∀ a k, c a = some k → c' a = some k
theorem SubC.rfl' {c : CMap} : SubC c c := fun _ _ h => h
theorem SubC.trans' {a b c : CMap} (p : SubC a b) (q : SubC b c) : SubC a c := fun x k h => q x k (p x k h)
theorem SubC.new {c : CMap} {a : Addr} {k : Cell} (h : c a = none) : SubC c (updc c a k) := fun b u e => by
  rw [updc_ne (ne_some_none e h)]; exact e
theorem SubC.newr {c c' : CMap} {a : Addr} {k : Cell} (s : SubC c c') (h : c a = none) : SubC c (updc c' a k) := fun b u e => by
  rw [updc_ne (ne_some_none e h)]; exact s _ _ e
theorem SubC.del {c c' : CMap} {a : Addr} (s : SubC c c') (h : c a = none) : SubC c (delc c' a) := fun b u e => by
  rw [delc_ne (ne_some_none e h)]; exact s _ _ e
theorem SubC.upd {c c' : CMap} {a : Addr} {k : Cell} (s : SubC c c') : SubC (updc c a k) (updc c' a k) := fun b u e => by
  unfold updc at e ⊢
  split
  · rename_i q; rw [if_pos q] at e; exact e
  · rename_i q; rw [if_neg q] at e; exact s _ _ e

/-- what a write may change -/
def MutC : Option HO → Prop
  | some (.lst _) => True
  | some (.dK _) => True
  | some (.dT _) => True
  | some (.set _ _) => True
  | some (.ins _ _ _) => True
  | some (.frz _ (.dK _)) => True
  | some (.frz _ (.dT _)) => True
  | _ => False
/-- what the heap keeps for ever: a fact that new and changed objects leave as it is -/
structure Glob (GI : Hp → Hp → Prop) : Prop where
  new : ∀ F H p o, GI F H → H p = none → GI F (upd H p o)
  newF : ∀ F H p o, GI F H → F p = none → H p = none → (∀ ps, o ≠ .tbl ps) → GI (upd F p o) (upd H p o)
  wr : ∀ F H p o, GI F H → MutC (H p) → GI F (upd H p o)
  frz : ∀ F H p o, GI F H → F p = none → H p = some o → (∀ ps, o ≠ .tbl ps) → GI (upd F p o) H
theorem glob_true : Glob (fun _ _ => True) := ⟨fun _ _ _ _ _ _ => trivial, fun _ _ _ _ _ _ _ _ => trivial, fun _ _ _ _ _ _ => trivial, fun _ _ _ _ _ _ _ _ => trivial⟩

structure Rep (K : PySem.W.Frag) (GI : Hp → Hp → Prop) (F : Hp) (c : CMap) (H : Hp) : Prop where
  sub : Le F H
  cel : ∀ a k, c a = some k → F a = none ∧ ∃ o, H a = some o ∧ CellR K F o k
  gi : GI F H
  gg : Glob GI
section
variable {K : PySem.W.Frag} {GI : Hp → Hp → Prop} {F F' H : Hp} {c c' : CMap} {p : Addr} {o : HO} {k : Cell} {vs : List V} {ds : List D}
theorem KD.le {κ : Type} {kvs : List (κ × V)} {eds : List (κ × D)} (l : Le F F') (h : KD K F kvs eds) : KD K F' kvs eds := Paired.mapP h fun _ _ q => ⟨q.1, q.2.le l⟩
theorem CellR.le (l : Le F F') (h : CellR K F o k) : CellR K F' o k := by
  cases k with
  | lst ds => obtain ⟨vs, e, q⟩ := h; exact ⟨vs, e, q.le l⟩
  | dK kvs => obtain ⟨vs, e, q⟩ := h; exact ⟨vs, e, KD.le l q⟩
  | dT kvs => obtain ⟨vs, e, q⟩ := h; exact ⟨vs, e, KD.le l q⟩
  | set S n => exact h
  | ins C fs => obtain ⟨dx, vs, e, q⟩ := h; exact ⟨dx, vs, e, KD.le l q⟩
  | xd fs => obtain ⟨vs, e, q⟩ := h; exact ⟨vs, e, KD.le l q⟩
  | raw u => exact h
  | fK w us kvs => exact ⟨h.1, KD.le l h.2⟩
  | fT w us kvs => exact ⟨h.1, KD.le l h.2⟩
theorem Rep.fr (r : Rep K GI F c H) (h : H p = none) : F p = none := by
  cases e : F p with
  | none => rfl
  | some o => rw [r.sub _ _ e] at h; cases h
theorem Rep.frc (r : Rep K GI F c H) (h : H p = none) : c p = none := by
  cases e : c p with
  | none => rfl
  | some k => obtain ⟨_, o, q, _⟩ := r.cel _ _ e; rw [q] at h; cases h
theorem Rep.sub' (r : Rep K GI F c H) (s : SubC c' c) : Rep K GI F c' H := ⟨r.sub, fun a k e => r.cel a k (s a k e), r.gi, r.gg⟩
/-- a new thing that stays -/
theorem Rep.newF (r : Rep K GI F c H) (h : H p = none) (hn : ∀ ps, o ≠ .tbl ps := by intro _ z; cases z) : Rep K GI (upd F p o) c (upd H p o) := by
  have fp := r.fr h
  refine ⟨fun a u e => ?_, fun a k e => ?_, r.gg.newF _ _ _ _ r.gi fp h hn, r.gg⟩
  · by_cases q : a = p
    · subst q; rw [upd_same] at e ⊢; exact e
    · rw [upd_ne q] at e ⊢; exact r.sub _ _ e
  · obtain ⟨e1, u, e2, e3⟩ := r.cel a k e
    have q : a ≠ p := ne_of_none e2 h
    exact ⟨by rw [upd_ne q]; exact e1, u, by rw [upd_ne q]; exact e2, e3.le (Le.new fp)⟩
/-- a new thing that is nobody's -/
theorem Rep.newN (r : Rep K GI F c H) (h : H p = none) : Rep K GI F c (upd H p o) := by
  refine ⟨fun a u e => by rw [upd_ne (ne_of_none (r.sub _ _ e) h)]; exact r.sub _ _ e, fun a k e => ?_, r.gg.new _ _ _ _ r.gi h, r.gg⟩
  obtain ⟨e1, u, e2, e3⟩ := r.cel a k e
  exact ⟨e1, u, by rw [upd_ne (ne_of_none e2 h)]; exact e2, e3⟩
/-- a new cell -/
theorem Rep.newC (r : Rep K GI F c H) (h : H p = none) (q : CellR K F o k) : Rep K GI F (updc c p k) (upd H p o) := by
  have s := r.newN (o := o) h
  refine ⟨s.sub, fun a u e => ?_, s.gi, s.gg⟩
  by_cases z : a = p
  · subst z; rw [updc_same] at e; cases e; exact ⟨r.fr h, o, upd_same, q⟩
  · rw [updc_ne z] at e; exact s.cel a u e
theorem mutC_of {k : Cell} (q : CellR K F o k) (m : Mut (some o)) : MutC (some o) := by
  cases k with
  | lst ds => obtain ⟨vs, rfl, _⟩ := q; trivial
  | dK kvs => obtain ⟨vs, rfl, _⟩ := q; trivial
  | dT kvs => obtain ⟨vs, rfl, _⟩ := q; trivial
  | set S n => obtain rfl := q; trivial
  | ins C fs => obtain ⟨dx, vs, rfl, _⟩ := q; trivial
  | xd fs => obtain ⟨vs, rfl, _⟩ := q; exact m.elim
  | raw u => obtain ⟨rfl, ⟨a, b, rfl⟩ | ⟨oe, x, rfl⟩⟩ := q <;> exact m.elim
  | fK w us kvs => obtain ⟨rfl, _⟩ := q; exact m.elim
  | fT w us kvs => obtain ⟨rfl, _⟩ := q; exact m.elim
/-- a cell written -/
theorem Rep.wr (r : Rep K GI F c H) {k0 : Cell} (e : c p = some k0) (m : Mut (H p)) (q : CellR K F o k) : Rep K GI F (updc c p k) (upd H p o) := by
  obtain ⟨f0, o0, h0, hc0⟩ := r.cel _ _ e
  refine ⟨fun a u z => ?_, fun a u z => ?_, r.gg.wr _ _ _ _ r.gi (by rw [h0] at m ⊢; exact mutC_of hc0 m), r.gg⟩
  · have n : a ≠ p := ne_of_none z f0
    rw [upd_ne n]; exact r.sub _ _ z
  · by_cases n : a = p
    · subst n; rw [updc_same] at z; cases z; exact ⟨f0, o, upd_same, q⟩
    · rw [updc_ne n] at z
      obtain ⟨e1, u', e2, e3⟩ := r.cel a u z
      exact ⟨e1, u', by rw [upd_ne n]; exact e2, e3⟩
theorem Rep.lst (r : Rep K GI F c H) (e : c p = some (.lst ds)) : ∃ vs, H p = some (.lst vs) ∧ DVs K F vs ds := by
  obtain ⟨_, o, h, vs, e1, e2⟩ := r.cel _ _ e
  exact ⟨vs, by rw [h, e1], e2⟩
theorem Rep.frz (r : Rep K GI F c H) (e : c p = some (.lst ds)) : ∃ F', Le F F' ∧ Rep K GI F' (delc c p) H ∧ DV K F' (.ref p) (.lst ds) := by
  obtain ⟨f0, o, h, vs, e1, e2⟩ := r.cel _ _ e
  subst e1
  have l : Le F (upd F p (.lst vs)) := Le.new f0
  refine ⟨upd F p (.lst vs), l, ⟨fun a u z => ?_, fun a u z => ?_, r.gg.frz _ _ _ _ r.gi f0 h (fun _ z => by cases z), r.gg⟩, .lst upd_same (e2.le l)⟩
  · by_cases n : a = p
    · subst n; rw [upd_same] at z; rw [← z]; exact h
    · rw [upd_ne n] at z; exact r.sub _ _ z
  · by_cases n : a = p
    · subst n; rw [delc_same] at z; cases z
    · rw [delc_ne n] at z
      obtain ⟨g1, u', g2, g3⟩ := r.cel a u z
      exact ⟨by rw [upd_ne n]; exact g1, u', g2, g3.le l⟩
end

section
variable {K : PySem.W.Frag} {GI : Hp → Hp → Prop} {F H : Hp} {c : CMap} {p : Addr} {o : HO} {k k0 : Cell}
/-- a locked dict is let go -/
theorem Rep.unl (r : Rep K GI F c H) (e : c p = some k0) (m : MutC (H p)) (q : CellR K F o k) : Rep K GI F (updc c p k) (upd H p o) := by
  obtain ⟨f0, o0, h0, hc0⟩ := r.cel _ _ e
  refine ⟨fun a u z => ?_, fun a u z => ?_, r.gg.wr _ _ _ _ r.gi m, r.gg⟩
  · have n : a ≠ p := ne_of_none z f0
    rw [upd_ne n]; exact r.sub _ _ z
  · by_cases n : a = p
    · subst n; rw [updc_same] at z; cases z; exact ⟨f0, o, upd_same, q⟩
    · rw [updc_ne n] at z
      obtain ⟨e1, u', e2, e3⟩ := r.cel a u z
      exact ⟨e1, u', by rw [upd_ne n]; exact e2, e3⟩
theorem cell_ntup {vs : List V} (h : CellR K F o k) : o ≠ .tup vs := by
  cases k with
  | lst ds => obtain ⟨_, rfl, _⟩ := h; intro z; cases z
  | dK kvs => obtain ⟨_, rfl, _⟩ := h; intro z; cases z
  | dT kvs => obtain ⟨_, rfl, _⟩ := h; intro z; cases z
  | set S n => obtain rfl := h; intro z; cases z
  | ins C fs => obtain ⟨_, _, rfl, _⟩ := h; intro z; cases z
  | xd fs => obtain ⟨_, rfl, _⟩ := h; intro z; cases z
  | raw u => obtain ⟨rfl, ⟨a, b, rfl⟩ | ⟨oe, x, rfl⟩⟩ := h <;> (intro z; cases z)
  | fK w us kvs => obtain ⟨rfl, _⟩ := h; intro z; cases z
  | fT w us kvs => obtain ⟨rfl, _⟩ := h; intro z; cases z
/-- a tuple that stands is known from now on -/
theorem Rep.tupF {vs : List V} (r : Rep K GI F c H) (h : H p = some (.tup vs)) : ∃ F', Le F F' ∧ Rep K GI F' c H ∧ F' p = some (.tup vs) := by
  cases e : F p with
  | some u =>
    have := r.sub _ _ e
    rw [h] at this
    cases this
    exact ⟨F, Le.rfl', r, e⟩
  | none =>
    refine ⟨upd F p (.tup vs), Le.new e, ⟨fun a u z => ?_, fun a u z => ?_, r.gg.frz _ _ _ _ r.gi e h (fun _ z => by cases z), r.gg⟩, upd_same⟩
    · by_cases n : a = p
      · subst n; rw [upd_same] at z; rw [← z]; exact h
      · rw [upd_ne n] at z; exact r.sub _ _ z
    · obtain ⟨g1, u', g2, g3⟩ := r.cel a u z
      have n : a ≠ p := by
        intro y
        subst y
        rw [h] at g2
        cases g2
        exact cell_ntup g3 rfl
      exact ⟨by rw [upd_ne n]; exact g1, u', g2, g3.le (Le.new e)⟩
end
/-! ### the names' values -/
abbrev DEnv := List (Option D)
structure RepE (K : PySem.W.Frag) (F : Hp) (env : DEnv) (σ : St) : Prop where
  len : env.length = σ.length
  val : ∀ (i : Nat) (d : D), env[i]? = some (some d) → ∃ v, σ[i]? = some (some v) ∧ DV K F v d
section
variable {K : PySem.W.Frag} {GI : Hp → Hp → Prop} {F F' H : Hp} {env : DEnv} {σ : St}
theorem RepE.le (l : Le F F') (r : RepE K F env σ) : RepE K F' env σ := ⟨r.len, fun i d e => let ⟨v, h, q⟩ := r.val i d e; ⟨v, h, q.le l⟩⟩
theorem RepE.set (r : RepE K F env σ) {v : V} {d : D} (i : Nat) (q : DV K F v d) : RepE K F (env.set i (some d)) (σ.set i (some v)) := by
  refine ⟨by simpa using r.len, fun j e h => ?_⟩
  by_cases n : i = j
  · subst n
    by_cases l : i < env.length
    · rw [List.getElem?_set_self l] at h
      cases h
      exact ⟨v, by rw [List.getElem?_set_self (by rw [← r.len]; exact l)], q⟩
    · rw [List.set_eq_of_length_le (by omega)] at h
      rw [List.getElem?_eq_none (by omega)] at h
      cases h
  · rw [List.getElem?_set_ne n] at h
    obtain ⟨v', h1, h2⟩ := r.val j e h
    exact ⟨v', by rw [List.getElem?_set_ne n]; exact h1, h2⟩
theorem RepE.clear (r : RepE K F env σ) (i : Nat) {x : Option V} : RepE K F (env.set i none) (σ.set i x) := by
  refine ⟨by simpa using r.len, fun j e h => ?_⟩
  by_cases n : i = j
  · subst n
    by_cases l : i < env.length
    · rw [List.getElem?_set_self l] at h; cases h
    · rw [List.set_eq_of_length_le (by omega)] at h
      rw [List.getElem?_eq_none (by omega)] at h
      cases h
  · rw [List.getElem?_set_ne n] at h
    obtain ⟨v', h1, h2⟩ := r.val j e h
    exact ⟨v', by rw [List.getElem?_set_ne n]; exact h1, h2⟩
def wipeE (env : DEnv) : List Nat → DEnv
  | [] => env
  | v :: vs => (wipeE env vs).set v none
theorem RepE.wipe (r : RepE K F env σ) : ∀ vs : List Nat, RepE K F (wipeE env vs) (wipe σ vs)
  | [] => r
  | v :: vs => (RepE.wipe r vs).clear v
def startE (n : Nat) (ds : List D) : DEnv := ds.map some ++ List.replicate (n - ds.length) none
theorem RepE.start {N : List Str} {vs : List V} {ds : List D} (h : DVs K F vs ds) : RepE K F (startE N.length ds) (start N vs) := by
  have hl := h.length
  unfold startE L2.start
  refine ⟨by simp [hl], fun i d e => ?_⟩
  by_cases q : i < ds.length
  · rw [List.getElem?_append_left (by simpa using q)] at e
    rw [List.getElem?_append_left (by simp [hl]; exact q)]
    simp only [List.getElem?_map] at e ⊢
    cases z : ds[i]? with
    | none => rw [z] at e; cases e
    | some d' =>
      rw [z] at e
      simp at e; subst e
      obtain ⟨v, h1, h2⟩ := h.at i z
      exact ⟨v, by rw [h1]; rfl, h2⟩
  · rw [List.getElem?_append_right (by simpa using q)] at e
    rw [List.getElem?_replicate] at e
    split at e <;> simp at e
end
end DL
/-! the data layer: judgements; expressions -/
namespace DL
open PySem PySem.Spec L2
open PyProof.Rows hiding St

abbrev DK := D → CMap → Prop
abbrev XD := Value → Option Addr → CMap → Prop
abbrev WE := XD → DEnv → CMap → DK → Prop
abbrev WT := XD → DEnv → CMap → (Bool → CMap → Prop) → Prop
abbrev WA := XD → DEnv → CMap → (List D → CMap → Prop) → Prop
structure DEnds where
  nx : DEnv → CMap → Prop
  rt : DK
  bk : DEnv → CMap → Prop := fun _ _ => False
  ct : DEnv → CMap → Prop := fun _ _ => False
  ex : Value → Option Addr → DEnv → CMap → Prop := fun _ _ _ _ => False
abbrev WS := DEnds → DEnv → CMap → Prop

structure XOk (X : Cx) (W : WX) : Prop where
  nd : X.N.Nodup
  tk : Takes X W
  own : PassesOwn (model X.prog X.w) X.A X.env X.xe

section
variable (K : PySem.W.Frag) (GI : Hp → Hp → Prop)
def LX (W : WX) (F : Hp) (σ : St) (E : XD) : Prop := ∀ F' c' H' cls od, Le F F' → Rep K GI F' c' H' → E cls od c' → W cls od σ H'
def LQ (F : Hp) (Qd : DK) (Q : VK) : Prop := ∀ F' c' H' v d, Le F F' → Rep K GI F' c' H' → DV K F' v d → Qd d c' → Q v H'
def lowE (W : WX) (we : WE) : TE := fun σ H Q => ∃ F env c E Qd, RepE K F env σ ∧ Rep K GI F c H ∧ LX K GI W F σ E ∧ we E env c Qd ∧ LQ K GI F Qd Q
def lowT (W : WX) (wt : WT) : TT := fun σ H Q => ∃ F env c E Qd, RepE K F env σ ∧ Rep K GI F c H ∧ LX K GI W F σ E ∧ wt E env c Qd ∧ ∀ F' c' H' b, Le F F' → Rep K GI F' c' H' → Qd b c' → Q b H'
def lowA (W : WX) (wa : WA) : TA := fun σ H Q => ∃ F env c E Qd, RepE K F env σ ∧ Rep K GI F c H ∧ LX K GI W F σ E ∧ wa E env c Qd ∧ ∀ F' c' H' vs ds, Le F F' → Rep K GI F' c' H' → DVs K F' vs ds → Qd ds c' → Q vs H'
structure LS (W : WX) (F : Hp) (DD : DEnds) (Dn : Ends) : Prop where
  nx : ∀ F' env' c' σ' H', Le F F' → RepE K F' env' σ' → Rep K GI F' c' H' → DD.nx env' c' → Dn.nx σ' H'
  rt : ∀ F' c' H' v d, Le F F' → Rep K GI F' c' H' → DV K F' v d → DD.rt d c' → Dn.rt v H'
  bk : ∀ F' env' c' σ' H', Le F F' → RepE K F' env' σ' → Rep K GI F' c' H' → DD.bk env' c' → Dn.bk σ' H'
  ct : ∀ F' env' c' σ' H', Le F F' → RepE K F' env' σ' → Rep K GI F' c' H' → DD.ct env' c' → Dn.ct σ' H'
  ex : ∀ F' env' c' σ' H' cls od, Le F F' → RepE K F' env' σ' → Rep K GI F' c' H' → DD.ex cls od env' c' → W cls od σ' H'
def lowS (W : WX) (ws : WS) : TS := fun Dn σ H => ∃ F env c DD, RepE K F env σ ∧ Rep K GI F c H ∧ ws DD env c ∧ LS K GI W F DD Dn
end
def CE (GI : Hp → Hp → Prop) (X : Cx) (e : Expr) (we : WE) : Prop := ∀ W, XOk X W → PE X e (lowE X.K GI W we)
def CT (GI : Hp → Hp → Prop) (X : Cx) (e : Expr) (wt : WT) : Prop := ∀ W, XOk X W → PT X e (lowT X.K GI W wt)
def CA (GI : Hp → Hp → Prop) (X : Cx) (es : List Expr) (wa : WA) : Prop := ∀ W, XOk X W → PA X es (lowA X.K GI W wa)
def CS (GI : Hp → Hp → Prop) (X : Cx) (st : Stmt) (ws : WS) : Prop := ∀ W, XOk X W → PS X st (lowS X.K GI W ws)
def CSs (GI : Hp → Hp → Prop) (X : Cx) (st : List Stmt) (ws : WS) : Prop := ∀ W, XOk X W → PSs X st (lowS X.K GI W ws)

section
variable {K : PySem.W.Frag} {GI : Hp → Hp → Prop} {W : WX} {F F' H : Hp} {σ : St} {E : XD} {env : DEnv} {c : CMap}
theorem LX.le (l : Le F F') (h : LX K GI W F σ E) : LX K GI W F' σ E := fun G c' H' cls od l' => h G c' H' cls od (l.trans' l')
theorem LQ.le {Qd : DK} {Q : VK} (l : Le F F') (h : LQ K GI F Qd Q) : LQ K GI F' Qd Q := fun G c' H' v d l' => h G c' H' v d (l.trans' l')
theorem LS.le {DD : DEnds} {Dn : Ends} (l : Le F F') (h : LS K GI W F DD Dn) : LS K GI W F' DD Dn :=
  ⟨fun G e' c' s' H' l' => h.nx G e' c' s' H' (l.trans' l'), fun G c' H' v d l' => h.rt G c' H' v d (l.trans' l'), fun G e' c' s' H' l' => h.bk G e' c' s' H' (l.trans' l'),
    fun G e' c' s' H' l' => h.ct G e' c' s' H' (l.trans' l'), fun G e' c' s' H' cls od l' => h.ex G e' c' s' H' cls od (l.trans' l')⟩
/-- a statement's wish of exceptions, for its expressions -/
abbrev exE (DD : DEnds) (env : DEnv) : XD := fun cls od c' => DD.ex cls od env c'
theorem LS.lx {DD : DEnds} {Dn : Ends} (h : LS K GI W F DD Dn) (e : RepE K F env σ) : LX K GI W F σ (exE DD env) := fun G c' H' cls od l r q => h.ex G env c' σ H' cls od l (e.le l) r q
theorem pe_imp {X : Cx} {e : Expr} {t t' : TE} (h : PE X e t) (k : ∀ σ H Q, t' σ H Q → t σ H Q) : PE X e t' := ⟨fun pins s σ H Q I q => h.run pins s σ H Q I (k _ _ _ q)⟩
theorem pt_imp {X : Cx} {e : Expr} {t t' : TT} (h : PT X e t) (k : ∀ σ H Q, t' σ H Q → t σ H Q) : PT X e t' := ⟨fun pins s σ H Q I q => h.run pins s σ H Q I (k _ _ _ q)⟩
theorem pa_imp {X : Cx} {e : List Expr} {t t' : TA} (h : PA X e t) (k : ∀ σ H Q, t' σ H Q → t σ H Q) : PA X e t' := ⟨fun p pins s σ H Q I q => h.run p pins s σ H Q I (k _ _ _ q)⟩
theorem ps_imp {X : Cx} {e : Stmt} {t t' : TS} (h : PS X e t) (k : ∀ Dn σ H, t' Dn σ H → t Dn σ H) : PS X e t' := ⟨fun pins s σ H Dn I q => h.run pins s σ H Dn I (k _ _ _ q)⟩
theorem pss_imp {X : Cx} {e : List Stmt} {t t' : TS} (h : PSs X e t) (k : ∀ Dn σ H, t' Dn σ H → t Dn σ H) : PSs X e t' := ⟨fun pins s σ H Dn I q => h.run pins s σ H Dn I (k _ _ _ q)⟩
end

/-! ### names, constants -/
def getE : DEnv → Nat → Option D
  | [], _ => none
  | x :: _, 0 => x
  | _ :: r, n + 1 => getE r n
theorem getE_at : ∀ {env : DEnv} {i : Nat} {d : D}, getE env i = some d → env[i]? = some (some d)
  | [], _, _, h => by cases h
  | x :: _, 0, d, h => by simp only [getE] at h; simp [h]
  | _ :: r, n + 1, d, h => by simp only [getE] at h; simpa using getE_at h
def wVar (i : Nat) : WE := fun _ env c Q => ∃ d, getE env i = some d ∧ Q d c
def wC (d : D) : WE := fun _ _ c Q => Q d c
section
variable {GI : Hp → Hp → Prop} {X : Cx} {pos : Pos}
theorem ce_var (i : Nat) {x : Str} (hN : X.N[i]? = some x := by rfl) (hv : Vis X.env.scope x := by first | exact Or.inl rfl | exact Or.inr (Or.inl rfl) | exact Or.inr (Or.inr rfl)) (hd : (x == ("__debug__" : Str)) = false := by decide)
    (hcd : (x == ("__classdict__" : Str)) = false := by decide) : CE GI X (.Name x pos) (wVar i) := fun W _ => by
  refine pe_imp (pe_var hN hv hd hcd) ?_
  rintro σ H Q ⟨F, env, c, E, Qd, re, r, lx, ⟨d, h, q⟩, k⟩
  obtain ⟨v, h1, h2⟩ := re.val i d (getE_at h)
  exact ⟨v, h1, k F c H v d Le.rfl' r h2 q⟩
theorem ce_tC {e : Expr} {v : V} {d : D} (h : PE X e (tC v)) (hd : ∀ F, DV X.K F v d) : CE GI X e (wC d) := fun W _ => by
  refine pe_imp h ?_
  rintro σ H Q ⟨F, env, c, E, Qd, re, r, lx, q, k⟩
  exact k F c H v d Le.rfl' r (hd F) q
theorem ce_int {i : Int} {j : Nat} : CE GI X (.Constant (.int i) j pos) (wC (.int i)) := ce_tC pe_int fun _ => .int i
theorem ce_bl {b : Bool} {j : Nat} : CE GI X (.Constant (.bool b) j pos) (wC (.bl b)) := ce_tC pe_bl fun _ => .bl b
theorem ce_non {j : Nat} : CE GI X (.Constant .none j pos) (wC .non) := ce_tC pe_non fun _ => .non
theorem ce_str {x : Str} {j : Nat} : CE GI X (.Constant (.str x) j pos) (wC (.str x)) := ce_tC pe_str fun _ => .str x
/-- a module's constant -/
structure GlD (K : PySem.W.Frag) (mg : Str → Option Value) (x : Str) (d : D) : Prop where
  ex : ∃ v u, mg x = some u ∧ RelV v u ∧ ∀ F, DV K F v d
theorem ce_glob {x : Str} {d : D} (h : GlD X.K X.mg x d) (hg : Gl X x := by rfl) (hd : (x == ("__debug__" : Str)) = false := by decide) : CE GI X (.Name x pos) (wC d) := by
  obtain ⟨v, u, h1, h2, h3⟩ := h.ex
  exact ce_tC (pe_glob hg h1 h2 hd) h3
theorem ce_bty {x : Str} {n : String} (hm : X.mg x = none) (hv : bootBuiltins x = some (.type n) := by decide +kernel) (hg : Gl X x := by rfl) (hn : x ≠ "__name__" := by decide) (hd : (x == ("__debug__" : Str)) = false := by decide) : CE GI X (.Name x pos) (wC (.ty n)) :=
  ce_tC (pe_bltn hg hm hv (v := .ty n) rfl hn hd) fun _ => .ty n
end

/-! ### operators by values -/
abbrev RD2 := CMap → D → D → DK → Prop
def Snd2 (K : PySem.W.Frag) (GI : Hp → Hp → Prop) (r : R2) (R : RD2) : Prop := ∀ (F H : Hp) (c : CMap) (v1 v2 : V) (d1 d2 : D) (Qd : DK) (Q : VK), Rep K GI F c H → DV K F v1 d1 → DV K F v2 d2 → R c d1 d2 Qd → LQ K GI F Qd Q → r v1 v2 H Q
def wOp (R : RD2) (a b : WE) : WE := fun E env c Q => a E env c fun d c1 => b E env c1 fun e c2 => R c2 d e Q
section
variable {GI : Hp → Hp → Prop} {X : Cx} {pos : Pos} {a b : Expr} {wa wb : WE} {r : R2} {R : RD2}
theorem low_op {W : WX} (s : Snd2 X.K GI r R) : ∀ σ H Q, lowE X.K GI W (wOp R wa wb) σ H Q → tOp r (lowE X.K GI W wa) (lowE X.K GI W wb) σ H Q := by
  rintro σ H Q ⟨F, env, c, E, Qd, re, rp, lx, q, k⟩
  refine ⟨F, env, c, E, _, re, rp, lx, q, ?_⟩
  intro F1 c1 H1 v1 d1 l1 r1 h1 q1
  refine ⟨F1, env, c1, E, _, re.le l1, r1, lx.le l1, q1, ?_⟩
  intro F2 c2 H2 v2 d2 l2 r2 h2 q2
  exact s F2 H2 c2 v1 v2 d1 d2 Qd Q r2 (h1.le l2) h2 q2 (LQ.le (l1.trans' l2) k)
theorem ce_op {op : Operator} (ho : OpR X (binaryOp op) r) (s : Snd2 X.K GI r R) (ha : CE GI X a wa) (hb : CE GI X b wb) : CE GI X (.BinOp a op b pos) (wOp R wa wb) := fun W x =>
  pe_imp (pe_op ho (ha W x) (hb W x)) (low_op s)
theorem ce_cmp {op : CmpOp} (ho : OpR X (compareOp op) r) (s : Snd2 X.K GI r R) (ha : CE GI X a wa) (hb : CE GI X b wb) (hm : behindInMarks op b = false := by first | exact nomark _ | rfl) : CE GI X (.Compare a [op] [b] pos) (wOp R wa wb) := fun W x =>
  pe_imp (pe_cmpR ho (ha W x) (hb W x) hm) (low_op s)
end
/-- a value that is True or False -/
def asB : D → CMap → (Bool → CMap → Prop) → Prop
  | .bl b, c, k => k b c
  | _, _, _ => False
def wTst (a : WE) : WT := fun E env c Q => a E env c fun d c' => asB d c' Q
section
variable {GI : Hp → Hp → Prop} {X : Cx} {pos : Pos} {a b : Expr} {wa wb : WE} {r : R2} {R : RD2}
theorem asB_bl {d : D} {c : CMap} {k : Bool → CMap → Prop} (h : asB d c k) : ∃ b, d = .bl b ∧ k b c := by
  cases d <;> first | exact ⟨_, rfl, h⟩ | exact h.elim
theorem low_tst {W : WX} {t : TE} (ht : ∀ σ H Q, lowE X.K GI W wa σ H Q → t σ H Q) : ∀ σ H Q, lowT X.K GI W (wTst wa) σ H Q → (t σ H fun x H' => ∃ k, x = .bl k ∧ Q k H') := by
  rintro σ H Q ⟨F, env, c, E, Qd, re, rp, lx, q, k⟩
  refine ht _ _ _ ⟨F, env, c, E, _, re, rp, lx, q, ?_⟩
  intro F1 c1 H1 v1 d1 l1 r1 h1 q1
  obtain ⟨b, rfl, q2⟩ := asB_bl q1
  cases h1
  exact ⟨b, rfl, k F1 c1 H1 b l1 r1 q2⟩
theorem ct_cmp {op : CmpOp} (ho : OpR X (compareOp op) r) (s : Snd2 X.K GI r R) (ha : CE GI X a wa) (hb : CE GI X b wb) (hm : behindInMarks op b = false := by first | exact nomark _ | rfl) : CT GI X (.Compare a [op] [b] pos) (wTst (wOp R wa wb)) := fun W x =>
  pt_imp (pt_cmpR ho (ha W x) (hb W x) hm) (low_tst (low_op s))
theorem ct_val (ha : CE GI X a wa) (he : ∀ whole, isTrue a X.env whole = (do let v ← whole; standAt a.pos; holding [v] (truthy v)) := by intro _; rfl) : CT GI X a (wTst wa) := fun W x =>
  pt_imp (pt_val (ha W x) he) (low_tst fun _ _ _ h => h)
end
/-! ### and, or, not, if-else -/
def wAnd (s t : WT) : WT := fun E env c Q => s E env c fun b c1 => if b = true then t E env c1 Q else Q false c1
def wOr (s t : WT) : WT := fun E env c Q => s E env c fun b c1 => if b = true then Q true c1 else t E env c1 Q
def wNot (s : WT) : WT := fun E env c Q => s E env c fun b c1 => Q (!b) c1
def wIfE (t : WT) (a b : WE) : WE := fun E env c Q => t E env c fun k c1 => if k = true then a E env c1 Q else b E env c1 Q
def CW (GI : Hp → Hp → Prop) (X : Cx) (e : Expr) (wt : WT) : Prop := ∀ W, XOk X W → PW X e (lowT X.K GI W wt)
section
variable {GI : Hp → Hp → Prop} {X : Cx} {pos : Pos} {a b e : Expr} {rest : List Expr} {s t : WT} {wa wb : WE}
theorem pw_imp {X : Cx} {e : Expr} {t t' : TT} (h : PW X e t) (k : ∀ σ H Q, t' σ H Q → t σ H Q) : PW X e t' := ⟨fun w pins s σ H Q I q => h.run w pins s σ H Q I (k _ _ _ q)⟩
theorem CW.ct (h : CW GI X e t) : CT GI X e t := fun W x => (h W x).pt
theorem cw_and1 (h : CT GI X a t) : CW GI X (.BoolOp .And [a] pos) t := fun W x => pw_and1 (h W x)
theorem cw_or1 (h : CT GI X a t) : CW GI X (.BoolOp .Or [a] pos) t := fun W x => pw_or1 (h W x)
theorem cw_and (h : CT GI X a s) (h2 : CW GI X (.BoolOp .And (b :: rest) pos) t) : CW GI X (.BoolOp .And (a :: b :: rest) pos) (wAnd s t) := fun W x => by
  refine pw_imp (pw_and (h W x) (h2 W x)) ?_
  rintro σ H Q ⟨F, env, c, E, Qd, re, rp, lx, q, k⟩
  refine ⟨F, env, c, E, _, re, rp, lx, q, ?_⟩
  intro F1 c1 H1 b1 l1 r1 q1
  cases b1 with
  | true => rw [if_pos rfl] at q1 ⊢; exact ⟨F1, env, c1, E, Qd, re.le l1, r1, lx.le l1, q1, fun F2 c2 H2 b2 l2 => k F2 c2 H2 b2 (l1.trans' l2)⟩
  | false => rw [if_neg (by decide)] at q1 ⊢; exact k F1 c1 H1 false l1 r1 q1
theorem cw_or (h : CT GI X a s) (h2 : CW GI X (.BoolOp .Or (b :: rest) pos) t) : CW GI X (.BoolOp .Or (a :: b :: rest) pos) (wOr s t) := fun W x => by
  refine pw_imp (pw_or (h W x) (h2 W x)) ?_
  rintro σ H Q ⟨F, env, c, E, Qd, re, rp, lx, q, k⟩
  refine ⟨F, env, c, E, _, re, rp, lx, q, ?_⟩
  intro F1 c1 H1 b1 l1 r1 q1
  cases b1 with
  | false => rw [if_neg (by decide)] at q1 ⊢; exact ⟨F1, env, c1, E, Qd, re.le l1, r1, lx.le l1, q1, fun F2 c2 H2 b2 l2 => k F2 c2 H2 b2 (l1.trans' l2)⟩
  | true => rw [if_pos rfl] at q1 ⊢; exact k F1 c1 H1 true l1 r1 q1
theorem ct_not (h : CT GI X a s) : CT GI X (.UnaryOp .Not a pos) (wNot s) := fun W x => by
  refine pt_imp (pt_not (h W x)) ?_
  rintro σ H Q ⟨F, env, c, E, Qd, re, rp, lx, q, k⟩
  exact ⟨F, env, c, E, _, re, rp, lx, q, fun F1 c1 H1 b1 l1 r1 q1 => k F1 c1 H1 _ l1 r1 q1⟩
theorem ce_if (h : CT GI X e t) (ha : CE GI X a wa) (hb : CE GI X b wb) : CE GI X (.IfExp e a b pos) (wIfE t wa wb) := fun W x => by
  refine pe_imp (pe_ifExp (h W x) (ha W x) (hb W x)) ?_
  rintro σ H Q ⟨F, env, c, E, Qd, re, rp, lx, q, k⟩
  refine ⟨F, env, c, E, _, re, rp, lx, q, ?_⟩
  intro F1 c1 H1 b1 l1 r1 q1
  cases b1 with
  | true => rw [if_pos rfl] at q1 ⊢; exact ⟨F1, env, c1, E, Qd, re.le l1, r1, lx.le l1, q1, k.le l1⟩
  | false => rw [if_neg (by decide)] at q1 ⊢; exact ⟨F1, env, c1, E, Qd, re.le l1, r1, lx.le l1, q1, k.le l1⟩
/-- .. as values -/
def wAndV (a b : WE) : WE := fun E env c Q => a E env c fun d c1 => asB d c1 fun k c2 => if k = true then b E env c2 Q else Q (.bl false) c2
def wOrV (a b : WE) : WE := fun E env c Q => a E env c fun d c1 => asB d c1 fun k c2 => if k = true then Q (.bl true) c2 else b E env c2 Q
def wNotV (a : WE) : WE := fun E env c Q => a E env c fun d c1 => asB d c1 fun k c2 => Q (.bl (!k)) c2
theorem ce_bone {op : BoolOp} (h : CE GI X a wa) : CE GI X (.BoolOp op [a] pos) wa := fun W x => pe_one (h W x)
theorem ce_and (h : CE GI X a wa) (h2 : CE GI X (.BoolOp .And (b :: rest) pos) wb) : CE GI X (.BoolOp .And (a :: b :: rest) pos) (wAndV wa wb) := fun W x => by
  refine pe_imp (pe_and (h W x) (h2 W x)) ?_
  rintro σ H Q ⟨F, env, c, E, Qd, re, rp, lx, q, k⟩
  refine ⟨F, env, c, E, _, re, rp, lx, q, ?_⟩
  intro F1 c1 H1 v1 d1 l1 r1 h1 q1
  obtain ⟨b, rfl, q2⟩ := asB_bl q1
  cases h1
  refine ⟨b, rfl, ?_⟩
  cases b with
  | true => rw [if_pos rfl] at q2 ⊢; exact ⟨F1, env, c1, E, Qd, re.le l1, r1, lx.le l1, q2, k.le l1⟩
  | false => rw [if_neg (by decide)] at q2 ⊢; exact k F1 c1 H1 _ _ l1 r1 (.bl false) q2
theorem ce_or (h : CE GI X a wa) (h2 : CE GI X (.BoolOp .Or (b :: rest) pos) wb) : CE GI X (.BoolOp .Or (a :: b :: rest) pos) (wOrV wa wb) := fun W x => by
  refine pe_imp (pe_or (h W x) (h2 W x)) ?_
  rintro σ H Q ⟨F, env, c, E, Qd, re, rp, lx, q, k⟩
  refine ⟨F, env, c, E, _, re, rp, lx, q, ?_⟩
  intro F1 c1 H1 v1 d1 l1 r1 h1 q1
  obtain ⟨b, rfl, q2⟩ := asB_bl q1
  cases h1
  refine ⟨b, rfl, ?_⟩
  cases b with
  | false => rw [if_neg (by decide)] at q2 ⊢; exact ⟨F1, env, c1, E, Qd, re.le l1, r1, lx.le l1, q2, k.le l1⟩
  | true => rw [if_pos rfl] at q2 ⊢; exact k F1 c1 H1 _ _ l1 r1 (.bl true) q2
theorem ce_not (h : CE GI X a wa) : CE GI X (.UnaryOp .Not a pos) (wNotV wa) := fun W x => by
  refine pe_imp (pe_not (h W x)) ?_
  rintro σ H Q ⟨F, env, c, E, Qd, re, rp, lx, q, k⟩
  refine ⟨F, env, c, E, _, re, rp, lx, q, ?_⟩
  intro F1 c1 H1 v1 d1 l1 r1 h1 q1
  obtain ⟨b, rfl, q2⟩ := asB_bl q1
  cases h1
  exact ⟨b, rfl, k F1 c1 H1 _ _ l1 r1 (.bl _) q2⟩
end
/-! ### arguments, displays, calls by values -/
def wNil : WA := fun _ _ c Q => Q [] c
def wCons (a : WE) (r : WA) : WA := fun E env c Q => a E env c fun d c1 => r E env c1 fun ds c2 => Q (d :: ds) c2
def newL (m : Bool) (c : CMap) (ds : List D) (Q : DK) : Prop := if m = true then ∀ p, c p = none → Q (.ref p) (updc c p (.lst ds)) else Q (.lst ds) c
def wTup (r : WA) : WE := fun E env c Q => r E env c fun ds c1 => ds.length ≤ sizeLine ∧ Q (.tup ds) c1
def wLst (m : Bool) (r : WA) : WE := fun E env c Q => r E env c fun ds c1 => ds.length ≤ sizeLine ∧ newL m c1 ds Q
theorem newL_snd {K : PySem.W.Frag} {GI : Hp → Hp → Prop} {F H : Hp} {c : CMap} {vs : List V} {ds : List D} {m : Bool} {Qd : DK} {Q : VK} (r : Rep K GI F c H) (h : DVs K F vs ds) (q : newL m c ds Qd) (k : LQ K GI F Qd Q) : ∀ p, H p = none → Q (.ref p) (upd H p (.lst vs)) := by
  intro p hp
  unfold newL at q
  cases m with
  | true =>
    rw [if_pos rfl] at q
    exact k F _ _ _ _ Le.rfl' (r.newC (k := .lst ds) hp ⟨vs, rfl, h⟩) (.ref p) (q p (r.frc hp))
  | false =>
    rw [if_neg (by decide)] at q
    have l : Le F (upd F p (.lst vs)) := Le.new (r.fr hp)
    exact k _ _ _ _ _ l (r.newF hp) (.lst upd_same (h.le l)) q
theorem newT_snd {K : PySem.W.Frag} {GI : Hp → Hp → Prop} {F H : Hp} {c : CMap} {vs : List V} {ds : List D} {Qd : DK} {Q : VK} (r : Rep K GI F c H) (h : DVs K F vs ds) (q : Qd (.tup ds) c) (k : LQ K GI F Qd Q) : ∀ p, H p = none → Q (.ref p) (upd H p (.tup vs)) := by
  intro p hp
  have l : Le F (upd F p (.tup vs)) := Le.new (r.fr hp)
  exact k _ _ _ _ _ l (r.newF hp) (.tup upd_same (h.le l)) q
section
variable {GI : Hp → Hp → Prop} {X : Cx} {pos : Pos} {e : Expr} {es : List Expr} {wa : WE} {wr : WA}
theorem ca_nil : CA GI X [] wNil := fun W x => by
  refine pa_imp pa_nil ?_
  rintro σ H Q ⟨F, env, c, E, Qd, re, rp, lx, q, k⟩
  exact k F c H [] [] Le.rfl' rp .nil q
theorem ca_cons (ha : CE GI X e wa) (hr : CA GI X es wr) (hs : starEach (e :: es) X.env = (false, eval e X.env) :: starEach es X.env := by rfl) : CA GI X (e :: es) (wCons wa wr) := fun W x => by
  refine pa_imp (pa_cons (ha W x) (hr W x) hs) ?_
  rintro σ H Q ⟨F, env, c, E, Qd, re, rp, lx, q, k⟩
  refine ⟨F, env, c, E, _, re, rp, lx, q, ?_⟩
  intro F1 c1 H1 v1 d1 l1 r1 h1 q1
  refine ⟨F1, env, c1, E, _, re.le l1, r1, lx.le l1, q1, ?_⟩
  intro F2 c2 H2 vs ds l2 r2 h2 q2
  exact k F2 c2 H2 _ _ (l1.trans' l2) r2 (.cons (h1.le l2) h2) q2
theorem ce_tup {x1 : Nat} (h : CA GI X es wr) : CE GI X (.Tuple es x1 pos) (wTup wr) := fun W x => by
  refine pe_imp (pe_tup (h W x)) ?_
  rintro σ H Q ⟨F, env, c, E, Qd, re, rp, lx, q, k⟩
  refine ⟨F, env, c, E, _, re, rp, lx, q, ?_⟩
  intro F1 c1 H1 vs ds l1 r1 h1 ⟨q1, q2⟩
  exact ⟨by rw [h1.length]; exact q1, newT_snd r1 h1 q2 (k.le l1)⟩
theorem ce_lst (m : Bool) (h : CA GI X es wr) : CE GI X (.List es pos) (wLst m wr) := fun W x => by
  refine pe_imp (pe_lst (h W x)) ?_
  rintro σ H Q ⟨F, env, c, E, Qd, re, rp, lx, q, k⟩
  refine ⟨F, env, c, E, _, re, rp, lx, q, ?_⟩
  intro F1 c1 H1 vs ds l1 r1 h1 ⟨q1, q2⟩
  exact ⟨by rw [h1.length]; exact q1, newL_snd r1 h1 q2 (k.le l1)⟩
end
abbrev RDn := CMap → List D → DK → Prop
def SndN (K : PySem.W.Frag) (GI : Hp → Hp → Prop) (r : List V → Hp → VK → Prop) (R : RDn) : Prop := ∀ (F H : Hp) (c : CMap) (vs : List V) (ds : List D) (Qd : DK) (Q : VK), Rep K GI F c H → DVs K F vs ds → R c ds Qd → LQ K GI F Qd Q → r vs H Q
def wFn (R : RDn) (r : WA) : WE := fun E env c Q => r E env c fun ds c1 => R c1 ds Q
section
variable {GI : Hp → Hp → Prop} {X : Cx} {x : Str} {p pos : Pos} {e : Expr} {es : List Expr} {wr : WA} {id T : String} {r : List V → Hp → VK → Prop} {R : RDn}
theorem low_fn {W : WX} (s : SndN X.K GI r R) : ∀ σ H Q, lowE X.K GI W (wFn R wr) σ H Q → tCB r (lowA X.K GI W wr) σ H Q := by
  rintro σ H Q ⟨F, env, c, E, Qd, re, rp, lx, q, k⟩
  refine ⟨F, env, c, E, _, re, rp, lx, q, ?_⟩
  intro F1 c1 H1 vs ds l1 r1 h1 q1
  exact s F1 H1 c1 vs ds Qd Q r1 h1 q1 (k.le l1)
/-- a built-in function -/
theorem ce_bfn (hc : CallR X (.builtin id) r) (s : SndN X.K GI r R) (hm : X.mg x = none) (ha : CA GI X (e :: es) wr) (hv : bootBuiltins x = some (.builtin id) := by decide +kernel) (hg : Gl X x := by rfl) (hn : x ≠ "__name__" := by decide) (hdb : (x == ("__debug__" : Str)) = false := by decide)
    (he : starEach (e :: es) X.env = (false, eval e X.env) :: starEach es X.env := by rfl) (hpl : (backTo pos (starEach es X.env)).any (·.1) = false := by rfl) : CE GI X (.Call (.Name x p) (e :: es) [] pos) (wFn R wr) := fun W xo =>
  pe_imp (pe_callB hc hg hm hv (ha W xo) hn hdb he hpl) (low_fn s)
/-- a built-in type -/
theorem ce_bcl (hc : CallR X (.type T) r) (s : SndN X.K GI r R) (hm : X.mg x = none) (ha : CA GI X (e :: es) wr) (hv : bootBuiltins x = some (.type T) := by decide +kernel) (hg : Gl X x := by rfl) (hn : x ≠ "__name__" := by decide) (hdb : (x == ("__debug__" : Str)) = false := by decide)
    (he : starEach (e :: es) X.env = (false, eval e X.env) :: starEach es X.env := by rfl) (hpl : (backTo pos (starEach es X.env)).any (·.1) = false := by rfl) : CE GI X (.Call (.Name x p) (e :: es) [] pos) (wFn R wr) := fun W xo =>
  pe_imp (pe_callTy hc hg hm hv (ha W xo) hn hdb he hpl) (low_fn s)
end
/-! ### defs of the text -/
abbrev DSpec := List D → CMap → XD → DK → Prop
def lowSp (K : PySem.W.Frag) (GI : Hp → Hp → Prop) (sp : DSpec) : Sp := fun vs H Q Ex => ∃ F ds c E Qd, DVs K F vs ds ∧ Rep K GI F c H ∧ sp ds c E Qd ∧ LQ K GI F Qd Q ∧ ∀ F' c' H' cls od, Le F F' → Rep K GI F' c' H' → E cls od c' → Ex cls od H'
/-- a def that keeps its promise -/
structure FnD (GI : Hp → Hp → Prop) (P : Program) (w : World) (K : PySem.W.Frag) (mg : Str → Option Value) (base : Heap) (k : Nat) (f : Addr) (n : Nat) (sp : DSpec) : Prop where
  ex : ∃ fd ps, ps.length = n ∧ PySem.W.keepIn K (.ref f) = true ∧ Binds K fd ps [] ∧ FnOk P w K mg base (L2.CX P w) k f fd ps (lowSp K GI sp)
abbrev HasF (GI : Hp → Hp → Prop) (X : Cx) (k : Nat) (x : Str) (n : Nat) (sp : DSpec) : Prop := ∃ f, X.mg x = some (.ref f) ∧ FnD GI X.prog X.w X.K X.mg X.base k f n sp
def wCall (sp : DSpec) (r : WA) : WE := fun E env c Q => r E env c fun ds c1 => sp ds c1 E Q
section
variable {GI : Hp → Hp → Prop} {X : Cx} {x : Str} {p pos : Pos} {e : Expr} {es : List Expr} {wr : WA} {sp : DSpec} {k n : Nat}
theorem ce_call (h : HasF GI X k x n sp) (hr : Room k X.A) (ha : CA GI X (e :: es) wr) (hg : Gl X x := by rfl) (hdb : (x == ("__debug__" : Str)) = false := by decide)
    (he : starEach (e :: es) X.env = (false, eval e X.env) :: starEach es X.env := by rfl) (hpl : (backTo pos (starEach es X.env)).any (·.1) = false := by rfl) : CE GI X (.Call (.Name x p) (e :: es) [] pos) (wCall sp wr) := fun W xo => by
  obtain ⟨f, hm, ⟨fd, ps, hl, kp, b, F⟩⟩ := h
  refine pe_imp (pe_callS F hr hg hm kp b (fun σ => passAt xo.tk σ) (ha W xo) hdb he hpl) ?_
  rintro σ H Q ⟨F, env, c, E, Qd, re, rp, lx, q, k⟩
  refine ⟨F, env, c, E, _, re, rp, lx, q, ?_⟩
  intro F1 c1 H1 vs ds l1 r1 h1 q1
  exact ⟨F1, ds, c1, E, Qd, h1, r1, q1, k.le l1, lx.le l1⟩
end
end DL
/-! the data layer: operators, subscripts, built-ins by values -/
namespace DL
open PySem PySem.Spec L2
open PyProof.Rows hiding St

/-- a list that is a cell, as its items -/
def resAt : Option Cell → Addr → D
  | some (.lst ds), _ => .lst ds
  | _, p => .ref p
def res (c : CMap) : D → D
  | .ref p => resAt (c p) p
  | d => d
section
variable {K : PySem.W.Frag} {GI : Hp → Hp → Prop} {F H : Hp} {c : CMap} {v : V} {d : D}
theorem resAt_cases (o : Option Cell) (p : Addr) : (∃ ds, o = some (.lst ds) ∧ resAt o p = .lst ds) ∨ resAt o p = .ref p := by
  unfold resAt
  split
  · exact .inl ⟨_, rfl, rfl⟩
  · exact .inr rfl
theorem res_oth {d' : D} (e : res c d = d') (h : ∀ ds, d' ≠ .lst ds) : d = d' := by
  cases d with
  | ref p =>
    rcases resAt_cases (c p) p with ⟨ds, _, e2⟩ | e2
    · exact absurd (e.symm.trans e2) (h ds)
    · exact e2.symm.trans e
  | _ => exact e
theorem res_lst (r : Rep K GI F c H) (h : DV K F v d) {ds : List D} (e : res c d = .lst ds) : ∃ a xs, v = .ref a ∧ H a = some (.lst xs) ∧ DVs K F xs ds := by
  cases d with
  | ref p =>
    rcases resAt_cases (c p) p with ⟨es, e1, e2⟩ | e2
    · have q : D.lst es = .lst ds := e2.symm.trans e
      injection q with q
      subst q
      obtain ⟨vs, h1, h2⟩ := r.lst e1
      cases h
      exact ⟨p, vs, rfl, h1, h2⟩
    · have q : D.ref p = .lst ds := e2.symm.trans e
      cases q
  | lst es =>
    have q : D.lst es = .lst ds := e
    injection q with q
    subst q
    cases h with
    | lst h1 h2 => exact ⟨_, _, rfl, r.sub _ _ h1, h2⟩
  | non => have q : D.non = .lst ds := e; cases q
  | bl _ => have q : D.bl _ = .lst ds := e; cases q
  | int _ => have q : D.int _ = .lst ds := e; cases q
  | str _ => have q : D.str _ = .lst ds := e; cases q
  | tup _ => have q : D.tup _ = .lst ds := e; cases q
  | kt _ => have q : D.kt _ = .lst ds := e; cases q
  | scr _ => have q : D.scr _ = .lst ds := e; cases q
  | ty _ => have q : D.ty _ = .lst ds := e; cases q
end
/-- closers for a split over resolved values -/
theorem DV.int_inv {K : PySem.W.Frag} {F : Hp} {v : V} {i : Int} (h : DV K F v (.int i)) : v = .int i := by cases h; rfl
theorem DV.str_inv {K : PySem.W.Frag} {F : Hp} {v : V} {i : Str} (h : DV K F v (.str i)) : v = .str i := by cases h; rfl
theorem DV.bl_inv {K : PySem.W.Frag} {F : Hp} {v : V} {i : Bool} (h : DV K F v (.bl i)) : v = .bl i := by cases h; rfl
theorem DV.non_inv {K : PySem.W.Frag} {F : Hp} {v : V} (h : DV K F v .non) : v = .non := by cases h; rfl
theorem DV.ref_inv {K : PySem.W.Frag} {F : Hp} {v : V} {a : Addr} (h : DV K F v (.ref a)) : v = .ref a := by cases h; rfl
theorem DV.tup_inv {K : PySem.W.Frag} {F : Hp} {v : V} {ds : List D} (h : DV K F v (.tup ds)) : ∃ a xs, v = .ref a ∧ F a = some (.tup xs) ∧ DVs K F xs ds := by
  cases h with
  | tup h1 h2 => exact ⟨_, _, rfl, h1, h2⟩
theorem DV.kt_inv {K : PySem.W.Frag} {F : Hp} {v : V} {ds : List D} (h : DV K F v (.kt ds)) : ∃ a xs, v = .ref a ∧ SqT K F a xs ∧ DVs K F xs ds := by
  cases h with
  | kt h1 h2 => exact ⟨_, _, rfl, h1, h2⟩
theorem DV.scr_inv {K : PySem.W.Frag} {F : Hp} {v : V} {ns : List Int} (h : DV K F v (.scr ns)) : ∃ a, v = .ref a ∧ SqL K F a (ns.map V.int) := by
  cases h with
  | scr h1 => exact ⟨_, rfl, h1⟩

/-! ### arithmetic -/
def addR (m : Bool) : RD2 := fun c d e Q => match res c d, res c e with
  | .int i, .int j => Q (.int (i + j)) c
  | .str x, .str y => x.length + y.length ≤ sizeLine ∧ Q (.str (x ++ y)) c
  | .lst a, .lst b => a.length + b.length ≤ sizeLine ∧ newL m c (a ++ b) Q
  | .tup a, .tup b => a ≠ [] ∧ b ≠ [] ∧ a.length + b.length ≤ sizeLine ∧ Q (.tup (a ++ b)) c
  | _, _ => False
def subR : RD2 := fun c d e Q => match d, e with
  | .int i, .int j => Q (.int (i - j)) c
  | _, _ => False
def mulR (m : Bool) : RD2 := fun c d e Q => match res c d, res c e with
  | .int i, .int j => (CMul i j ∨ CMulW i j) ∧ Q (.int (i * j)) c
  | .lst a, .int k => -(2 ^ 63) ≤ k ∧ k < 2 ^ 63 ∧ a.length * k.toNat ≤ sizeLine ∧ newL m c (List.replicate k.toNat a).flatten Q
  | _, _ => False
def fdivR : RD2 := fun c d e Q => match d, e with
  | .int i, .int j => (CDiv i j ∨ CDivW i j) ∧ Q (.int (i / j)) c
  | _, _ => False
def modR : RD2 := fun c d e Q => match d, e with
  | .int i, .int j => 0 < j ∧ Q (.int (i % j)) c
  | _, _ => False
def powR : RD2 := fun c d e Q => match d, e with
  | .int i, .int j => CPow i j ∧ Q (.int (i ^ j.toNat)) c
  | _, _ => False
def shlR : RD2 := fun c d e Q => match d, e with
  | .int i, .int j => CPow i j ∧ Q (.int (i * 2 ^ j.toNat)) c
  | _, _ => False
def shrR : RD2 := fun c d e Q => match d, e with
  | .int i, .int j => 0 ≤ j ∧ Q (.int (i / 2 ^ j.toNat)) c
  | _, _ => False
def bandR : RD2 := fun c d e Q => match d, e with
  | .int i, .int j => Q (.int (Builtin.bitAnd i j)) c
  | _, _ => False
section
variable {GI : Hp → Hp → Prop} {X : Cx} {pos : Pos} {a b : Expr} {wa wb : WE}
def rAddA : R2 := fun x y H Q => (∃ i j, x = .int i ∧ y = .int j ∧ Q (.int (i + j)) H) ∨ (∃ i j, x = .str i ∧ y = .str j ∧ i.length + j.length ≤ sizeLine ∧ Q (.str (i ++ j)) H) ∨ rCat x y H Q ∨ rCatT X.K x y H Q
theorem op_addA : OpR X (binaryOp .Add) (rAddA (X := X)) := op_add.or (op_add_str.or (op_cat.or op_catT))
theorem add_snd (m : Bool) : Snd2 X.K GI (rAddA (X := X)) (addR m) := by
  intro F H c v1 v2 d1 d2 Qd Q r h1 h2 q k
  unfold addR at q
  split at q
  · rename_i e1 e2
    obtain rfl := res_oth e1 (by intro _ z; cases z)
    obtain rfl := res_oth e2 (by intro _ z; cases z)
    exact .inl ⟨_, _, h1.int_inv, h2.int_inv, k F c H _ _ Le.rfl' r (.int _) q⟩
  · rename_i e1 e2
    obtain rfl := res_oth e1 (by intro _ z; cases z)
    obtain rfl := res_oth e2 (by intro _ z; cases z)
    exact .inr (.inl ⟨_, _, h1.str_inv, h2.str_inv, q.1, k F c H _ _ Le.rfl' r (.str _) q.2⟩)
  · rename_i e1 e2
    obtain ⟨a1, xs, rfl, g1, k1⟩ := res_lst r h1 e1
    obtain ⟨a2, ys, rfl, g2, k2⟩ := res_lst r h2 e2
    exact .inr (.inr (.inl ⟨a1, a2, xs, ys, rfl, rfl, g1, g2, by rw [k1.length, k2.length]; exact q.1, newL_snd r (k1.app k2) q.2 k⟩))
  · rename_i e1 e2
    obtain rfl := res_oth e1 (by intro _ z; cases z)
    obtain rfl := res_oth e2 (by intro _ z; cases z)
    obtain ⟨a1, xs, rfl, g1, k1⟩ := h1.tup_inv
    obtain ⟨a2, ys, rfl, g2, k2⟩ := h2.tup_inv
    have n1 : xs ≠ [] := fun z => by subst z; cases k1; exact q.1 rfl
    have n2 : ys ≠ [] := fun z => by subst z; cases k2; exact q.2.1 rfl
    exact .inr (.inr (.inr ⟨a1, a2, xs, ys, rfl, rfl, .inl (.inl (r.sub _ _ g1)), .inl (.inl (r.sub _ _ g2)), n1, by rw [k1.length, k2.length]; exact q.2.2.1, fun z => absurd z n2, fun _ => newT_snd r (k1.app k2) q.2.2.2 k⟩))
  · exact q.elim
theorem ce_add (m : Bool) (ha : CE GI X a wa) (hb : CE GI X b wb) : CE GI X (.BinOp a .Add b pos) (wOp (addR m) wa wb) := ce_op op_addA (add_snd m) ha hb
theorem int2_snd {C : Int → Int → Prop} {g : Int → Int → Int} {R : RD2} (hR : ∀ c d e Q, R c d e Q → ∃ i j, d = .int i ∧ e = .int j ∧ C i j ∧ Q (.int (g i j)) c) : Snd2 X.K GI (rI C fun i j => .int (g i j)) R := by
  intro F H c v1 v2 d1 d2 Qd Q r h1 h2 q k
  obtain ⟨i, j, rfl, rfl, hc, q⟩ := hR _ _ _ _ q
  exact ⟨i, j, h1.int_inv, h2.int_inv, hc, k F c H _ _ Le.rfl' r (.int _) q⟩
theorem ce_sub (ha : CE GI X a wa) (hb : CE GI X b wb) : CE GI X (.BinOp a .Sub b pos) (wOp subR wa wb) := ce_op op_sub (fun F H c v1 v2 d1 d2 Qd Q r h1 h2 q k => by
  unfold subR at q
  split at q
  · exact ⟨_, _, h1.int_inv, h2.int_inv, k F c H _ _ Le.rfl' r (.int _) q⟩
  · exact q.elim) ha hb
theorem ce_mul (m : Bool) (ha : CE GI X a wa) (hb : CE GI X b wb) : CE GI X (.BinOp a .Mult b pos) (wOp (mulR m) wa wb) := ce_op (op_mul.or (op_mulW.or op_rep)) (fun F H c v1 v2 d1 d2 Qd Q r h1 h2 q k => by
  unfold mulR at q
  split at q
  · rename_i e1 e2
    obtain rfl := res_oth e1 (by intro _ z; cases z)
    obtain rfl := res_oth e2 (by intro _ z; cases z)
    rcases q.1 with g | g
    · exact .inl ⟨_, _, h1.int_inv, h2.int_inv, g, k F c H _ _ Le.rfl' r (.int _) q.2⟩
    · exact .inr (.inl ⟨_, _, h1.int_inv, h2.int_inv, g, k F c H _ _ Le.rfl' r (.int _) q.2⟩)
  · rename_i e1 e2
    obtain ⟨a1, xs, rfl, g1, k1⟩ := res_lst r h1 e1
    obtain rfl := res_oth e2 (by intro _ z; cases z)
    exact .inr (.inr ⟨a1, _, xs, rfl, h2.int_inv, g1, q.1, q.2.1, by rw [k1.length]; exact q.2.2.1, newL_snd r (k1.rep _) q.2.2.2 k⟩)
  · exact q.elim) ha hb
theorem ce_fdiv (ha : CE GI X a wa) (hb : CE GI X b wb) : CE GI X (.BinOp a .FloorDiv b pos) (wOp fdivR wa wb) := ce_op (op_fdiv.or op_fdivW) (fun F H c v1 v2 d1 d2 Qd Q r h1 h2 q k => by
  unfold fdivR at q
  split at q
  · rcases q.1 with g | g
    · exact .inl ⟨_, _, h1.int_inv, h2.int_inv, g, k F c H _ _ Le.rfl' r (.int _) q.2⟩
    · exact .inr ⟨_, _, h1.int_inv, h2.int_inv, g, k F c H _ _ Le.rfl' r (.int _) q.2⟩
  · exact q.elim) ha hb
theorem ce_mod (ha : CE GI X a wa) (hb : CE GI X b wb) : CE GI X (.BinOp a .Mod b pos) (wOp modR wa wb) := ce_op op_mod (int2_snd fun c d e Q q => by
  unfold modR at q
  split at q
  · exact ⟨_, _, rfl, rfl, q.1, q.2⟩
  · exact q.elim) ha hb
theorem ce_pow (ha : CE GI X a wa) (hb : CE GI X b wb) : CE GI X (.BinOp a .Pow b pos) (wOp powR wa wb) := ce_op op_pow (int2_snd fun c d e Q q => by
  unfold powR at q
  split at q
  · exact ⟨_, _, rfl, rfl, q.1, q.2⟩
  · exact q.elim) ha hb
theorem ce_shl (ha : CE GI X a wa) (hb : CE GI X b wb) : CE GI X (.BinOp a .LShift b pos) (wOp shlR wa wb) := ce_op op_shl (int2_snd fun c d e Q q => by
  unfold shlR at q
  split at q
  · exact ⟨_, _, rfl, rfl, q.1, q.2⟩
  · exact q.elim) ha hb
theorem ce_shr (ha : CE GI X a wa) (hb : CE GI X b wb) : CE GI X (.BinOp a .RShift b pos) (wOp shrR wa wb) := ce_op op_shr (int2_snd fun c d e Q q => by
  unfold shrR at q
  split at q
  · exact ⟨_, _, rfl, rfl, q.1, q.2⟩
  · exact q.elim) ha hb
theorem ce_band (ha : CE GI X a wa) (hb : CE GI X b wb) : CE GI X (.BinOp a .BitAnd b pos) (wOp bandR wa wb) := ce_op op_and (fun F H c v1 v2 d1 d2 Qd Q r h1 h2 q k => by
  unfold bandR at q
  split at q
  · exact ⟨_, _, h1.int_inv, h2.int_inv, k F c H _ _ Le.rfl' r (.int _) q⟩
  · exact q.elim) ha hb
/-- -a -/
def negR (d : D) (c : CMap) (Q : DK) : Prop := match d with
  | .int i => Q (.int (-i)) c
  | _ => False
def wNeg (a : WE) : WE := fun E env c Q => a E env c fun d c1 => negR d c1 Q
theorem ce_neg (ha : CE GI X a wa) : CE GI X (.UnaryOp .USub a pos) (wNeg wa) := fun W x => by
  refine pe_imp (pe_un un_neg (ha W x)) ?_
  rintro σ H Q ⟨F, env, c, E, Qd, re, rp, lx, q, k⟩
  refine ⟨F, env, c, E, _, re, rp, lx, q, ?_⟩
  intro F1 c1 H1 v1 d1 l1 r1 h1 q1
  unfold negR at q1
  split at q1
  · exact ⟨_, h1.int_inv, k F1 c1 H1 _ _ l1 r1 (.int _) q1⟩
  · exact q1.elim
end

/-! ### comparisons -/
mutual
def toPy : D → PyData
  | .non => .none
  | .bl b => .bool b
  | .int i => .int i
  | .str x => .str x
  | .tup ds => .tuple (toPys ds)
  | .kt ds => .tuple (toPys ds)
  | .lst ds => .list (toPys ds)
  | .scr ns => .list (ns.map .int)
  | .ref _ => .dict []
  | .ty _ => .dict []
def toPys : List D → List PyData
  | [] => []
  | d :: ds => toPy d :: toPys ds
end
mutual
/-- data that == tells apart as it stands: no bools, no refs -/
def okD : D → Bool
  | .non => true
  | .int _ => true
  | .str x => PyData.strOk x
  | .tup ds => okDs ds
  | .lst ds => okDs ds
  | _ => false
def okDs : List D → Bool
  | [] => true
  | d :: ds => okD d && okDs ds
end
mutual
def dep : D → Nat
  | .tup ds => deps ds + 1
  | .lst ds => deps ds + 1
  | _ => 0
def deps : List D → Nat
  | [] => 0
  | d :: ds => max (dep d) (deps ds)
end
def eqOk (d : D) : Prop := okD d = true ∧ dep d ≤ 64
mutual
theorem okD_can : ∀ d : D, okD d = true → (toPy d).canLay0 = true
  | .non, _ => rfl
  | .int _, _ => rfl
  | .str _, h => h
  | .tup ds, h => okDs_can ds h
  | .lst ds, h => okDs_can ds h
  | .bl _, h => by simp [okD] at h
  | .kt _, h => by simp [okD] at h
  | .scr _, h => by simp [okD] at h
  | .ref _, h => by simp [okD] at h
  | .ty _, h => by simp [okD] at h
theorem okDs_can : ∀ ds : List D, okDs ds = true → PyData.canLayAll0 (toPys ds) = true
  | [], _ => rfl
  | d :: ds, h => by
    simp only [okDs, Bool.and_eq_true] at h
    simp only [toPys, PyData.canLayAll0, Bool.and_eq_true]
    exact ⟨okD_can d h.1, okDs_can ds h.2⟩
end
mutual
theorem dep_py : ∀ d : D, okD d = true → (toPy d).depth = dep d
  | .non, _ => rfl
  | .int _, _ => rfl
  | .str _, h => rfl
  | .tup ds, h => by simp only [toPy, PyData.depth, dep, deps_py ds h]
  | .lst ds, h => by simp only [toPy, PyData.depth, dep, deps_py ds h]
  | .bl _, h => by simp [okD] at h
  | .kt _, h => by simp [okD] at h
  | .scr _, h => by simp [okD] at h
  | .ref _, h => by simp [okD] at h
  | .ty _, h => by simp [okD] at h
theorem deps_py : ∀ ds : List D, okDs ds = true → PyData.depthAll (toPys ds) = deps ds
  | [], _ => rfl
  | d :: ds, h => by
    simp only [okDs, Bool.and_eq_true] at h
    simp only [toPys, PyData.depthAll, deps, dep_py d h.1, deps_py ds h.2]
end
mutual
theorem eqv_py : ∀ d e : D, okD d = true → okD e = true → (PyData.eqv (toPy d) (toPy e) = true ↔ d = e)
  | .non, e, _, h => by cases e <;> simp_all [toPy, PyData.eqv, okD]
  | .int _, e, _, h => by cases e <;> simp_all [toPy, PyData.eqv, okD]
  | .str _, e, _, h => by cases e <;> simp_all [toPy, PyData.eqv, okD]
  | .tup ds, .tup es, h, h' => by
    simp only [toPy, PyData.eqv]
    rw [eqvs_py ds es h h']
    exact ⟨fun q => by rw [q], fun q => by injection q⟩
  | .lst ds, .lst es, h, h' => by
    simp only [toPy, PyData.eqv]
    rw [eqvs_py ds es h h']
    exact ⟨fun q => by rw [q], fun q => by injection q⟩
  | .tup ds, .lst es, h, h' => by simp [toPy, PyData.eqv]
  | .lst ds, .tup es, h, h' => by simp [toPy, PyData.eqv]
  | .tup ds, .non, h, h' => by simp [toPy, PyData.eqv]
  | .lst ds, .non, h, h' => by simp [toPy, PyData.eqv]
  | .tup ds, .int _, h, h' => by simp [toPy, PyData.eqv]
  | .lst ds, .int _, h, h' => by simp [toPy, PyData.eqv]
  | .tup ds, .str _, h, h' => by simp [toPy, PyData.eqv]
  | .lst ds, .str _, h, h' => by simp [toPy, PyData.eqv]
  | .bl _, _, h, _ => by simp [okD] at h
  | .kt _, _, h, _ => by simp [okD] at h
  | .scr _, _, h, _ => by simp [okD] at h
  | .ref _, _, h, _ => by simp [okD] at h
  | .ty _, _, h, _ => by simp [okD] at h
  | .tup _, .bl _, _, h => by simp [okD] at h
  | .tup _, .kt _, _, h => by simp [okD] at h
  | .tup _, .scr _, _, h => by simp [okD] at h
  | .tup _, .ref _, _, h => by simp [okD] at h
  | .tup _, .ty _, _, h => by simp [okD] at h
  | .lst _, .bl _, _, h => by simp [okD] at h
  | .lst _, .kt _, _, h => by simp [okD] at h
  | .lst _, .scr _, _, h => by simp [okD] at h
  | .lst _, .ref _, _, h => by simp [okD] at h
  | .lst _, .ty _, _, h => by simp [okD] at h
theorem eqvs_py : ∀ ds es : List D, okDs ds = true → okDs es = true → (PyData.eqvAll (toPys ds) (toPys es) = true ↔ ds = es)
  | [], [], _, _ => by simp [toPys, PyData.eqvAll]
  | [], _ :: _, _, _ => by simp [toPys, PyData.eqvAll]
  | _ :: _, [], _, _ => by simp [toPys, PyData.eqvAll]
  | d :: ds, e :: es, h, h' => by
    simp only [okDs, Bool.and_eq_true] at h h'
    simp only [toPys, PyData.eqvAll, Bool.and_eq_true, eqv_py d e h.1 h'.1, eqvs_py ds es h.2 h'.2, List.cons.injEq]
end
mutual
theorem DV.dp {K : PySem.W.Frag} {F H : Hp} (l : Le F H) : ∀ {v : V} {d : D}, DV K F v d → okD d = true → Dp K H v (toPy d)
  | _, _, .non, _ => .non
  | _, _, .bl b, h => by simp [okD] at h
  | _, _, .int i, _ => .int i
  | _, _, .str x, _ => .str x
  | _, _, .ref _, h => by simp [okD] at h
  | _, _, .ty _, h => by simp [okD] at h
  | _, _, .lst e k, h => .lst (SqL.of (l _ _ e)) (DVs.dp l k h)
  | _, _, .tup e k, h => .tup (SqT.of (l _ _ e)) (DVs.dp l k h)
  | _, _, .kt e k, h => by simp [okD] at h
  | _, _, .scr e, h => by simp [okD] at h
theorem DVs.dp {K : PySem.W.Frag} {F H : Hp} (l : Le F H) : ∀ {v : List V} {d : List D}, DVs K F v d → okDs d = true → DpAll K H v (toPys d)
  | _, _, .nil, _ => .nil
  | _, _, .cons e k, h => by
    simp only [okDs, Bool.and_eq_true] at h
    exact .cons (DV.dp l e h.1) (DVs.dp l k h.2)
end
theorem res_dp {K : PySem.W.Frag} {GI : Hp → Hp → Prop} {F H : Hp} {c : CMap} {v : V} {d d' : D} (r : Rep K GI F c H) (h : DV K F v d) (e : res c d = d') (o : okD d' = true) : Dp K H v (toPy d') := by
  by_cases q : ∃ ds, d' = .lst ds
  · obtain ⟨ds, rfl⟩ := q
    obtain ⟨a, xs, rfl, h1, h2⟩ := res_lst r h e
    exact .lst (SqL.of h1) (DVs.dp r.sub h2 o)
  · obtain rfl := res_oth e (fun ds z => q ⟨ds, z⟩)
    exact h.dp r.sub o
theorem shaped_of {d : D} (h : eqOk d) : SeqAt.shaped (toPy d) = true := by
  unfold SeqAt.shaped
  rw [okD_can d h.1, dep_py d h.1]
  simpa using h.2
/-- ==: bools with bools, the rest as data -/
def eqR (neg : Bool) : RD2 := fun c d e Q => match res c d, res c e with
  | .bl a, .bl b => Q (.bl (neg ^^ decide (a = b))) c
  | d', e' => eqOk d' ∧ eqOk e' ∧ Q (.bl (neg ^^ decide (d' = e'))) c
theorem eqv_dec {d e : D} (h : okD d = true) (h' : okD e = true) : PyData.eqv (toPy d) (toPy e) = decide (d = e) := by
  by_cases q : d = e
  · rw [decide_eq_true q]; exact (eqv_py d e h h').mpr q
  · rw [decide_eq_false q]
    cases z : PyData.eqv (toPy d) (toPy e) with
    | true => exact absurd ((eqv_py d e h h').mp z) q
    | false => rfl
def ltR (f : Int → Int → Bool) (g : Str → Str → Bool) : RD2 := fun c d e Q => match d, e with
  | .int i, .int j => Q (.bl (f i j)) c
  | .str i, .str j => Q (.bl (g i j)) c
  | _, _ => False
def flatD : D → Bool
  | .non => true
  | .int _ => true
  | .str _ => true
  | _ => false
def valD {κ : Type} [DecidableEq κ] (kvs : List (κ × D)) (k : κ) : Option D := (kvs.find? fun kv => decide (kv.1 = k)).map (·.2)
def keyD : D → Option Key
  | .int i => some (.inl i)
  | .str x => some (.inr x)
  | _ => none
def keysD : List D → Option (List Key)
  | [] => some []
  | d :: ds => match keyD d, keysD ds with
    | some k, some ks => some (k :: ks)
    | _, _ => none
/-- what a dict holds at a key -/
def dictAt (c : CMap) (p : Addr) (e : D) (k : Option D → Prop) : Prop := match c p with
  | some (.dK kvs) => match keyD e with
    | some x => k (valD kvs x)
    | none => False
  | some (.dT kvs) => match e with
    | .tup es => match keysD es with
      | some x => k (valD kvs x)
      | none => False
    | _ => False
  | some (.fK _ _ kvs) => match keyD e with
    | some x => k (valD kvs x)
    | none => False
  | some (.fT _ _ kvs) => match e with
    | .tup es => match keysD es with
      | some x => k (valD kvs x)
      | none => False
    | _ => False
  | _ => False
/-- d in e -/
def inR (neg : Bool) : RD2 := fun c d e Q => match res c e with
  | .lst ds => flatD d = true ∧ ds.all flatD = true ∧ Q (.bl (neg ^^ decide (d ∈ ds))) c
  | .tup ds => flatD d = true ∧ ds.all flatD = true ∧ Q (.bl (neg ^^ decide (d ∈ ds))) c
  | .kt ds => flatD d = true ∧ ds.all flatD = true ∧ Q (.bl (neg ^^ decide (d ∈ ds))) c
  | .str z => match d with
    | .str x => ∃ k, x = ⟨#[k]⟩ ∧ Q (.bl (neg ^^ decide (k ∈ z.cps.toList))) c
    | _ => False
  | .ref p => dictAt c p d fun o => Q (.bl (neg ^^ o.isSome)) c
  | _ => False
theorem keyD_kV {K : PySem.W.Frag} {F : Hp} {v : V} {d : D} {k : Key} (h : DV K F v d) (e : keyD d = some k) : v = kV k := by
  cases d <;> simp only [keyD, Option.some.injEq, reduceCtorEq] at e
  · subst e; exact h.int_inv
  · subst e; exact h.str_inv
theorem keysD_kV {K : PySem.W.Frag} {F : Hp} : ∀ {vs : List V} {ds : List D} {ks : List Key}, DVs K F vs ds → keysD ds = some ks → vs = ks.map kV
  | _, _, _, .nil, e => by simp only [keysD, Option.some.injEq] at e; subst e; rfl
  | _, _, _, .cons (d := d) (ds := ds) h k, e => by
    simp only [keysD] at e
    split at e
    · rename_i k1 ks1 e1 e2
      simp only [Option.some.injEq] at e
      subst e
      rw [List.map_cons, ← keyD_kV h e1, ← keysD_kV k e2]
    · cases e
theorem KD.val {κ : Type} [DecidableEq κ] {K : PySem.W.Frag} {F : Hp} {us : List (κ × V)} {kvs : List (κ × D)} (h : KD K F us kvs) (k : κ) :
    (valV us k = none ∧ valD kvs k = none) ∨ ∃ v d, valV us k = some v ∧ valD kvs k = some d ∧ DV K F v d := by
  induction h with
  | nil => exact .inl ⟨rfl, rfl⟩
  | @cons a b l1 l2 q t ih =>
    by_cases e : a.1 = k
    · refine .inr ⟨a.2, b.2, valV_pos e, ?_, q.2⟩
      simp [valD, List.find?_cons, ← q.1, e]
    · have e2 : ¬ b.1 = k := by rw [← q.1]; exact e
      rw [valV_neg e]
      simpa [valD, List.find?_cons, e2] using ih
theorem dict_snd {K : PySem.W.Frag} {GI : Hp → Hp → Prop} {F H : Hp} {c : CMap} {v : V} {d : D} {p : Addr} {k : Option D → Prop} (r : Rep K GI F c H) (h : DV K F v d) (q : dictAt c p d k) :
    ∃ o od, DGet H p v o ∧ k od ∧ ((o = none ∧ od = none) ∨ ∃ x y, o = some x ∧ od = some y ∧ DV K F x y) := by
  unfold dictAt at q
  split at q
  · rename_i kvs e
    obtain ⟨f0, o, h0, us, rfl, h1⟩ := r.cel _ _ e
    split at q
    · rename_i x ex
      obtain rfl := keyD_kV h ex
      refine ⟨_, _, DGet.k h0, q, ?_⟩
      rcases KD.val h1 x with ⟨z1, z2⟩ | ⟨a, b, z1, z2, z3⟩
      · exact .inl ⟨z1, z2⟩
      · exact .inr ⟨a, b, z1, z2, z3⟩
    · exact q.elim
  · rename_i kvs e
    obtain ⟨f0, o, h0, us, rfl, h1⟩ := r.cel _ _ e
    split at q
    · rename_i es
      split at q
      · rename_i x ex
        obtain ⟨b, xs, rfl, g1, g2⟩ := h.tup_inv
        obtain rfl := keysD_kV g2 ex
        refine ⟨_, _, DGet.t h0 (r.sub _ _ g1), q, ?_⟩
        rcases KD.val h1 x with ⟨z1, z2⟩ | ⟨a, b, z1, z2, z3⟩
        · exact .inl ⟨z1, z2⟩
        · exact .inr ⟨a, b, z1, z2, z3⟩
      · exact q.elim
    · exact q.elim
  · rename_i w us kvs e
    obtain ⟨f0, o, h0, rfl, h1⟩ := r.cel _ _ e
    split at q
    · rename_i x ex
      obtain rfl := keyD_kV h ex
      refine ⟨_, _, .inl ⟨us, x, .inr ⟨_, h0⟩, rfl, rfl⟩, q, ?_⟩
      rcases KD.val h1 x with ⟨z1, z2⟩ | ⟨a, b, z1, z2, z3⟩
      · exact .inl ⟨z1, z2⟩
      · exact .inr ⟨a, b, z1, z2, z3⟩
    · exact q.elim
  · rename_i w us kvs e
    obtain ⟨f0, o, h0, rfl, h1⟩ := r.cel _ _ e
    split at q
    · rename_i es
      split at q
      · rename_i x ex
        obtain ⟨b, xs, rfl, g1, g2⟩ := h.tup_inv
        obtain rfl := keysD_kV g2 ex
        refine ⟨_, _, .inr ⟨us, x, b, .inr ⟨_, h0⟩, rfl, r.sub _ _ g1, rfl⟩, q, ?_⟩
        rcases KD.val h1 x with ⟨z1, z2⟩ | ⟨a, b, z1, z2, z3⟩
        · exact .inl ⟨z1, z2⟩
        · exact .inr ⟨a, b, z1, z2, z3⟩
      · exact q.elim
    · exact q.elim
  · exact q.elim
theorem flat_V {K : PySem.W.Frag} {F : Hp} {v : V} {d : D} (h : DV K F v d) (f : flatD d = true) : flatV v = true := by
  cases d <;> simp [flatD] at f
  · rw [h.non_inv]; rfl
  · rw [h.int_inv]; rfl
  · rw [h.str_inv]; rfl
theorem flat_eq {K : PySem.W.Frag} {F : Hp} {v u : V} {d e : D} (h : DV K F v d) (h' : DV K F u e) (f : flatD d = true) (f' : flatD e = true) : eqV v u = decide (d = e) := by
  cases d <;> simp [flatD] at f <;> cases e <;> simp [flatD] at f'
  · rw [h.non_inv, h'.non_inv]; simp [eqV]
  · rw [h.non_inv, h'.int_inv]; simp [eqV]
  · rw [h.non_inv, h'.str_inv]; simp [eqV]
  · rw [h.int_inv, h'.non_inv]; simp [eqV]
  · rw [h.int_inv, h'.int_inv, Bool.eq_iff_iff]; simp [eqV]
  · rw [h.int_inv, h'.str_inv]; simp [eqV]
  · rw [h.str_inv, h'.non_inv]; simp [eqV]
  · rw [h.str_inv, h'.int_inv]; simp [eqV]
  · rw [h.str_inv, h'.str_inv, Bool.eq_iff_iff]; simp [eqV]
theorem flat_all {K : PySem.W.Frag} {F : Hp} : ∀ {vs : List V} {ds : List D}, DVs K F vs ds → ds.all flatD = true → vs.all flatV = true
  | _, _, .nil, _ => rfl
  | _, _, .cons h k, f => by
    simp only [List.all_cons, Bool.and_eq_true] at f ⊢
    exact ⟨flat_V h f.1, flat_all k f.2⟩
theorem flat_in {K : PySem.W.Frag} {F : Hp} {v : V} {d : D} (h : DV K F v d) (f : flatD d = true) : ∀ {vs : List V} {ds : List D}, DVs K F vs ds → ds.all flatD = true → inV v vs = decide (d ∈ ds)
  | _, _, .nil, _ => by simp [inV]
  | _, _, .cons (d := e) (ds := es) h' k, g => by
    simp only [List.all_cons, Bool.and_eq_true] at g
    have ih := flat_in h f k g.2
    unfold inV at ih ⊢
    rw [List.any_cons, ih, flat_eq h' h g.1 f]
    by_cases z : e = d
    · simp [z]
    · have z2 : ¬ d = e := fun q => z q.symm
      simp [z, z2]
section
variable {GI : Hp → Hp → Prop} {X : Cx} {pos : Pos} {a b : Expr} {wa wb : WE}
theorem eq_snd : Snd2 X.K GI (fun x y H Q => rEq x y H Q ∨ rEqD X.K x y H Q) (eqR false) := by
  intro F H c v1 v2 d1 d2 Qd Q r h1 h2 q k
  unfold eqR at q
  split at q
  · rename_i e1 e2
    obtain rfl := res_oth e1 (by intro _ z; cases z)
    obtain rfl := res_oth e2 (by intro _ z; cases z)
    rename_i p1 p2
    rw [h1.bl_inv, h2.bl_inv]
    refine .inl ⟨rfl, ?_⟩
    have : decide (V.bl p1 = V.bl p2) = (false ^^ decide (p1 = p2)) := by simp
    rw [this]
    exact k F c H _ _ Le.rfl' r (.bl _) q
  · obtain ⟨o1, o2, q⟩ := q
    refine .inr ⟨_, _, res_dp r h1 rfl o1.1, res_dp r h2 rfl o2.1, shaped_of o1, shaped_of o2, ?_⟩
    rw [eqv_dec o1.1 o2.1]
    rw [Bool.false_xor] at q
    exact k F c H _ _ Le.rfl' r (.bl _) q
theorem ne_snd : Snd2 X.K GI (fun x y H Q => rNe x y H Q ∨ rNeD X.K x y H Q) (eqR true) := by
  intro F H c v1 v2 d1 d2 Qd Q r h1 h2 q k
  unfold eqR at q
  split at q
  · rename_i e1 e2
    obtain rfl := res_oth e1 (by intro _ z; cases z)
    obtain rfl := res_oth e2 (by intro _ z; cases z)
    rename_i p1 p2
    rw [h1.bl_inv, h2.bl_inv]
    refine .inl ⟨rfl, ?_⟩
    have : (!decide (V.bl p1 = V.bl p2)) = (true ^^ decide (p1 = p2)) := by simp
    rw [this]
    exact k F c H _ _ Le.rfl' r (.bl _) q
  · obtain ⟨o1, o2, q⟩ := q
    refine .inr ⟨_, _, res_dp r h1 rfl o1.1, res_dp r h2 rfl o2.1, shaped_of o1, shaped_of o2, ?_⟩
    rw [eqv_dec o1.1 o2.1]
    rw [Bool.true_xor] at q
    exact k F c H _ _ Le.rfl' r (.bl _) q
theorem op_eqA (hu : X.A.units + 64 < cLine) : OpR X (compareOp .Eq) (fun x y H Q => rEq x y H Q ∨ rEqD X.K x y H Q) := op_eq.or (op_eqD hu)
theorem op_neA (hu : X.A.units + 64 < cLine) : OpR X (compareOp .NotEq) (fun x y H Q => rNe x y H Q ∨ rNeD X.K x y H Q) := op_ne.or (op_neD hu)
theorem lt_snd {f : Int → Int → Bool} {g : Str → Str → Bool} : Snd2 X.K GI (fun x y H Q => rI0 (fun i j => .bl (f i j)) x y H Q ∨ ∃ i j, x = .str i ∧ y = .str j ∧ Q (.bl (g i j)) H) (ltR f g) := by
  intro F H c v1 v2 d1 d2 Qd Q r h1 h2 q k
  unfold ltR at q
  split at q
  · exact .inl ⟨_, _, h1.int_inv, h2.int_inv, k F c H _ _ Le.rfl' r (.bl _) q⟩
  · exact .inr ⟨_, _, h1.str_inv, h2.str_inv, k F c H _ _ Le.rfl' r (.bl _) q⟩
  · exact q.elim
abbrev ltA : RD2 := ltR (fun i j => decide (i < j)) (fun i j => decide (i.cps.toList < j.cps.toList))
theorem op_ltA : OpR X (compareOp .Lt) (fun x y H Q => rI0 (fun i j => .bl (decide (i < j))) x y H Q ∨ ∃ i j, x = .str i ∧ y = .str j ∧ Q (.bl (decide (i.cps.toList < j.cps.toList))) H) := op_lt.or op_lt_str
/-- int comparisons alone -/
def ltI (f : Int → Int → Bool) : RD2 := fun c d e Q => match d, e with
  | .int i, .int j => Q (.bl (f i j)) c
  | _, _ => False
theorem ltI_snd {f : Int → Int → Bool} : Snd2 X.K GI (rI0 (fun i j => .bl (f i j))) (ltI f) := by
  intro F H c v1 v2 d1 d2 Qd Q r h1 h2 q k
  unfold ltI at q
  split at q
  · exact ⟨_, _, h1.int_inv, h2.int_inv, k F c H _ _ Le.rfl' r (.bl _) q⟩
  · exact q.elim
abbrev leA : RD2 := ltI fun i j => decide (i ≤ j)
abbrev gtA : RD2 := ltI fun i j => decide (j < i)
abbrev geA : RD2 := ltI fun i j => decide (j ≤ i)
def isNR (neg : Bool) : RD2 := fun c d e Q => match e with
  | .non => Q (.bl (neg ^^ decide (d = .non))) c
  | _ => False
theorem non_iff {K : PySem.W.Frag} {F : Hp} {v : V} {d : D} (h : DV K F v d) : decide (v = .non) = decide (d = .non) := by
  cases h <;> simp
theorem isN_snd : Snd2 X.K GI (fun x y H Q => y = .non ∧ Q (.bl (decide (x = .non))) H) (isNR false) := by
  intro F H c v1 v2 d1 d2 Qd Q r h1 h2 q k
  unfold isNR at q
  split at q
  · refine ⟨h2.non_inv, ?_⟩
    rw [non_iff h1]
    rw [Bool.false_xor] at q
    exact k F c H _ _ Le.rfl' r (.bl _) q
  · exact q.elim
theorem notN_snd : Snd2 X.K GI (fun x y H Q => y = .non ∧ Q (.bl (!decide (x = .non))) H) (isNR true) := by
  intro F H c v1 v2 d1 d2 Qd Q r h1 h2 q k
  unfold isNR at q
  split at q
  · refine ⟨h2.non_inv, ?_⟩
    rw [non_iff h1]
    rw [Bool.true_xor] at q
    exact k F c H _ _ Le.rfl' r (.bl _) q
  · exact q.elim
theorem op_inD (hu : X.A.units + 1 < cLine) : OpR X (compareOp .In) (fun x y H Q => ∃ a o, y = .ref a ∧ DGet H a x o ∧ Q (.bl o.isSome) H) := by
  intro pins s σ H x y v u Q I rx ry h
  obtain ⟨p, o, rfl, g, q⟩ := h
  cases ry
  exact d_in hu I g rx fun s' I' => ⟨.bl o.isSome, H, I', rfl, q⟩
theorem op_notInD (hu : X.A.units + 1 < cLine) : OpR X (compareOp .NotIn) (fun x y H Q => ∃ a o, y = .ref a ∧ DGet H a x o ∧ Q (.bl (!o.isSome)) H) := by
  intro pins s σ H x y v u Q I rx ry h
  obtain ⟨p, o, rfl, g, q⟩ := h
  cases ry
  exact d_notIn hu I g rx fun s' I' => ⟨.bl (!o.isSome), H, I', rfl, q⟩
end
end DL
/-! the data layer: in, subscripts, slices, built-ins -/
namespace DL
open PySem PySem.Spec L2
open PyProof.Rows hiding St

section
variable {GI : Hp → Hp → Prop} {X : Cx} {pos : Pos} {a b : Expr} {wa wb : WE}
def rInA (K : PySem.W.Frag) : R2 := fun x y H Q => rIn K false x y H Q ∨ (∃ (c : Nat) (z : Str), x = .str ⟨#[c]⟩ ∧ y = .str z ∧ Q (.bl (decide (c ∈ z.cps.toList))) H) ∨ ∃ a o, y = .ref a ∧ DGet H a x o ∧ Q (.bl o.isSome) H
def rNiA (K : PySem.W.Frag) : R2 := fun x y H Q => rIn K true x y H Q ∨ (∃ (c : Nat) (z : Str), x = .str ⟨#[c]⟩ ∧ y = .str z ∧ Q (.bl (!decide (c ∈ z.cps.toList))) H) ∨ ∃ a o, y = .ref a ∧ DGet H a x o ∧ Q (.bl (!o.isSome)) H
theorem op_inA (hu : X.A.units + 1 < cLine) : OpR X (compareOp .In) (rInA X.K) := op_in_seq.or (op_in_sign.or (op_inD hu))
theorem op_niA (hu : X.A.units + 1 < cLine) : OpR X (compareOp .NotIn) (rNiA X.K) := op_notIn_seq.or (op_notIn_sign.or (op_notInD hu))
theorem in_snd : Snd2 X.K GI (rInA X.K) (inR false) := by
  intro F H c v1 v2 d1 d2 Qd Q r h1 h2 q k
  unfold inR at q
  split at q
  · rename_i e2
    obtain ⟨p, xs, rfl, g1, k1⟩ := res_lst r h2 e2
    refine .inl ⟨p, xs, rfl, .inl (SqL.of g1), flat_V h1 q.1, flat_all k1 q.2.1, ?_⟩
    rw [flat_in h1 q.1 k1 q.2.1]
    have q := q.2.2; rw [Bool.false_xor] at q
    exact k F c H _ _ Le.rfl' r (.bl _) q
  · rename_i e2
    obtain rfl := res_oth e2 (by intro _ z; cases z)
    obtain ⟨p, xs, rfl, g1, k1⟩ := h2.tup_inv
    refine .inl ⟨p, xs, rfl, .inr (SqT.of (r.sub _ _ g1)), flat_V h1 q.1, flat_all k1 q.2.1, ?_⟩
    rw [flat_in h1 q.1 k1 q.2.1]
    have q := q.2.2; rw [Bool.false_xor] at q
    exact k F c H _ _ Le.rfl' r (.bl _) q
  · rename_i e2
    obtain rfl := res_oth e2 (by intro _ z; cases z)
    obtain ⟨p, xs, rfl, g1, k1⟩ := h2.kt_inv
    refine .inl ⟨p, xs, rfl, .inr (sqT_le r.sub g1), flat_V h1 q.1, flat_all k1 q.2.1, ?_⟩
    rw [flat_in h1 q.1 k1 q.2.1]
    have q := q.2.2; rw [Bool.false_xor] at q
    exact k F c H _ _ Le.rfl' r (.bl _) q
  · rename_i e2
    obtain rfl := res_oth e2 (by intro _ z; cases z)
    split at q
    · obtain ⟨n, rfl, q⟩ := q
      rw [Bool.false_xor] at q
      exact .inr (.inl ⟨n, _, h1.str_inv, h2.str_inv, k F c H _ _ Le.rfl' r (.bl _) q⟩)
    · exact q.elim
  · rename_i e2
    obtain rfl := res_oth e2 (by intro _ z; cases z)
    obtain ⟨o, od, g, q, z⟩ := dict_snd r h1 q
    refine .inr (.inr ⟨_, o, h2.ref_inv, g, ?_⟩)
    rw [Bool.false_xor] at q
    rcases z with ⟨rfl, rfl⟩ | ⟨x, y, rfl, rfl, _⟩
    · exact k F c H _ _ Le.rfl' r (.bl _) q
    · exact k F c H _ _ Le.rfl' r (.bl _) q
  · exact q.elim
theorem ni_snd : Snd2 X.K GI (rNiA X.K) (inR true) := by
  intro F H c v1 v2 d1 d2 Qd Q r h1 h2 q k
  unfold inR at q
  split at q
  · rename_i e2
    obtain ⟨p, xs, rfl, g1, k1⟩ := res_lst r h2 e2
    refine .inl ⟨p, xs, rfl, .inl (SqL.of g1), flat_V h1 q.1, flat_all k1 q.2.1, ?_⟩
    rw [flat_in h1 q.1 k1 q.2.1]
    have q := q.2.2; rw [Bool.true_xor] at q
    exact k F c H _ _ Le.rfl' r (.bl _) q
  · rename_i e2
    obtain rfl := res_oth e2 (by intro _ z; cases z)
    obtain ⟨p, xs, rfl, g1, k1⟩ := h2.tup_inv
    refine .inl ⟨p, xs, rfl, .inr (SqT.of (r.sub _ _ g1)), flat_V h1 q.1, flat_all k1 q.2.1, ?_⟩
    rw [flat_in h1 q.1 k1 q.2.1]
    have q := q.2.2; rw [Bool.true_xor] at q
    exact k F c H _ _ Le.rfl' r (.bl _) q
  · rename_i e2
    obtain rfl := res_oth e2 (by intro _ z; cases z)
    obtain ⟨p, xs, rfl, g1, k1⟩ := h2.kt_inv
    refine .inl ⟨p, xs, rfl, .inr (sqT_le r.sub g1), flat_V h1 q.1, flat_all k1 q.2.1, ?_⟩
    rw [flat_in h1 q.1 k1 q.2.1]
    have q := q.2.2; rw [Bool.true_xor] at q
    exact k F c H _ _ Le.rfl' r (.bl _) q
  · rename_i e2
    obtain rfl := res_oth e2 (by intro _ z; cases z)
    split at q
    · obtain ⟨n, rfl, q⟩ := q
      rw [Bool.true_xor] at q
      exact .inr (.inl ⟨n, _, h1.str_inv, h2.str_inv, k F c H _ _ Le.rfl' r (.bl _) q⟩)
    · exact q.elim
  · rename_i e2
    obtain rfl := res_oth e2 (by intro _ z; cases z)
    obtain ⟨o, od, g, q, z⟩ := dict_snd r h1 q
    refine .inr (.inr ⟨_, o, h2.ref_inv, g, ?_⟩)
    rw [Bool.true_xor] at q
    rcases z with ⟨rfl, rfl⟩ | ⟨x, y, rfl, rfl, _⟩
    · exact k F c H _ _ Le.rfl' r (.bl _) q
    · exact k F c H _ _ Le.rfl' r (.bl _) q
  · exact q.elim
end

/-! ### subscripts -/
def idxR : RD2 := fun c d e Q => match res c d, e with
  | .lst ds, .int i => ∃ x, atI ds i = some x ∧ Q x c
  | .tup ds, .int i => ∃ x, atI ds i = some x ∧ Q x c
  | .kt ds, .int i => ∃ x, atI ds i = some x ∧ Q x c
  | .scr ns, .int i => ∃ x, atI ns i = some x ∧ Q (.int x) c
  | .str z, .int i => z.length ≤ sizeLine ∧ ∃ k, atI z.cps.toList i = some k ∧ Q (.str ⟨#[k]⟩) c
  | .ref p, e' => dictAt c p e' fun o => ∃ x, o = some x ∧ Q x c
  | _, _ => False
theorem atI_le {α : Type} {xs : List α} {i : Int} {v : α} (h : atI xs i = some v) : ∃ j, ixN xs.length i = some j ∧ xs[j]? = some v := by
  unfold atI at h
  cases e : ixN xs.length i with
  | none => rw [e] at h; cases h
  | some j => rw [e] at h; exact ⟨j, rfl, h⟩
theorem atI_D {K : PySem.W.Frag} {F : Hp} {vs : List V} {ds : List D} {i : Int} {x : D} (h : DVs K F vs ds) (e : atI ds i = some x) : ∃ v, atI vs i = some v ∧ DV K F v x := by
  obtain ⟨j, e1, e2⟩ := atI_le e
  obtain ⟨v, h1, h2⟩ := h.at j e2
  refine ⟨v, ?_, h2⟩
  unfold atI
  rw [h.length, e1]
  exact h1
theorem atI_map {ns : List Int} {i x : Int} (e : atI ns i = some x) : atI (ns.map V.int) i = some (.int x) := by
  obtain ⟨j, e1, e2⟩ := atI_le e
  unfold atI
  rw [List.length_map, e1]
  show (ns.map V.int)[j]? = _
  rw [List.getElem?_map, e2]; rfl
theorem ix_dict {X : Cx} (hu : X.A.units + 1 < cLine) : IxR X (fun x y H Q => ∃ a v, x = .ref a ∧ DGet H a y (some v) ∧ Q v H) := by
  intro value slice pins s σ H x y v u Q I rx ry h hs
  obtain ⟨a, z, rfl, g, q⟩ := h
  cases rx
  exact tail_any (ops := [.ref a, u]) (dict_typeIs I g) PySem.F.slot_dict_getitem.lookup (d_getItem hu I g ry fun w' s' I' r' => ⟨z, H, I', r', q⟩) hs
section
variable {GI : Hp → Hp → Prop} {X : Cx} {pos : Pos} {a b : Expr} {wa wb : WE}
theorem idx_snd : Snd2 X.K GI (fun x y H Q => rIx X.K x y H Q ∨ ∃ a v, x = .ref a ∧ DGet H a y (some v) ∧ Q v H) idxR := by
  intro F H c v1 v2 d1 d2 Qd Q r h1 h2 q k
  unfold idxR at q
  split at q
  · rename_i e1
    obtain ⟨p, xs, rfl, g1, k1⟩ := res_lst r h1 e1
    obtain ⟨x, e, q⟩ := q
    obtain ⟨v, h3, h4⟩ := atI_D k1 e
    exact .inl (.inl ⟨p, xs, _, v, rfl, h2.int_inv, SqL.of g1, h3, k F c H _ _ Le.rfl' r h4 q⟩)
  · rename_i e1
    obtain rfl := res_oth e1 (by intro _ z; cases z)
    obtain ⟨p, xs, rfl, g1, k1⟩ := h1.tup_inv
    obtain ⟨x, e, q⟩ := q
    obtain ⟨v, h3, h4⟩ := atI_D k1 e
    exact .inl (.inr (.inl ⟨p, xs, _, v, rfl, h2.int_inv, SqT.of (r.sub _ _ g1), h3, k F c H _ _ Le.rfl' r h4 q⟩))
  · rename_i e1
    obtain rfl := res_oth e1 (by intro _ z; cases z)
    obtain ⟨p, xs, rfl, g1, k1⟩ := h1.kt_inv
    obtain ⟨x, e, q⟩ := q
    obtain ⟨v, h3, h4⟩ := atI_D k1 e
    exact .inl (.inr (.inl ⟨p, xs, _, v, rfl, h2.int_inv, sqT_le r.sub g1, h3, k F c H _ _ Le.rfl' r h4 q⟩))
  · rename_i e1
    obtain rfl := res_oth e1 (by intro _ z; cases z)
    obtain ⟨p, rfl, g1⟩ := h1.scr_inv
    obtain ⟨x, e, q⟩ := q
    exact .inl (.inl ⟨p, _, _, _, rfl, h2.int_inv, sqL_le r.sub g1, atI_map e, k F c H _ _ Le.rfl' r (.int _) q⟩)
  · rename_i e1
    obtain rfl := res_oth e1 (by intro _ z; cases z)
    obtain ⟨q1, x, e, q⟩ := q
    exact .inl (.inr (.inr ⟨_, _, x, h1.str_inv, h2.int_inv, q1, e, k F c H _ _ Le.rfl' r (.str _) q⟩))
  · rename_i e1
    obtain rfl := res_oth e1 (by intro _ z; cases z)
    obtain ⟨o, od, g, ⟨x, e3, q⟩, z⟩ := dict_snd r h2 q
    rcases z with ⟨rfl, rfl⟩ | ⟨y, y2, rfl, rfl, h3⟩
    · cases e3
    · cases e3
      exact .inr ⟨_, y, h1.ref_inv, g, k F c H _ _ Le.rfl' r h3 q⟩
  · exact q.elim
theorem ce_idx (hr : Room 0 X.A) (ha : CE GI X a wa) (hb : CE GI X b wb) (hs : PlainIx b := by exact fun _ _ => rfl) : CE GI X (.Subscript a b pos) (wOp idxR wa wb) := fun W x =>
  pe_imp (pe_ix (ix_seq.or (ix_dict (hu_of hr))) (ha W x) (hb W x) hs) (low_op idx_snd)
theorem ct_in (hr : Room 0 X.A) (ha : CE GI X a wa) (hb : CE GI X b wb) (hm : behindInMarks .In b = false := by rfl) : CT GI X (.Compare a [.In] [b] pos) (wTst (wOp (inR false) wa wb)) := ct_cmp (op_inA (hu_of hr)) in_snd ha hb hm
theorem ct_ni (hr : Room 0 X.A) (ha : CE GI X a wa) (hb : CE GI X b wb) (hm : behindInMarks .NotIn b = false := by rfl) : CT GI X (.Compare a [.NotIn] [b] pos) (wTst (wOp (inR true) wa wb)) := ct_cmp (op_niA (hu_of hr)) ni_snd ha hb hm
theorem ce_in (hr : Room 0 X.A) (ha : CE GI X a wa) (hb : CE GI X b wb) (hm : behindInMarks .In b = false := by rfl) : CE GI X (.Compare a [.In] [b] pos) (wOp (inR false) wa wb) := ce_cmp (op_inA (hu_of hr)) in_snd ha hb hm
theorem ce_ni (hr : Room 0 X.A) (ha : CE GI X a wa) (hb : CE GI X b wb) (hm : behindInMarks .NotIn b = false := by rfl) : CE GI X (.Compare a [.NotIn] [b] pos) (wOp (inR true) wa wb) := ce_cmp (op_niA (hu_of hr)) ni_snd ha hb hm
theorem ct_eq (hr : Room 0 X.A) (ha : CE GI X a wa) (hb : CE GI X b wb) : CT GI X (.Compare a [.Eq] [b] pos) (wTst (wOp (eqR false) wa wb)) := ct_cmp (op_eqA hr.units) eq_snd ha hb (nomark _)
theorem ct_ne (hr : Room 0 X.A) (ha : CE GI X a wa) (hb : CE GI X b wb) : CT GI X (.Compare a [.NotEq] [b] pos) (wTst (wOp (eqR true) wa wb)) := ct_cmp (op_neA hr.units) ne_snd ha hb (nomark _)
theorem ce_eq (hr : Room 0 X.A) (ha : CE GI X a wa) (hb : CE GI X b wb) : CE GI X (.Compare a [.Eq] [b] pos) (wOp (eqR false) wa wb) := ce_cmp (op_eqA hr.units) eq_snd ha hb (nomark _)
theorem ce_ne (hr : Room 0 X.A) (ha : CE GI X a wa) (hb : CE GI X b wb) : CE GI X (.Compare a [.NotEq] [b] pos) (wOp (eqR true) wa wb) := ce_cmp (op_neA hr.units) ne_snd ha hb (nomark _)
theorem ct_lt (ha : CE GI X a wa) (hb : CE GI X b wb) : CT GI X (.Compare a [.Lt] [b] pos) (wTst (wOp ltA wa wb)) := ct_cmp op_ltA lt_snd ha hb (nomark _)
theorem ce_lt (ha : CE GI X a wa) (hb : CE GI X b wb) : CE GI X (.Compare a [.Lt] [b] pos) (wOp ltA wa wb) := ce_cmp op_ltA lt_snd ha hb (nomark _)
theorem ct_le (ha : CE GI X a wa) (hb : CE GI X b wb) : CT GI X (.Compare a [.LtE] [b] pos) (wTst (wOp leA wa wb)) := ct_cmp op_le ltI_snd ha hb (nomark _)
theorem ce_le (ha : CE GI X a wa) (hb : CE GI X b wb) : CE GI X (.Compare a [.LtE] [b] pos) (wOp leA wa wb) := ce_cmp op_le ltI_snd ha hb (nomark _)
theorem ct_gt (ha : CE GI X a wa) (hb : CE GI X b wb) : CT GI X (.Compare a [.Gt] [b] pos) (wTst (wOp gtA wa wb)) := ct_cmp op_gt ltI_snd ha hb (nomark _)
theorem ce_gt (ha : CE GI X a wa) (hb : CE GI X b wb) : CE GI X (.Compare a [.Gt] [b] pos) (wOp gtA wa wb) := ce_cmp op_gt ltI_snd ha hb (nomark _)
theorem ct_ge (ha : CE GI X a wa) (hb : CE GI X b wb) : CT GI X (.Compare a [.GtE] [b] pos) (wTst (wOp geA wa wb)) := ct_cmp op_ge ltI_snd ha hb (nomark _)
theorem ce_ge (ha : CE GI X a wa) (hb : CE GI X b wb) : CE GI X (.Compare a [.GtE] [b] pos) (wOp geA wa wb) := ce_cmp op_ge ltI_snd ha hb (nomark _)
theorem ct_is (ha : CE GI X a wa) (hb : CE GI X b wb) : CT GI X (.Compare a [.Is] [b] pos) (wTst (wOp (isNR false) wa wb)) := ct_cmp op_isN isN_snd ha hb (nomark _)
theorem ce_is (ha : CE GI X a wa) (hb : CE GI X b wb) : CE GI X (.Compare a [.Is] [b] pos) (wOp (isNR false) wa wb) := ce_cmp op_isN isN_snd ha hb (nomark _)
theorem ct_isnot (ha : CE GI X a wa) (hb : CE GI X b wb) : CT GI X (.Compare a [.IsNot] [b] pos) (wTst (wOp (isNR true) wa wb)) := ct_cmp op_notN notN_snd ha hb (nomark _)
theorem ce_isnot (ha : CE GI X a wa) (hb : CE GI X b wb) : CE GI X (.Compare a [.IsNot] [b] pos) (wOp (isNR true) wa wb) := ce_cmp op_notN notN_snd ha hb (nomark _)
end

/-! ### slices -/
abbrev WO := XD → DEnv → CMap → (Option Int → CMap → Prop) → Prop
def lowO (K : PySem.W.Frag) (GI : Hp → Hp → Prop) (W : WX) (wo : WO) : TO := fun σ H Q => ∃ F env c E Qd, RepE K F env σ ∧ Rep K GI F c H ∧ LX K GI W F σ E ∧ wo E env c Qd ∧ ∀ F' c' H' b, Le F F' → Rep K GI F' c' H' → Qd b c' → Q b H'
def CO (GI : Hp → Hp → Prop) (X : Cx) (e : Option Expr) (wo : WO) : Prop := ∀ W, XOk X W → PO X e (lowO X.K GI W wo)
def wNo : WO := fun _ _ c Q => Q none c
def asI : D → CMap → (Int → CMap → Prop) → Prop
  | .int i, c, k => k i c
  | _, _, _ => False
theorem asI_int {d : D} {c : CMap} {k : Int → CMap → Prop} (h : asI d c k) : ∃ i, d = .int i ∧ k i c := by
  cases d <;> first | exact ⟨_, rfl, h⟩ | exact h.elim
def wSome (a : WE) : WO := fun E env c Q => a E env c fun d c1 => asI d c1 fun i c2 => Q (some i) c2
def cutG {α : Type} (xs : List α) (lo hi : Option Int) : List α := (xs.drop (HT.sIx xs.length 0 lo)).take (HT.sIx xs.length xs.length hi - HT.sIx xs.length 0 lo)
def sliceR (m : Bool) (c : CMap) (d : D) (lo hi : Option Int) (Q : DK) : Prop := match res c d with
  | .lst ds => newL m c (cutG ds lo hi) Q
  | .scr ns => newL m c ((cutG ns lo hi).map D.int) Q
  | .str z => z.length ≤ sizeLine ∧ Q (.str (cutS z lo hi)) c
  | .tup ds => ¬ (HT.sIx ds.length 0 lo = 0 ∧ HT.sIx ds.length ds.length hi = ds.length) ∧ Q (.tup (cutG ds lo hi)) c
  | _ => False
def wSl (m : Bool) (a : WE) (lo hi : WO) : WE := fun E env c Q => a E env c fun d c1 => lo E env c1 fun l c2 => hi E env c2 fun h c3 => sliceR m c3 d l h Q
theorem po_imp {X : Cx} {e : Option Expr} {t t' : TO} (h : PO X e t) (k : ∀ σ H Q, t' σ H Q → t σ H Q) : PO X e t' := ⟨fun pins s σ H Q I q => h.run pins s σ H Q I (k _ _ _ q)⟩
section
variable {GI : Hp → Hp → Prop} {X : Cx} {pos p2 : Pos} {a : Expr} {lo hi : Option Expr} {wa : WE} {wl wh : WO}
theorem co_none : CO GI X none wNo := fun W x => by
  refine po_imp po_none ?_
  rintro σ H Q ⟨F, env, c, E, Qd, re, rp, lx, q, k⟩
  exact k F c H none Le.rfl' rp q
theorem co_some (h : CE GI X a wa) : CO GI X (some a) (wSome wa) := fun W x => by
  refine po_imp (po_some (h W x)) ?_
  rintro σ H Q ⟨F, env, c, E, Qd, re, rp, lx, q, k⟩
  refine ⟨F, env, c, E, _, re, rp, lx, q, ?_⟩
  intro F1 c1 H1 v1 d1 l1 r1 h1 q1
  obtain ⟨i, rfl, q2⟩ := asI_int q1
  exact ⟨i, h1.int_inv, k F1 c1 H1 _ l1 r1 q2⟩
theorem cut_snd {K : PySem.W.Frag} {F : Hp} {vs : List V} {ds : List D} (h : DVs K F vs ds) (l u : Option Int) : DVs K F (cutV vs l u) (cutG ds l u) := by
  unfold cutV cutG
  rw [h.length]
  exact (h.drop _).take _
theorem sl_snd (m : Bool) {F H : Hp} {c : CMap} {v : V} {d : D} {l u : Option Int} {Qd : DK} {Q : VK} (r : Rep X.K GI F c H) (h : DV X.K F v d) (q : sliceR m c d l u Qd) (k : LQ X.K GI F Qd Q) :
    rSlL X.K v l u H Q ∨ rSlT X.K v l u H Q ∨ rSlS v l u H Q := by
  unfold sliceR at q
  split at q
  · rename_i e1
    obtain ⟨p, xs, rfl, g1, k1⟩ := res_lst r h e1
    exact .inl ⟨p, xs, rfl, SqL.of g1, newL_snd r (cut_snd k1 l u) q k⟩
  · rename_i e1
    obtain rfl := res_oth e1 (by intro _ z; cases z)
    obtain ⟨p, rfl, g1⟩ := h.scr_inv
    refine .inl ⟨p, _, rfl, sqL_le r.sub g1, newL_snd r (?_ : DVs X.K F _ _) q k⟩
    rename_i ns
    have e : cutV (ns.map V.int) l u = (cutG ns l u).map V.int := by
      unfold cutV cutG
      rw [List.length_map, List.map_take, List.map_drop]
    rw [e]
    exact DVs.ints
  · rename_i e1
    obtain rfl := res_oth e1 (by intro _ z; cases z)
    exact .inr (.inr ⟨_, h.str_inv, q.1, k F c H _ _ Le.rfl' r (.str _) q.2⟩)
  · rename_i e1
    obtain rfl := res_oth e1 (by intro _ z; cases z)
    obtain ⟨p, xs, rfl, g1, k1⟩ := h.tup_inv
    exact .inr (.inl ⟨p, xs, rfl, SqT.of (r.sub _ _ g1), by rw [k1.length]; exact q.1, newT_snd r (cut_snd k1 l u) q.2 k⟩)
  · exact q.elim
theorem ce_slice (m : Bool) (ha : CE GI X a wa) (hl : CO GI X lo wl) (hh : CO GI X hi wh) : CE GI X (.Subscript a (.Slice lo hi none p2) pos) (wSl m wa wl wh) := fun W x => by
  refine pe_imp (pe_slice (sl_list.or (sl_tup.or sl_str)) (ha W x) (hl W x) (hh W x)) ?_
  rintro σ H Q ⟨F, env, c, E, Qd, re, rp, lx, q, k⟩
  refine ⟨F, env, c, E, _, re, rp, lx, q, ?_⟩
  intro F1 c1 H1 v1 d1 l1 r1 h1 q1
  refine ⟨F1, env, c1, E, _, re.le l1, r1, lx.le l1, q1, ?_⟩
  intro F2 c2 H2 o2 l2 r2 q2
  refine ⟨F2, env, c2, E, _, (re.le l1).le l2, r2, (lx.le l1).le l2, q2, ?_⟩
  intro F3 c3 H3 o3 l3 r3 q3
  exact sl_snd m r3 ((h1.le l2).le l3) q3 (((k.le l1).le l2).le l3)
end

/-! ### built-ins -/
def lenR : RDn := fun c ds Q => match ds with
  | [d] => match res c d with
    | .lst es => Q (.int es.length) c
    | .tup es => Q (.int es.length) c
    | .kt es => Q (.int es.length) c
    | .scr ns => Q (.int ns.length) c
    | .str z => z.length ≤ sizeLine ∧ Q (.int z.length) c
    | _ => False
  | _ => False
theorem DVs.inv1 {K : PySem.W.Frag} {F : Hp} {vs : List V} {d : D} (h : DVs K F vs [d]) : ∃ v, vs = [v] ∧ DV K F v d := by
  cases h with
  | cons h k => cases k; exact ⟨_, rfl, h⟩
theorem DVs.inv2 {K : PySem.W.Frag} {F : Hp} {vs : List V} {d e : D} (h : DVs K F vs [d, e]) : ∃ v u, vs = [v, u] ∧ DV K F v d ∧ DV K F u e := by
  cases h with
  | cons h k =>
    obtain ⟨u, rfl, h2⟩ := k.inv1
    exact ⟨_, u, rfl, h, h2⟩
def intR : RDn := fun c ds Q => match ds with
  | [.int i] => Q (.int i) c
  | [.bl b] => Q (.int (if b then 1 else 0)) c
  | _ => False
def absR : RDn := fun c ds Q => match ds with
  | [.int i] => Q (.int (if i < 0 then -i else i)) c
  | _ => False
def max2R : RDn := fun c ds Q => match ds with
  | [.int i, .int j] => Q (.int (if j > i then j else i)) c
  | _ => False
def min2R : RDn := fun c ds Q => match ds with
  | [.int i, .int j] => Q (.int (if j < i then j else i)) c
  | _ => False
def strR : RDn := fun c ds Q => match ds with
  | [.int i] => i.natAbs.log2 < 1920 ∧ Q (.str (toString i)) c
  | _ => False
def rangeR : RDn := fun c ds Q => match ds with
  | [.int n] => ∀ p, c p = none → Q (.ref p) (updc c p (.raw (.rng 0 n)))
  | [.int a, .int b] => ∀ p, c p = none → Q (.ref p) (updc c p (.raw (.rng a b)))
  | _ => False
def upto (a : Int) (n : Nat) : List Int := (List.range n).map fun (i : Nat) => a + (i : Int)
def listR (m : Bool) : RDn := fun c ds Q => match ds with
  | [d] => match res c d with
    | .lst es => newL m c es Q
    | .tup es => newL m c es Q
    | .kt es => newL m c es Q
    | .scr ns => newL m c (ns.map D.int) Q
    | .ref p => match c p with
      | some (.raw (.rng a b)) => -(2 ^ 62) ≤ a ∧ a < 2 ^ 62 ∧ -(2 ^ 62) ≤ b ∧ b < 2 ^ 62 ∧ (b - a).toNat ≤ 2 ^ 24 ∧ newL m c ((upto a (b - a).toNat).map D.int) Q
      | _ => False
    | _ => False
  | _ => False
def tupleR : RDn := fun c ds Q => match ds with
  | [d] => match res c d with
    | .lst es => Q (.tup es) c
    | .tup es => Q (.tup es) c
    | _ => False
  | _ => False
def blsD : List D → Option (List Bool)
  | [] => some []
  | .bl b :: r => (blsD r).map (b :: ·)
  | _ => none
def allR : RDn := fun c ds Q => match ds with
  | [d] => match res c d with
    | .lst es => ∃ bs, blsD es = some bs ∧ Q (.bl (bs.all id)) c
    | _ => False
  | _ => False
def anyR : RDn := fun c ds Q => match ds with
  | [d] => match res c d with
    | .lst es => ∃ bs, blsD es = some bs ∧ Q (.bl (bs.any id)) c
    | _ => False
  | _ => False
def intsD : List D → Option (List Int)
  | [] => some []
  | .int b :: r => (intsD r).map (b :: ·)
  | _ => none
def sumR : RDn := fun c ds Q => match ds with
  | [d] => match res c d with
    | .lst es => ∃ ns, intsD es = some ns ∧ Q (.int ns.sum) c
    | _ => False
  | _ => False
def maxLR : RDn := fun c ds Q => match ds with
  | [d] => match res c d with
    | .lst es => ∃ ns, intsD es = some ns ∧ 0 < ns.length ∧ ∀ m, m ∈ ns → (∀ y, y ∈ ns → y ≤ m) → Q (.int m) c
    | _ => False
  | _ => False
def minLR : RDn := fun c ds Q => match ds with
  | [d] => match res c d with
    | .lst es => ∃ ns, intsD es = some ns ∧ 0 < ns.length ∧ ∀ m, m ∈ ns → (∀ y, y ∈ ns → m ≤ y) → Q (.int m) c
    | _ => False
  | _ => False
theorem bls_V {K : PySem.W.Frag} {F : Hp} : ∀ {vs : List V} {ds : List D} {bs : List Bool}, DVs K F vs ds → blsD ds = some bs → vs = bs.map V.bl
  | _, _, _, .nil, e => by simp only [blsD, Option.some.injEq] at e; subst e; rfl
  | _, _, _, .cons (d := d) h k, e => by
    cases d <;> simp only [blsD, reduceCtorEq, Option.map_eq_some_iff] at e
    obtain ⟨bs, e1, rfl⟩ := e
    rw [List.map_cons, ← bls_V k e1, h.bl_inv]
theorem ints_V {K : PySem.W.Frag} {F : Hp} : ∀ {vs : List V} {ds : List D} {bs : List Int}, DVs K F vs ds → intsD ds = some bs → vs = bs.map V.int
  | _, _, _, .nil, e => by simp only [intsD, Option.some.injEq] at e; subst e; rfl
  | _, _, _, .cons (d := d) h k, e => by
    cases d <;> simp only [intsD, reduceCtorEq, Option.map_eq_some_iff] at e
    obtain ⟨bs, e1, rfl⟩ := e
    rw [List.map_cons, ← ints_V k e1, h.int_inv]
theorem blsD_map (bs : List Bool) : blsD (bs.map D.bl) = some bs := by
  induction bs with
  | nil => rfl
  | cons b r ih => simp [blsD, ih]
theorem intsD_map (bs : List Int) : intsD (bs.map D.int) = some bs := by
  induction bs with
  | nil => rfl
  | cons b r ih => simp [intsD, ih]
def cellTy : Option Cell → Option String
  | some (.lst _) => some "list"
  | some (.dK _) => some "dict"
  | some (.dT _) => some "dict"
  | _ => none
/-- a value's type's name -/
def tyN (c : CMap) : D → Option String
  | .non => some "NoneType"
  | .bl _ => some "bool"
  | .int _ => some "int"
  | .str _ => some "str"
  | .tup _ => some "tuple"
  | .kt _ => some "tuple"
  | .lst _ => some "list"
  | .scr _ => some "list"
  | .ref p => cellTy (c p)
  | .ty _ => none
def tyNs : List String := ["NoneType", "bool", "int", "str", "tuple", "list", "dict"]
def isiB (t n : String) : Option Bool := if tyNs.contains t && tyNs.contains n then some (t == n || (t == "bool" && n == "int")) else none
theorem isi_kit {K : PySem.W.Frag} {t n : String} {b : Bool} (h : isiB t n = some b) : PySem.W.kitOne K (.type t) (.type n) = some b := by
  unfold isiB at h
  split at h
  · rename_i g
    simp only [tyNs, Bool.and_eq_true, List.contains_eq_mem, List.mem_cons, List.not_mem_nil, or_false, decide_eq_true_eq] at g
    simp only [Option.some.injEq] at h
    subst h
    obtain ⟨g1, g2⟩ := g
    rcases g1 with rfl | rfl | rfl | rfl | rfl | rfl | rfl <;> rcases g2 with rfl | rfl | rfl | rfl | rfl | rfl | rfl <;> rfl
  · cases h
def tysD : List D → Option (List String)
  | [] => some []
  | .ty n :: r => (tysD r).map (n :: ·)
  | _ => none
def isiAny (t : String) : List String → Option Bool
  | [] => some false
  | n :: r => match isiB t n with
    | some true => some true
    | some false => isiAny t r
    | none => none
theorem tysD_cls {K : PySem.W.Frag} {F : Hp} : ∀ {vs : List V} {ds : List D} {ns : List String}, DVs K F vs ds → tysD ds = some ns → Paired ClsV vs (ns.map Value.type)
  | _, _, _, .nil, e => by simp only [tysD, Option.some.injEq] at e; subst e; exact .nil
  | _, _, _, .cons (d := d) h k, e => by
    cases d <;> simp only [tysD, reduceCtorEq, Option.map_eq_some_iff] at e
    obtain ⟨ns, e1, rfl⟩ := e
    cases h
    exact .cons (.ty _) (tysD_cls k e1)
theorem isiAny_kit {K : PySem.W.Frag} {t : String} : ∀ {ns : List String} {b : Bool}, isiAny t ns = some b → PySem.W.kitAny K (.type t) (ns.map Value.type) = some b
  | [], b, e => e
  | n :: r, b, e => by
    simp only [isiAny] at e
    split at e
    · rename_i z
      simp only [Option.some.injEq] at e
      subst e
      exact kitAny_cons (isi_kit z) (fun z => by cases z) fun _ => rfl
    · rename_i z
      exact kitAny_cons (isi_kit z) (fun _ => isiAny_kit e) (fun z => by cases z)
    · cases e
def isiR : RDn := fun c ds Q => match ds with
  | [d, .ty n] => ∃ t b, tyN c d = some t ∧ isiB t n = some b ∧ Q (.bl b) c
  | [d, .tup ts] => ∃ t b ns, tyN c d = some t ∧ tysD ts = some ns ∧ isiAny t ns = some b ∧ Q (.bl b) c
  | _ => False
theorem tyN_snd {K : PySem.W.Frag} {GI : Hp → Hp → Prop} {F H : Hp} {c : CMap} {v : V} {d : D} {t : String} (r : Rep K GI F c H) (h : DV K F v d) (e : tyN c d = some t) : TyX K H v (.type t) := by
  cases d with
  | non => cases e; rw [h.non_inv]; exact .base .non
  | bl b => cases e; rw [h.bl_inv]; exact .base (.bl _)
  | int b => cases e; rw [h.int_inv]; exact .base (.int _)
  | str b => cases e; rw [h.str_inv]; exact .base (.str _)
  | tup ds => cases e; obtain ⟨a, xs, rfl, g, _⟩ := h.tup_inv; exact .base (.tup (r.sub _ _ g))
  | kt ds =>
    cases e
    obtain ⟨a, xs, rfl, g, _⟩ := h.kt_inv
    rcases sqT_le r.sub g with (g | ⟨o, g⟩) | ⟨o, its, n, g1, g2, _⟩
    · exact .base (.tup g)
    · exact .fTuple g
    · exact .kTuple g1 g2
  | lst ds => cases e; cases h with | lst g _ => exact .base (.lst (r.sub _ _ g))
  | scr ns =>
    cases e
    obtain ⟨a, rfl, g⟩ := h.scr_inv
    rcases sqL_le r.sub g with (g | ⟨o, g⟩) | ⟨o, its, n, g1, g2, _⟩
    · exact .base (.lst g)
    · exact .base (.frz g)
    · exact .kList g1 g2
  | ref p =>
    rw [h.ref_inv]
    have e : cellTy (c p) = some t := e
    unfold cellTy at e
    split at e
    · rename_i z
      cases e
      obtain ⟨_, o, h0, us, rfl, h1⟩ := r.cel _ _ z
      exact .base (.lst h0)
    · rename_i z
      cases e
      obtain ⟨_, o, h0, us, rfl, h1⟩ := r.cel _ _ z
      exact .base (.dK h0)
    · rename_i z
      cases e
      obtain ⟨_, o, h0, us, rfl, h1⟩ := r.cel _ _ z
      exact .base (.dT h0)
    · cases e
  | ty n => cases e
section
variable {GI : Hp → Hp → Prop} {X : Cx} {p pos : Pos} {x : Str} {e : Expr} {es : List Expr} {wr : WA}
theorem len_snd : SndN X.K GI (fun xs H Q => (∃ p ys, xs = [.ref p] ∧ (SqL X.K H p ys ∨ SqT X.K H p ys) ∧ Q (.int ys.length) H) ∨ ∃ z, xs = [.str z] ∧ z.length ≤ sizeLine ∧ Q (.int z.length) H) lenR := by
  intro F H c vs ds Qd Q r h q k
  unfold lenR at q
  split at q
  · obtain ⟨v, rfl, h0⟩ := h.inv1; clear h; have h := h0
    split at q
    · rename_i e1
      obtain ⟨p, xs, rfl, g1, k1⟩ := res_lst r h e1
      exact .inl ⟨p, xs, rfl, .inl (SqL.of g1), k F c H _ _ Le.rfl' r (by rw [k1.length]; exact .int _) q⟩
    · rename_i e1
      obtain rfl := res_oth e1 (by intro _ z; cases z)
      obtain ⟨p, xs, rfl, g1, k1⟩ := h.tup_inv
      exact .inl ⟨p, xs, rfl, .inr (SqT.of (r.sub _ _ g1)), k F c H _ _ Le.rfl' r (by rw [k1.length]; exact .int _) q⟩
    · rename_i e1
      obtain rfl := res_oth e1 (by intro _ z; cases z)
      obtain ⟨p, xs, rfl, g1, k1⟩ := h.kt_inv
      exact .inl ⟨p, xs, rfl, .inr (sqT_le r.sub g1), k F c H _ _ Le.rfl' r (by rw [k1.length]; exact .int _) q⟩
    · rename_i e1
      obtain rfl := res_oth e1 (by intro _ z; cases z)
      obtain ⟨p, rfl, g1⟩ := h.scr_inv
      exact .inl ⟨p, _, rfl, .inl (sqL_le r.sub g1), k F c H _ _ Le.rfl' r (by rw [List.length_map]; exact .int _) q⟩
    · rename_i e1
      obtain rfl := res_oth e1 (by intro _ z; cases z)
      exact .inr ⟨_, by rw [h.str_inv], q.1, k F c H _ _ Le.rfl' r (.int _) q.2⟩
    · exact q.elim
  · exact q.elim
theorem ce_len (hm : X.mg "len" = none) (ha : CA GI X [e] wr) (hg : Gl X "len" := by rfl) (he : starEach [e] X.env = (false, eval e X.env) :: starEach [] X.env := by rfl) (hpl : (backTo pos (starEach [] X.env)).any (·.1) = false := by rfl) :
    CE GI X (.Call (.Name "len" p) [e] [] pos) (wFn lenR wr) := ce_bfn (call_len_seq.or call_len_str) len_snd hm ha (hg := hg) (he := he) (hpl := hpl)
theorem int_snd : SndN X.K GI (fun xs H Q => (∃ i, xs = [.int i] ∧ Q (.int i) H) ∨ ∃ k, xs = [.bl k] ∧ Q (.int (if k then 1 else 0)) H) intR := by
  intro F H c vs ds Qd Q r h q k
  unfold intR at q
  split at q
  · obtain ⟨v, rfl, h0⟩ := h.inv1; clear h; have h := h0
    exact .inl ⟨_, by rw [h.int_inv], k F c H _ _ Le.rfl' r (.int _) q⟩
  · obtain ⟨v, rfl, h0⟩ := h.inv1; clear h; have h := h0
    exact .inr ⟨_, by rw [h.bl_inv], k F c H _ _ Le.rfl' r (.int _) q⟩
  · exact q.elim
theorem ce_intc (hm : X.mg "int" = none) (ha : CA GI X [e] wr) (hg : Gl X "int" := by rfl) (he : starEach [e] X.env = (false, eval e X.env) :: starEach [] X.env := by rfl) (hpl : (backTo pos (starEach [] X.env)).any (·.1) = false := by rfl) :
    CE GI X (.Call (.Name "int" p) [e] [] pos) (wFn intR wr) := ce_bcl call_int1 int_snd hm ha (hg := hg) (he := he) (hpl := hpl)
theorem ce_abs (hm : X.mg "abs" = none) (ha : CA GI X [e] wr) (hg : Gl X "abs" := by rfl) (he : starEach [e] X.env = (false, eval e X.env) :: starEach [] X.env := by rfl) (hpl : (backTo pos (starEach [] X.env)).any (·.1) = false := by rfl) :
    CE GI X (.Call (.Name "abs" p) [e] [] pos) (wFn absR wr) := ce_bfn call_abs (fun F H c vs ds Qd Q r h q k => by
  unfold absR at q
  split at q
  · obtain ⟨v, rfl, h0⟩ := h.inv1; clear h; have h := h0
    exact ⟨_, by rw [h.int_inv], k F c H _ _ Le.rfl' r (.int _) q⟩
  · exact q.elim) hm ha (hg := hg) (he := he) (hpl := hpl)
theorem ce_max2 {f : Expr} (hc : X.calm = true) (hm : X.mg "max" = none) (ha : CA GI X [e, f] wr) (hg : Gl X "max" := by rfl) (he : starEach [e, f] X.env = (false, eval e X.env) :: starEach [f] X.env := by rfl) (hpl : (backTo pos (starEach [f] X.env)).any (·.1) = false := by rfl) :
    CE GI X (.Call (.Name "max" p) [e, f] [] pos) (wFn max2R wr) := ce_bfn (call_max2 hc) (fun F H c vs ds Qd Q r h q k => by
  unfold max2R at q
  split at q
  · obtain ⟨v, u, rfl, h0, h'⟩ := h.inv2; clear h; have h := h0
    exact ⟨_, _, by rw [h.int_inv, h'.int_inv], k F c H _ _ Le.rfl' r (.int _) q⟩
  · exact q.elim) hm ha (hg := hg) (he := he) (hpl := hpl)
theorem ce_min2 {f : Expr} (hc : X.calm = true) (hm : X.mg "min" = none) (ha : CA GI X [e, f] wr) (hg : Gl X "min" := by rfl) (he : starEach [e, f] X.env = (false, eval e X.env) :: starEach [f] X.env := by rfl) (hpl : (backTo pos (starEach [f] X.env)).any (·.1) = false := by rfl) :
    CE GI X (.Call (.Name "min" p) [e, f] [] pos) (wFn min2R wr) := ce_bfn (call_min2 hc) (fun F H c vs ds Qd Q r h q k => by
  unfold min2R at q
  split at q
  · obtain ⟨v, u, rfl, h0, h'⟩ := h.inv2; clear h; have h := h0
    exact ⟨_, _, by rw [h.int_inv, h'.int_inv], k F c H _ _ Le.rfl' r (.int _) q⟩
  · exact q.elim) hm ha (hg := hg) (he := he) (hpl := hpl)
theorem ce_strc (hm : X.mg "str" = none) (ha : CA GI X [e] wr) (hg : Gl X "str" := by rfl) (he : starEach [e] X.env = (false, eval e X.env) :: starEach [] X.env := by rfl) (hpl : (backTo pos (starEach [] X.env)).any (·.1) = false := by rfl) :
    CE GI X (.Call (.Name "str" p) [e] [] pos) (wFn strR wr) := ce_bcl call_str_int (fun F H c vs ds Qd Q r h q k => by
  unfold strR at q
  split at q
  · obtain ⟨v, rfl, h0⟩ := h.inv1; clear h; have h := h0
    exact ⟨_, by rw [h.int_inv], q.1, k F c H _ _ Le.rfl' r (.str _) q.2⟩
  · exact q.elim) hm ha (hg := hg) (he := he) (hpl := hpl)
theorem ce_isi {f : Expr} (hm : X.mg "isinstance" = none) (ha : CA GI X [e, f] wr) (hg : Gl X "isinstance" := by rfl) (he : starEach [e, f] X.env = (false, eval e X.env) :: starEach [f] X.env := by rfl) (hpl : (backTo pos (starEach [f] X.env)).any (·.1) = false := by rfl) :
    CE GI X (.Call (.Name "isinstance" p) [e, f] [] pos) (wFn isiR wr) := ce_bfn (call_isi.or call_isiT) (fun F H c vs ds Qd Q r h q k => by
  unfold isiR at q
  split at q
  · obtain ⟨v, u, rfl, h0, h'⟩ := h.inv2; clear h; have h := h0
    obtain ⟨t, b, e1, e2, q⟩ := q
    cases h'
    exact .inl ⟨v, _, _, _, b, rfl, .ty _, tyN_snd r h e1, isi_kit e2, k F c H _ _ Le.rfl' r (.bl _) q⟩
  · obtain ⟨v, u, rfl, h0, h'⟩ := h.inv2; clear h; have h := h0
    obtain ⟨t, b, ns, e1, e2, e3, q⟩ := q
    obtain ⟨a, xs, rfl, g, kk⟩ := h'.tup_inv
    exact .inr ⟨v, a, xs, _, _, b, rfl, r.sub _ _ g, tysD_cls kk e2, tyN_snd r h e1, isiAny_kit e3, k F c H _ _ Le.rfl' r (.bl _) q⟩
  · exact q.elim) hm ha (hg := hg) (he := he) (hpl := hpl)
/-- range(a), range(a, b) as values -/
theorem call_rng : CallR X (.type "range") (fun vs H Q => (∃ n, vs = [.int n] ∧ ∀ p, H p = none → Q (.ref p) (upd H p (.rng 0 n))) ∨ ∃ a b, vs = [.int a, .int b] ∧ ∀ p, H p = none → Q (.ref p) (upd H p (.rng a b))) := by
  intro pins s σ H xs us Q I r h
  rcases h with ⟨n, rfl, q⟩ | ⟨a, b, rfl, q⟩
  · obtain ⟨u, rfl, t, rfl⟩ := vals1 r
    exact call_range_1 ⟨.ref s.heap.objs.size, _, I.laid (o := .rng 0 n) (fun b o e => Heap.get?_push_of_some _ e) (Nat.le_refl _) ⟨_, _, _, Heap.get?_push_size _ rfl⟩, rfl, q _ (I.hok.fresh (Nat.le_refl _))⟩
  · obtain ⟨u, u', rfl, ⟨t, rfl⟩, t', rfl⟩ := vals2 r
    exact call_range_2 ⟨.ref s.heap.objs.size, _, I.laid (o := .rng a b) (fun b o e => Heap.get?_push_of_some _ e) (Nat.le_refl _) ⟨_, _, _, Heap.get?_push_size _ rfl⟩, rfl, q _ (I.hok.fresh (Nat.le_refl _))⟩
theorem ce_range (hm : X.mg "range" = none) (ha : CA GI X (e :: es) wr) (hg : Gl X "range" := by rfl) (he : starEach (e :: es) X.env = (false, eval e X.env) :: starEach es X.env := by rfl) (hpl : (backTo pos (starEach es X.env)).any (·.1) = false := by rfl) :
    CE GI X (.Call (.Name "range" p) (e :: es) [] pos) (wFn rangeR wr) := ce_bcl call_rng (fun F H c vs ds Qd Q r h q k => by
  unfold rangeR at q
  split at q
  · obtain ⟨v, rfl, h0⟩ := h.inv1; clear h; have h := h0
    refine .inl ⟨_, by rw [h.int_inv], fun p hp => k F _ _ _ _ Le.rfl' (r.newC (k := .raw (.rng 0 _)) hp ⟨rfl, .inl ⟨_, _, rfl⟩⟩) (.ref p) (q p (r.frc hp))⟩
  · obtain ⟨v, u, rfl, h0, h'⟩ := h.inv2; clear h; have h := h0
    refine .inr ⟨_, _, by rw [h.int_inv, h'.int_inv], fun p hp => k F _ _ _ _ Le.rfl' (r.newC (k := .raw (.rng _ _)) hp ⟨rfl, .inl ⟨_, _, rfl⟩⟩) (.ref p) (q p (r.frc hp))⟩
  · exact q.elim) hm ha (hg := hg) (he := he) (hpl := hpl)
end
end DL
/-! the data layer: more built-ins; statements, loops, comprehensions, defs -/
namespace DL
open PySem PySem.Spec L2
open PyProof.Rows hiding St

theorem vals_of_items {a : Int} : ∀ {n : Nat} {us : List Value}, us.length = n → (∀ (j : Nat) v, us[j]? = some v → ∃ t, v = .int (a + (j : Int)) t) → Vals ((upto a n).map V.int) us := by
  intro n us hl h
  have key : ∀ (k : Nat) (us : List Value), (∀ (j : Nat) v, us[j]? = some v → ∃ t, v = .int (a + ((k + j : Nat) : Int)) t) → Vals ((List.range' k us.length).map fun (i : Nat) => V.int (a + (i : Int))) us := by
    intro k us
    induction us generalizing k with
    | nil => intro _; exact .nil
    | cons u r ih =>
      intro h
      rw [List.length_cons, List.range'_succ, List.map_cons]
      refine .cons ?_ (ih (k + 1) fun j v e => ?_)
      · obtain ⟨t, e⟩ := h 0 u (by simp)
        exact ⟨t, by simpa using e⟩
      · obtain ⟨t, e'⟩ := h (j + 1) v (by simpa using e)
        refine ⟨t, ?_⟩
        rw [e', show k + (j + 1) = k + 1 + j by omega]
  have := key 0 us (fun j v e => by simpa using h j v e)
  unfold upto
  rw [List.range_eq_range', ← hl, List.map_map]
  exact this
section
variable {GI : Hp → Hp → Prop} {X : Cx} {p pos : Pos} {x : Str} {e : Expr} {es : List Expr} {wr : WA}
theorem call_list_rng (hc : X.calm = true) : CallR X (.type "list") (fun vs H Q => ∃ p a b, vs = [.ref p] ∧ H p = some (.rng a b) ∧ -(2 ^ 62) ≤ a ∧ a < 2 ^ 62 ∧ -(2 ^ 62) ≤ b ∧ b < 2 ^ 62 ∧ (b - a).toNat ≤ 2 ^ 24 ∧
    ∀ l, H l = none → Q (.ref l) (upd H l (.lst ((upto a (b - a).toNat).map V.int)))) := by
  intro pins s σ H xs us Q I r h
  obtain ⟨p, a, b, rfl, hH, h1, h2, h3, h4, h5, q⟩ := h
  obtain ⟨u, rfl, ru⟩ := vals1 r
  cases (show u = Value.ref p from ru)
  obtain ⟨t, t2, t3, e⟩ := (show ObjOk X.prog X.w H s.heap p (.rng a b) from I.hok p _ hH)
  have hn : Builtin.Range.rangeSize a b 1 = (((b - a).toNat : Nat) : Int) := by rw [rangeSize_one]; split <;> omega
  refine call_list_range (I.ok.hd hc) e (small_one h1 h2 h3 h4) hn h5 fun h' tk acc' c' k hS it => ?_
  have hv : Vals ((upto a (b - a).toNat).map V.int) acc'.toList := vals_of_items (by simpa using it.1) fun j v ev => by
    obtain ⟨t, e⟩ := it.2 j v (by simpa using ev)
    exact ⟨t, by rw [e]; simp⟩
  have hz : ((upto a (b - a).toNat).map V.int).length ≤ sizeLine := by
    rw [hv.length, sizeLine_eq]
    have := it.1
    simp only [Array.length_toList]
    omega
  exact ⟨.ref s.heap.objs.size, _, I.laid (o := .lst ((upto a (b - a).toNat).map V.int)) k (Nat.le_refl _) ⟨hz, acc'.toList, c', hv, by simpa using hS⟩, rfl, q _ (I.hok.fresh (Nat.le_refl _))⟩
theorem list_snd (m : Bool) : SndN X.K GI (fun xs H Q => (∃ p ys, xs = [.ref p] ∧ (SqL X.K H p ys ∨ SqT X.K H p ys) ∧ ∀ l, H l = none → Q (.ref l) (upd H l (.lst ys))) ∨
    (∃ p a b, xs = [.ref p] ∧ H p = some (.rng a b) ∧ -(2 ^ 62) ≤ a ∧ a < 2 ^ 62 ∧ -(2 ^ 62) ≤ b ∧ b < 2 ^ 62 ∧ (b - a).toNat ≤ 2 ^ 24 ∧ ∀ l, H l = none → Q (.ref l) (upd H l (.lst ((upto a (b - a).toNat).map V.int))))) (listR m) := by
  intro F H c vs ds Qd Q r h q k
  unfold listR at q
  split at q
  · obtain ⟨v, rfl, h0⟩ := h.inv1; clear h; have h := h0
    split at q
    · rename_i e1
      obtain ⟨p, xs, rfl, g1, k1⟩ := res_lst r h e1
      exact .inl ⟨p, xs, rfl, .inl (SqL.of g1), newL_snd r k1 q k⟩
    · rename_i e1
      obtain rfl := res_oth e1 (by intro _ z; cases z)
      obtain ⟨p, xs, rfl, g1, k1⟩ := h.tup_inv
      exact .inl ⟨p, xs, rfl, .inr (SqT.of (r.sub _ _ g1)), newL_snd r k1 q k⟩
    · rename_i e1
      obtain rfl := res_oth e1 (by intro _ z; cases z)
      obtain ⟨p, xs, rfl, g1, k1⟩ := h.kt_inv
      exact .inl ⟨p, xs, rfl, .inr (sqT_le r.sub g1), newL_snd r k1 q k⟩
    · rename_i e1
      obtain rfl := res_oth e1 (by intro _ z; cases z)
      obtain ⟨p, rfl, g1⟩ := h.scr_inv
      exact .inl ⟨p, _, rfl, .inl (sqL_le r.sub g1), newL_snd r DVs.ints q k⟩
    · rename_i e1
      obtain rfl := res_oth e1 (by intro _ z; cases z)
      split at q
      · rename_i z
        obtain ⟨_, o, h0, rfl, _⟩ := r.cel _ _ z
        exact .inr ⟨_, _, _, by rw [h.ref_inv], h0, q.1, q.2.1, q.2.2.1, q.2.2.2.1, q.2.2.2.2.1, newL_snd r DVs.ints q.2.2.2.2.2 k⟩
      · exact q.elim
    · exact q.elim
  · exact q.elim
theorem ce_listc (m : Bool) (hc : X.calm = true) (hm : X.mg "list" = none) (ha : CA GI X [e] wr) (hg : Gl X "list" := by rfl) (he : starEach [e] X.env = (false, eval e X.env) :: starEach [] X.env := by rfl) (hpl : (backTo pos (starEach [] X.env)).any (·.1) = false := by rfl) :
    CE GI X (.Call (.Name "list" p) [e] [] pos) (wFn (listR m) wr) := ce_bcl (call_list_of.or (call_list_rng hc)) (list_snd m) hm ha (hg := hg) (he := he) (hpl := hpl)
theorem ce_tuplec (hm : X.mg "tuple" = none) (ha : CA GI X [e] wr) (hg : Gl X "tuple" := by rfl) (he : starEach [e] X.env = (false, eval e X.env) :: starEach [] X.env := by rfl) (hpl : (backTo pos (starEach [] X.env)).any (·.1) = false := by rfl) :
    CE GI X (.Call (.Name "tuple" p) [e] [] pos) (wFn tupleR wr) := ce_bcl call_tuple_of (fun F H c vs ds Qd Q r h q k => by
  unfold tupleR at q
  split at q
  · obtain ⟨v, rfl, h0⟩ := h.inv1; clear h; have h := h0
    split at q
    · rename_i e1
      obtain ⟨p, xs, rfl, g1, k1⟩ := res_lst r h e1
      exact ⟨p, xs, rfl, .inl ⟨SqL.of g1, newT_snd r k1 q k⟩⟩
    · rename_i e1
      obtain rfl := res_oth e1 (by intro _ z; cases z)
      obtain ⟨p, xs, rfl, g1, k1⟩ := h.tup_inv
      exact ⟨p, xs, rfl, .inr ⟨SqT.of (r.sub _ _ g1), k F c H _ _ Le.rfl' r (.tup g1 k1) q⟩⟩
    · exact q.elim
  · exact q.elim) hm ha (hg := hg) (he := he) (hpl := hpl)
theorem lst1_snd {r : List V → Hp → VK → Prop} {R : CMap → List D → DK → Prop} (hR : ∀ F H c a vs es Qd Q, Rep X.K GI F c H → SqL X.K H a vs → DVs X.K F vs es → R c es Qd → LQ X.K GI F Qd Q → r [.ref a] H Q) :
    SndN X.K GI r (fun c ds Q => match ds with
      | [d] => match res c d with
        | .lst es => R c es Q
        | _ => False
      | _ => False) := by
  intro F H c vs ds Qd Q rp h q k
  split at q
  · obtain ⟨v, rfl, h0⟩ := h.inv1; clear h; have h := h0
    split at q
    · rename_i e1
      obtain ⟨p, xs, rfl, g1, k1⟩ := res_lst rp h e1
      exact hR F H c p xs _ Qd Q rp (SqL.of g1) k1 q k
    · exact q.elim
  · exact q.elim
theorem ce_all (hc : X.calm = true) (hm : X.mg "all" = none) (ha : CA GI X [e] wr) (hg : Gl X "all" := by rfl) (he : starEach [e] X.env = (false, eval e X.env) :: starEach [] X.env := by rfl) (hpl : (backTo pos (starEach [] X.env)).any (·.1) = false := by rfl) :
    CE GI X (.Call (.Name "all" p) [e] [] pos) (wFn allR wr) := ce_bfn (cr_all hc) (lst1_snd (R := fun c es Q => ∃ bs, blsD es = some bs ∧ Q (.bl (bs.all id)) c) fun F H c a vs es Qd Q r s h q k => by
  obtain ⟨bs, e, q⟩ := q
  obtain rfl := bls_V h e
  exact ⟨a, bs, rfl, s, k F c H _ _ Le.rfl' r (.bl _) q⟩) hm ha (hg := hg) (he := he) (hpl := hpl)
theorem ce_any (hc : X.calm = true) (hm : X.mg "any" = none) (ha : CA GI X [e] wr) (hg : Gl X "any" := by rfl) (he : starEach [e] X.env = (false, eval e X.env) :: starEach [] X.env := by rfl) (hpl : (backTo pos (starEach [] X.env)).any (·.1) = false := by rfl) :
    CE GI X (.Call (.Name "any" p) [e] [] pos) (wFn anyR wr) := ce_bfn (cr_any hc) (lst1_snd (R := fun c es Q => ∃ bs, blsD es = some bs ∧ Q (.bl (bs.any id)) c) fun F H c a vs es Qd Q r s h q k => by
  obtain ⟨bs, e, q⟩ := q
  obtain rfl := bls_V h e
  exact ⟨a, bs, rfl, s, k F c H _ _ Le.rfl' r (.bl _) q⟩) hm ha (hg := hg) (he := he) (hpl := hpl)
theorem ce_sum (hc : X.calm = true) (hm : X.mg "sum" = none) (ha : CA GI X [e] wr) (hg : Gl X "sum" := by rfl) (he : starEach [e] X.env = (false, eval e X.env) :: starEach [] X.env := by rfl) (hpl : (backTo pos (starEach [] X.env)).any (·.1) = false := by rfl) :
    CE GI X (.Call (.Name "sum" p) [e] [] pos) (wFn sumR wr) := ce_bfn (cr_sum hc) (lst1_snd (R := fun c es Q => ∃ ns, intsD es = some ns ∧ Q (.int ns.sum) c) fun F H c a vs es Qd Q r s h q k => by
  obtain ⟨bs, e, q⟩ := q
  obtain rfl := ints_V h e
  exact ⟨a, bs, rfl, s, k F c H _ _ Le.rfl' r (.int _) q⟩) hm ha (hg := hg) (he := he) (hpl := hpl)
theorem ce_maxL (hc : X.calm = true) (hm : X.mg "max" = none) (ha : CA GI X [e] wr) (hg : Gl X "max" := by rfl) (he : starEach [e] X.env = (false, eval e X.env) :: starEach [] X.env := by rfl) (hpl : (backTo pos (starEach [] X.env)).any (·.1) = false := by rfl) :
    CE GI X (.Call (.Name "max" p) [e] [] pos) (wFn maxLR wr) := ce_bfn (cr_max hc) (lst1_snd (R := fun c es Q => ∃ ns, intsD es = some ns ∧ 0 < ns.length ∧ ∀ m, m ∈ ns → (∀ y, y ∈ ns → y ≤ m) → Q (.int m) c) fun F H c a vs es Qd Q r s h q k => by
  obtain ⟨bs, e, q0, q⟩ := q
  obtain rfl := ints_V h e
  exact ⟨a, bs, rfl, s, q0, fun m hm1 hm2 => k F c H _ _ Le.rfl' r (.int _) (q m hm1 hm2)⟩) hm ha (hg := hg) (he := he) (hpl := hpl)
theorem ce_minL (hc : X.calm = true) (hm : X.mg "min" = none) (ha : CA GI X [e] wr) (hg : Gl X "min" := by rfl) (he : starEach [e] X.env = (false, eval e X.env) :: starEach [] X.env := by rfl) (hpl : (backTo pos (starEach [] X.env)).any (·.1) = false := by rfl) :
    CE GI X (.Call (.Name "min" p) [e] [] pos) (wFn minLR wr) := ce_bfn (cr_min hc) (lst1_snd (R := fun c es Q => ∃ ns, intsD es = some ns ∧ 0 < ns.length ∧ ∀ m, m ∈ ns → (∀ y, y ∈ ns → m ≤ y) → Q (.int m) c) fun F H c a vs es Qd Q r s h q k => by
  obtain ⟨bs, e, q0, q⟩ := q
  obtain rfl := ints_V h e
  exact ⟨a, bs, rfl, s, q0, fun m hm1 hm2 => k F c H _ _ Le.rfl' r (.int _) (q m hm1 hm2)⟩) hm ha (hg := hg) (he := he) (hpl := hpl)
end
/-! ### sorted -/
def strsD : List D → Option (List Str)
  | [] => some []
  | .str b :: r => (strsD r).map (b :: ·)
  | _ => none
theorem strs_V2 {K : PySem.W.Frag} {F : Hp} : ∀ {vs : List V} {ds : List D} {bs : List Str}, DVs K F vs ds → strsD ds = some bs → vs = bs.map V.str
  | _, _, _, .nil, e => by simp only [strsD, Option.some.injEq] at e; subst e; rfl
  | _, _, _, .cons (d := d) h k, e => by
    cases d <;> simp only [strsD, reduceCtorEq, Option.map_eq_some_iff] at e
    obtain ⟨bs, e1, rfl⟩ := e
    rw [List.map_cons, ← strs_V2 k e1, h.str_inv]
theorem strsD_map (bs : List Str) : strsD (bs.map D.str) = some bs := by
  induction bs with
  | nil => rfl
  | cons b r ih => simp [strsD, ih]
theorem DVs.strs {K : PySem.W.Frag} {F : Hp} : ∀ {ns : List Str}, DVs K F (ns.map V.str) (ns.map D.str)
  | [] => .nil
  | n :: r => .cons (.str n) DVs.strs
def sortR (m : Bool) : RDn := fun c ds Q => match ds with
  | [d] => match res c d with
    | .lst es => (∃ ns, intsD es = some ns ∧ ∀ ns' : List Int, ns'.Perm ns → ns'.Pairwise (· ≤ ·) → newL m c (ns'.map D.int) Q) ∨ ∃ ss, strsD es = some ss ∧ ss.length < 64 ∧ ∀ ys : List Str, ys.Perm ss → PyProof.Rows.sortedS ys = true → newL m c (ys.map D.str) Q
    | _ => False
  | _ => False
theorem ce_sorted {GI : Hp → Hp → Prop} {X : Cx} {p pos : Pos} {e : Expr} {wr : WA} (m : Bool) (hm : X.mg "sorted" = none) (ha : CA GI X [e] wr) (hg : Gl X "sorted" := by rfl) (he : starEach [e] X.env = (false, eval e X.env) :: starEach [] X.env := by rfl) (hpl : (backTo pos (starEach [] X.env)).any (·.1) = false := by rfl) :
    CE GI X (.Call (.Name "sorted" p) [e] [] pos) (wFn (sortR m) wr) := ce_bfn (cr_sortedI.or cr_sortedS) (lst1_snd (R := fun c es Q => (∃ ns, intsD es = some ns ∧ ∀ ns' : List Int, ns'.Perm ns → ns'.Pairwise (· ≤ ·) → newL m c (ns'.map D.int) Q) ∨ ∃ ss, strsD es = some ss ∧ ss.length < 64 ∧ ∀ ys : List Str, ys.Perm ss → PyProof.Rows.sortedS ys = true → newL m c (ys.map D.str) Q) fun F H c a vs es Qd Q r s h q k => by
  rcases q with ⟨ns, e, q⟩ | ⟨ss, e, hl, q⟩
  · obtain rfl := ints_V h e
    exact .inl ⟨a, ns, rfl, s, fun ns' p g1 g2 hp => newL_snd r DVs.ints (q ns' g1 g2) k p hp⟩
  · obtain rfl := strs_V2 h e
    exact .inr ⟨a, ss, rfl, s, hl, fun ys p g1 g2 hp => newL_snd r DVs.strs (q ys g1 g2) k p hp⟩) hm ha (hg := hg) (he := he) (hpl := hpl)
/-- a cell's list laid by for ever -/
def frzR (d : D) (c1 : CMap) (Q : DK) : Prop := ∃ p ds, d = .ref p ∧ c1 p = some (.lst ds) ∧ Q (.lst ds) (delc c1 p)
def wFrz (a : WE) : WE := fun E env c Q => a E env c fun d c1 => frzR d c1 Q
theorem ce_frz {GI : Hp → Hp → Prop} {X : Cx} {e : Expr} {wa : WE} (h : CE GI X e wa) : CE GI X e (wFrz wa) := fun W x => by
  refine pe_imp (h W x) ?_
  rintro σ H Q ⟨F, env, c, E, Qd, re, rp, lx, q, k⟩
  refine ⟨F, env, c, E, _, re, rp, lx, q, ?_⟩
  rintro F1 c1 H1 v1 d1 l1 r1 h1 ⟨p, ds, rfl, e1, q1⟩
  obtain ⟨F2, l2, r2, h2⟩ := r1.frz e1
  rw [h1.ref_inv]
  exact k F2 _ H1 _ _ (l1.trans' l2) r2 h2 q1

/-- cells that nobody asks for any more may be left out -/
def wkQ (Q : DK) : DK := fun d c' => ∃ c2, SubC c2 c' ∧ Q d c2
def wWk (a : WE) : WE := fun E env c Q => a E env c (wkQ Q)
theorem ce_wk {GI : Hp → Hp → Prop} {X : Cx} {e : Expr} {wa : WE} (h : CE GI X e wa) : CE GI X e (wWk wa) := fun W x => by
  refine pe_imp (h W x) ?_
  rintro σ H Q ⟨F, env, c, E, Qd, re, rp, lx, q, k⟩
  refine ⟨F, env, c, E, _, re, rp, lx, q, ?_⟩
  rintro F1 c1 H1 v1 d1 l1 r1 h1 ⟨c2, s2, q1⟩
  exact k F1 c2 H1 _ _ l1 (r1.sub' s2) h1 q1

/-! ### statements -/
def wSeq (a b : WS) : WS := fun DD env c => a { DD with nx := fun env' c' => b DD env' c' } env c
def wSkip : WS := fun DD env c => DD.nx env c
def wBrk : WS := fun DD env c => DD.bk env c
def wCnt : WS := fun DD env c => DD.ct env c
def wDrop (a : WE) : WS := fun DD env c => a (exE DD env) env c fun _ c1 => DD.nx env c1
def wRet (a : WE) : WS := fun DD env c => a (exE DD env) env c DD.rt
def wRetN : WS := fun DD _ c => DD.rt .non c
def wIf (t : WT) (a b : WS) : WS := fun DD env c => t (exE DD env) env c fun k c1 => if k = true then a DD env c1 else b DD env c1
def wAsg (i : Nat) (a : WE) : WS := fun DD env c => a (exE DD env) env c fun d c1 => DD.nx (env.set i (some d)) c1
section
variable {GI : Hp → Hp → Prop} {X : Cx} {st : Stmt} {rest sa sb : List Stmt} {ws ws2 : WS} {e : Expr} {wa : WE} {wt : WT} {pos : Pos}
theorem css_nil : CSs GI X [] wSkip := fun W x => by
  refine pss_imp pss_nil ?_
  rintro Dn σ H ⟨F, env, c, DD, re, r, q, l⟩
  exact l.nx F env c σ H Le.rfl' re r q
theorem css_cons (h : CS GI X st ws) (h2 : CSs GI X rest ws2) : CSs GI X (st :: rest) (wSeq ws ws2) := fun W x => by
  refine pss_imp (pss_cons (h W x) (h2 W x)) ?_
  rintro Dn σ H ⟨F, env, c, DD, re, r, q, l⟩
  refine ⟨F, env, c, _, re, r, q, ⟨fun F1 env1 c1 σ1 H1 l1 re1 r1 q1 => ?_, l.rt, l.bk, l.ct, l.ex⟩⟩
  exact ⟨F1, env1, c1, DD, re1, r1, q1, l.le l1⟩
theorem css_one (h : CS GI X st ws) : CSs GI X [st] ws := fun W x => pss_one (h W x)
theorem cs_pass : CS GI X (.Pass pos) wSkip := fun W x => by
  refine ps_imp ps_pass ?_
  rintro Dn σ H ⟨F, env, c, DD, re, r, q, l⟩
  exact l.nx F env c σ H Le.rfl' re r q
theorem cs_break : CS GI X (.Break pos) wBrk := fun W x => by
  refine ps_imp ps_break ?_
  rintro Dn σ H ⟨F, env, c, DD, re, r, q, l⟩
  exact l.bk F env c σ H Le.rfl' re r q
theorem cs_continue : CS GI X (.Continue pos) wCnt := fun W x => by
  refine ps_imp ps_continue ?_
  rintro Dn σ H ⟨F, env, c, DD, re, r, q, l⟩
  exact l.ct F env c σ H Le.rfl' re r q
theorem cs_expr (h : CE GI X e wa) (hs : swapsWith e none pos.line X.env = pure false := by rfl) : CS GI X (.Expr e pos) (wDrop wa) := fun W x => by
  refine ps_imp (ps_expr (h W x) hs) ?_
  rintro Dn σ H ⟨F, env, c, DD, re, r, q, l⟩
  refine ⟨F, env, c, _, _, re, r, l.lx re, q, ?_⟩
  intro F1 c1 H1 v d l1 r1 h1 q1
  exact l.nx F1 env c1 σ H1 l1 (re.le l1) r1 q1
theorem cs_ret (h : CE GI X e wa) : CS GI X (.Return (some e) pos) (wRet wa) := fun W x => by
  refine ps_imp (ps_ret (h W x)) ?_
  rintro Dn σ H ⟨F, env, c, DD, re, r, q, l⟩
  exact ⟨F, env, c, _, _, re, r, l.lx re, q, fun F1 c1 H1 v d l1 r1 h1 q1 => l.rt F1 c1 H1 v d l1 r1 h1 q1⟩
theorem cs_retN : CS GI X (.Return none pos) wRetN := fun W x => by
  refine ps_imp ps_retN ?_
  rintro Dn σ H ⟨F, env, c, DD, re, r, q, l⟩
  exact l.rt F c H _ _ Le.rfl' r .non q
theorem cs_if (h : CT GI X e wt) (ha : CSs GI X sa ws) (hb : CSs GI X sb ws2) : CS GI X (.If e sa sb pos) (wIf wt ws ws2) := fun W x => by
  refine ps_imp (ps_if (h W x) (ha W x) (hb W x)) ?_
  rintro Dn σ H ⟨F, env, c, DD, re, r, q, l⟩
  refine ⟨F, env, c, _, _, re, r, l.lx re, q, ?_⟩
  intro F1 c1 H1 b l1 r1 q1
  cases b with
  | true => rw [if_pos rfl] at q1 ⊢; exact ⟨F1, env, c1, DD, re.le l1, r1, q1, l.le l1⟩
  | false => rw [if_neg (by decide)] at q1 ⊢; exact ⟨F1, env, c1, DD, re.le l1, r1, q1, l.le l1⟩
theorem cs_asg (i : Nat) {x : Str} {pos' : Pos} (he : CE GI X e wa) (hi : X.N[i]? = some x := by rfl) (hx : Loc X.env.scope x := by first | exact Or.inl rfl | exact Or.inr rfl) (hs : swapsWith e (some (.Name x pos')) pos.line X.env = pure false := by rfl)
    (hf : X.fn x = true ∨ X.env.scope.names.lookup x = some .local := by first | exact .inl rfl | exact .inr rfl) : CS GI X (.Assign [.Name x pos'] e pos) (wAsg i wa) := fun W xo => by
  refine ps_imp (ps_set xo.nd hi hx (he W xo) hs hf) ?_
  rintro Dn σ H ⟨F, env, c, DD, re, r, q, l⟩
  refine ⟨F, env, c, _, _, re, r, l.lx re, q, ?_⟩
  intro F1 c1 H1 v d l1 r1 h1 q1
  exact l.nx F1 _ c1 _ H1 l1 ((re.le l1).set i h1) r1 q1
end
/-! ### targets -/
abbrev WG := D → DEnv → CMap → (DEnv → CMap → Prop) → Prop
abbrev WGs := List D → DEnv → CMap → (DEnv → CMap → Prop) → Prop
def lowG (K : PySem.W.Frag) (GI : Hp → Hp → Prop) (vs : List Nat) (wg : WG) : TG := fun v σ H Q => ∃ F env c d Qd, RepE K F env σ ∧ Rep K GI F c H ∧ DV K F v d ∧ wg d env c Qd ∧ ∀ F' env' c' σ' H', Le F F' → RepE K F' env' σ' → Rep K GI F' c' H' → wipe σ' vs = wipe σ vs → Qd env' c' → Q σ' H'
def lowGs (K : PySem.W.Frag) (GI : Hp → Hp → Prop) (vs : List Nat) (wg : WGs) : TGs := fun us σ H Q => ∃ F env c ds Qd, RepE K F env σ ∧ Rep K GI F c H ∧ DVs K F us ds ∧ wg ds env c Qd ∧ ∀ F' env' c' σ' H', Le F F' → RepE K F' env' σ' → Rep K GI F' c' H' → wipe σ' vs = wipe σ vs → Qd env' c' → Q σ' H'
def CG (GI : Hp → Hp → Prop) (X : Cx) (vs : List Nat) (tg : Expr) (wg : WG) : Prop := X.N.Nodup → PG X tg (lowG X.K GI vs wg)
def CGs (GI : Hp → Hp → Prop) (X : Cx) (vs : List Nat) (tg : List Expr) (wg : WGs) : Prop := X.N.Nodup → PGs X tg (lowGs X.K GI vs wg)
theorem pg_imp {X : Cx} {e : Expr} {t t' : TG} (h : PG X e t) (k : ∀ v σ H Q, t' v σ H Q → t v σ H Q) : PG X e t' := ⟨fun pins s σ H v u Q I r q => h.run pins s σ H v u Q I r (k _ _ _ _ q)⟩
theorem pgs_imp {X : Cx} {e : List Expr} {t t' : TGs} (h : PGs X e t) (k : ∀ v σ H Q, t' v σ H Q → t v σ H Q) : PGs X e t' := ⟨fun pins s σ H v u Q I r q => h.run pins s σ H v u Q I r (k _ _ _ _ q)⟩
theorem wipe_set {i : Nat} {x : Option V} : ∀ {vs : List Nat} {σ : St}, i ∈ vs → wipe (σ.set i x) vs = wipe σ vs
  | v :: vs, σ, h => by
    have key : ∀ (ws : List Nat) (τ : St), (wipe (τ.set i x) ws).set i none = (wipe τ ws).set i none := by
      intro ws
      induction ws with
      | nil => intro τ; show (τ.set i x).set i none = τ.set i none; rw [List.set_set]
      | cons w ws ih =>
        intro τ
        show ((wipe (τ.set i x) ws).set w none).set i none = ((wipe τ ws).set w none).set i none
        by_cases hw : w = i
        · subst hw; rw [List.set_set, List.set_set, ih]
        · rw [List.set_comm _ _ hw, ih, List.set_comm _ _ (Ne.symm hw)]
    rcases List.mem_cons.mp h with rfl | h
    · exact key vs σ
    · show (wipe (σ.set i x) vs).set v none = (wipe σ vs).set v none
      rw [wipe_set h]
def gNm (i : Nat) : WG := fun d env c Q => Q (env.set i (some d)) c
def gNl : WGs := fun ds env c Q => ds = [] ∧ Q env c
def gCn (g : WG) (gs : WGs) : WGs := fun ds env c Q => ∃ d r, ds = d :: r ∧ g d env c fun env' c' => gs r env' c' Q
def gTp (n : Nat) (gs : WGs) : WG := fun d env c Q => ∃ ds, (d = .tup ds ∨ d = .kt ds) ∧ ds.length = n ∧ gs ds env c Q
section
variable {GI : Hp → Hp → Prop} {X : Cx} {pos : Pos} {vs : List Nat} {es : List Expr} {g : WG} {gs : WGs} {e : Expr}
theorem cg_name (i : Nat) {x : Str} (hv : i ∈ vs := by decide) (hi : X.N[i]? = some x := by rfl) (hx : Loc X.env.scope x := by first | exact Or.inl rfl | exact Or.inr rfl) (hf : X.fn x = true ∨ X.env.scope.names.lookup x = some .local := by first | exact .inl rfl | exact .inr rfl) : CG GI X vs (.Name x pos) (gNm i) := fun nd => by
  refine pg_imp (pg_name nd hi hx hf) ?_
  rintro v σ H Q ⟨F, env, c, d, Qd, re, r, h, q, k⟩
  exact k F _ c _ H Le.rfl' (re.set i h) r (wipe_set hv) q
theorem cgs_nil : CGs GI X vs [] gNl := fun nd => by
  refine pgs_imp pgs_nil ?_
  rintro v σ H Q ⟨F, env, c, ds, Qd, re, r, h, ⟨rfl, q⟩, k⟩
  cases h
  exact ⟨rfl, k F _ c _ H Le.rfl' re r rfl q⟩
theorem cgs_cons (h1 : CG GI X vs e g) (h2 : CGs GI X vs es gs) (hs : (assignEach (e :: es) X.env).map (·.2) = assign e X.env :: (assignEach es X.env).map (·.2) := by rfl) : CGs GI X vs (e :: es) (gCn g gs) := fun nd => by
  refine pgs_imp (pgs_cons (h1 nd) (h2 nd) hs) ?_
  rintro us σ H Q ⟨F, env, c, ds, Qd, re, r, h, ⟨d, dr, rfl, q⟩, k⟩
  cases h with
  | cons ha hb =>
    refine ⟨_, _, rfl, F, env, c, d, _, re, r, ha, q, ?_⟩
    intro F1 env1 c1 σ1 H1 l1 re1 r1 w1 q1
    refine ⟨F1, env1, c1, dr, Qd, re1, r1, hb.le l1, q1, ?_⟩
    intro F2 env2 c2 σ2 H2 l2 re2 r2 w2 q2
    exact k F2 env2 c2 σ2 H2 (l1.trans' l2) re2 r2 (w2.trans w1) q2
theorem cg_tup (n : Nat) {k : Nat} (hc : X.calm = true) (h : CGs GI X vs es gs) (hn : (assignEach es X.env).length = n := by rfl) (hst : (assignEach es X.env).findIdx? (·.1) = none := by rfl) : CG GI X vs (.Tuple es k pos) (gTp n gs) := fun nd => by
  refine pg_imp (pg_tup hc (h nd) hn hst) ?_
  rintro v σ H Q ⟨F, env, c, d, Qd, re, r, h, ⟨ds, hd, hl, q⟩, kk⟩
  rcases hd with rfl | rfl
  · obtain ⟨a, xs, rfl, g1, k1⟩ := h.tup_inv
    exact ⟨a, xs, rfl, SqT.of (r.sub _ _ g1), by rw [k1.length]; exact hl, F, env, c, ds, Qd, re, r, k1, q, kk⟩
  · obtain ⟨a, xs, rfl, g1, k1⟩ := h.kt_inv
    exact ⟨a, xs, rfl, sqT_le r.sub g1, by rw [k1.length]; exact hl, F, env, c, ds, Qd, re, r, k1, q, kk⟩
end
def wAsgG (g : WG) (a : WE) : WS := fun DD env c => a (exE DD env) env c fun d c1 => g d env c1 DD.nx
theorem cs_asgG {GI : Hp → Hp → Prop} {X : Cx} {pos : Pos} (vs : List Nat) {tg e : Expr} {wa : WE} {g : WG} (he : CE GI X e wa) (hg : CG GI X vs tg g) (hs : swapsWithSole [tg] e pos.line X.env = pure false := by rfl) (hw : swappedStores [tg] e X.env = pure none := by rfl)
    (h1 : (assignEach [tg] X.env).map (·.2) = [assign tg X.env] := by rfl) : CS GI X (.Assign [tg] e pos) (wAsgG g wa) := fun W x => by
  refine ps_imp (ps_asg (he W x) (hg x.nd) hs hw h1) ?_
  rintro Dn σ H ⟨F, env, c, DD, re, r, q, l⟩
  refine ⟨F, env, c, _, _, re, r, l.lx re, q, ?_⟩
  intro F1 c1 H1 v d l1 r1 h1 q1
  exact ⟨F1, env, c1, d, _, re.le l1, r1, h1, q1, fun F2 env2 c2 σ2 H2 l2 re2 r2 _ q2 => l.nx F2 env2 c2 σ2 H2 (l1.trans' l2) re2 r2 q2⟩
/-- o[i] = e -/
def putKD {κ : Type} [DecidableEq κ] (kvs : List (κ × D)) (k : κ) (v : D) : List (κ × D) :=
  if (kvs.any fun kv => decide (kv.1 = k)) = true then kvs.map (fun kv => if kv.1 = k then (kv.1, v) else kv) else kvs ++ [(k, v)]
def setR (c : CMap) (o i v : D) (Q : CMap → Prop) : Prop := ∃ p, o = .ref p ∧ match c p with
  | some (.lst ds) => ∃ k j, i = .int k ∧ ixN ds.length k = some j ∧ Q (updc c p (.lst (ds.set j v)))
  | some (.dK kvs) => ∃ k, keyD i = some k ∧ kvs.length < sizeLine ∧ Q (updc c p (.dK (putKD kvs k v)))
  | some (.dT kvs) => ∃ es k, i = .tup es ∧ keysD es = some k ∧ kvs.length < sizeLine ∧ Q (updc c p (.dT (putKD kvs k v)))
  | _ => False
def wSet (o i a : WE) : WS := fun DD env c => a (exE DD env) env c fun d c1 => o (exE DD env) env c1 fun x c2 => i (exE DD env) env c2 fun y c3 => setR c3 x y d fun c4 => DD.nx env c4
theorem set_dict {X : Cx} (hu : X.A.units + 1 < cLine) : PSet X (fun o i v H Q => ∃ a H4, o = .ref a ∧ DPut H a i v H4 ∧ Q H4) := by
  intro pins s σ H o i v ov iv u Q I ro ri rv h
  obtain ⟨a, H4, rfl, g, q⟩ := h
  cases ro
  exact d_setItem hu I g ri rv fun s' I' => ⟨H4, I', q⟩
theorem pset_or {X : Cx} {t t' : TSet} (h : PSet X t) (h' : PSet X t') : PSet X (fun o i v H Q => t o i v H Q ∨ t' o i v H Q) := by
  intro pins s σ H o i v ov iv u Q I ro ri rv q
  rcases q with q | q
  · exact h pins s σ H o i v ov iv u Q I ro ri rv q
  · exact h' pins s σ H o i v ov iv u Q I ro ri rv q
theorem KD.length {κ : Type} {K : PySem.W.Frag} {F : Hp} {us : List (κ × V)} {kvs : List (κ × D)} (h : KD K F us kvs) : us.length = kvs.length := Paired.length h
theorem KD.repl {κ : Type} [DecidableEq κ] {K : PySem.W.Frag} {F : Hp} {us : List (κ × V)} {kvs : List (κ × D)} (h : KD K F us kvs) (k : κ) {v : V} {d : D} (q : DV K F v d) :
    KD K F (us.map fun kv => if kv.1 = k then (kv.1, v) else kv) (kvs.map fun kv => if kv.1 = k then (kv.1, d) else kv) := by
  induction h with
  | nil => exact .nil
  | @cons a b l1 l2 z t ih =>
    rw [List.map_cons, List.map_cons]
    refine .cons ?_ ih
    obtain ⟨z1, z2⟩ := z
    by_cases e : a.1 = k
    · rw [if_pos e, if_pos (by rw [← z1]; exact e)]; exact ⟨z1, q⟩
    · rw [if_neg e, if_neg (by rw [← z1]; exact e)]; exact ⟨z1, z2⟩
theorem KD.put {κ : Type} [DecidableEq κ] {K : PySem.W.Frag} {F : Hp} {us : List (κ × V)} {kvs : List (κ × D)} (h : KD K F us kvs) (k : κ) {v : V} {d : D} (q : DV K F v d) : KD K F (putK us k v) (putKD kvs k d) := by
  have hany : (us.any fun kv => decide (kv.1 = k)) = (kvs.any fun kv => decide (kv.1 = k)) := by
    induction h with
    | nil => rfl
    | cons a t ih => rw [List.any_cons, List.any_cons, ih, a.1]
  unfold putK putKD
  rw [hany]
  split
  · exact KD.repl h k q
  · exact Paired.snoc h ⟨rfl, q⟩
theorem set_snd {K : PySem.W.Frag} {GI : Hp → Hp → Prop} {F H : Hp} {c : CMap} {o i v : V} {x y d : D} {Qd : CMap → Prop} {Q : Hp → Prop} (r : Rep K GI F c H) (ho : DV K F o x) (hi : DV K F i y) (hv : DV K F v d) (q : setR c x y d Qd)
    (k : ∀ c' H', Rep K GI F c' H' → Qd c' → Q H') : rSetL o i v H Q ∨ ∃ a H4, o = .ref a ∧ DPut H a i v H4 ∧ Q H4 := by
  obtain ⟨p, rfl, q⟩ := q
  rw [ho.ref_inv]
  split at q
  · rename_i ds e
    obtain ⟨kk, j, rfl, q1, q2⟩ := q
    obtain ⟨us, h0, h1⟩ := r.lst e
    refine .inl ⟨p, us, kk, j, rfl, hi.int_inv, h0, by rw [h1.length]; exact q1, k _ _ (r.wr (k := .lst (ds.set j d)) e (by rw [h0]; trivial) ⟨_, rfl, h1.set j hv⟩) q2⟩
  · rename_i kvs e
    obtain ⟨kk, q0, q1, q2⟩ := q
    obtain ⟨_, o, h0, us, rfl, h1⟩ := r.cel _ _ e
    obtain rfl := keyD_kV hi q0
    exact .inr ⟨p, _, rfl, DPut.k h0 (by rw [h1.length]; exact q1), k _ _ (r.wr (k := .dK (putKD kvs kk d)) e (by rw [h0]; trivial) ⟨_, rfl, h1.put kk hv⟩) q2⟩
  · rename_i kvs e
    obtain ⟨es, kk, rfl, q0, q1, q2⟩ := q
    obtain ⟨_, o, h0, us, rfl, h1⟩ := r.cel _ _ e
    obtain ⟨b, xs, rfl, g1, g2⟩ := hi.tup_inv
    obtain rfl := keysD_kV g2 q0
    exact .inr ⟨p, _, rfl, DPut.t h0 (r.sub _ _ g1) (by rw [h1.length]; exact q1), k _ _ (r.wr (k := .dT (putKD kvs kk d)) e (by rw [h0]; trivial) ⟨_, rfl, h1.put kk hv⟩) q2⟩
  · exact q.elim
theorem cs_set {GI : Hp → Hp → Prop} {X : Cx} {pos pos' : Pos} {o i e : Expr} {wo wi wa : WE} (hr : Room 0 X.A) (ho : CE GI X o wo) (hi : CE GI X i wi) (he : CE GI X e wa) (hs : swapsWithSole [.Subscript o i pos'] e pos.line X.env = pure false := by rfl)
    (hw : swappedStores [.Subscript o i pos'] e X.env = pure none := by rfl) (h1 : (assignEach [.Subscript o i pos'] X.env).map (·.2) = [assign (.Subscript o i pos') X.env] := by rfl)
    (hA : ∀ v, assign (.Subscript o i pos') X.env v = (do
      let ov ← holding [v] (eval o X.env)
      let iv ← holding [v, ov] (eval i X.env)
      standAt pos'
      holding [v, ov, iv] (setItem ov iv v)
      release [v, ov, iv] []) := by intro _; rfl) : CS GI X (.Assign [.Subscript o i pos'] e pos) (wSet wo wi wa) := fun W x => by
  refine ps_imp (ps_asg (he W x) (pg_sub (ho W x) (hi W x) (pset_or set_list (set_dict (hu_of hr))) hA) hs hw h1) ?_
  rintro Dn σ H ⟨F, env, c, DD, re, r, q, l⟩
  refine ⟨F, env, c, _, _, re, r, l.lx re, q, ?_⟩
  intro F1 c1 H1 v d l1 r1 h1 q1
  refine ⟨F1, env, c1, _, _, re.le l1, r1, (l.le l1).lx (re.le l1), q1, ?_⟩
  intro F2 c2 H2 o2 x2 l2 r2 h2 q2
  refine ⟨F2, env, c2, _, _, (re.le l1).le l2, r2, ((l.le l1).le l2).lx ((re.le l1).le l2), q2, ?_⟩
  intro F3 c3 H3 i3 y3 l3 r3 h3 q3
  exact set_snd r3 (h2.le l3) h3 ((h1.le l2).le l3) q3 fun c4 H4 r4 q4 => l.nx F3 env c4 σ H4 ((l1.trans' l2).trans' l3) (((re.le l1).le l2).le l3) r4 q4

/-! ### what a loop walks -/
/-- what a walk asks of the cells at each turn -/
abbrev noG : CMap → Prop := fun _ => True
abbrev WI := XD → DEnv → CMap → (List D → (CMap → Prop) → CMap → Prop) → Prop
def DIter (K : PySem.W.Frag) (GI : Hp → Hp → Prop) (J : It) (ds : List D) (G : CMap → Prop) (F : Hp) : Prop := ∀ (F1 : Hp) (c : CMap) (H : Hp) (i : Nat), Le F F1 → Rep K GI F1 c H → G c →
  (∀ d, ds[i]? = some d → J.go i H ∧ ∀ x H', J.yld i H x H' → ∃ F2, Le F1 F2 ∧ Rep K GI F2 c H' ∧ DV K F2 x d) ∧ (ds.length ≤ i → J.stop i H)
theorem DIter.le {K : PySem.W.Frag} {GI : Hp → Hp → Prop} {J : It} {ds : List D} {G : CMap → Prop} {F F' : Hp} (l : Le F F') (h : DIter K GI J ds G F) : DIter K GI J ds G F' := fun F1 c H i l1 => h F1 c H i (l.trans' l1)
def lowI (K : PySem.W.Frag) (GI : Hp → Hp → Prop) (W : WX) (wi : WI) : TI := fun σ H R => ∃ F env c E Qd, RepE K F env σ ∧ Rep K GI F c H ∧ LX K GI W F σ E ∧ wi E env c Qd ∧ ∀ F' c' H' J ds G, Le F F' → Rep K GI F' c' H' → DIter K GI J ds G F' → Qd ds G c' → R J H'
def CI (GI : Hp → Hp → Prop) (X : Cx) (tg e : Expr) (wi : WI) : Prop := ∀ W, XOk X W → PI X tg e (lowI X.K GI W wi)
theorem pi_imp {X : Cx} {tg e : Expr} {t t' : TI} (h : PI X tg e t) (k : ∀ σ H Q, t' σ H Q → t σ H Q) : PI X tg e t' := ⟨fun pins s σ H Q I q => h.run pins s σ H Q I (k _ _ _ q)⟩
/-- a frozen list, a tuple, a text, as what is walked -/
def itsD : D → Option (List D)
  | .lst ds => some ds
  | .tup ds => some ds
  | .kt ds => some ds
  | .scr ns => some (ns.map D.int)
  | .str z => some (z.cps.toList.map fun k => D.str ⟨#[k]⟩)
  | _ => none
def itR (d : D) (c1 : CMap) (N : List D → (CMap → Prop) → CMap → Prop) : Prop := (∃ ds, itsD d = some ds ∧ N ds noG c1) ∨ ∃ p ds, d = .ref p ∧ c1 p = some (.lst ds) ∧ N ds (fun c => c p = some (.lst ds)) c1
def wIt (a : WE) : WI := fun E env c Q => a E env c fun d c1 => itR d c1 Q
theorem pi_any {X : Cx} {tg e : Expr} {te : TE} (he : PE X e te) : PI X tg e (fun σ H R => te σ H fun v H1 => (∃ a, v = .ref a ∧ (∃ xs, SqL X.K H1 a xs) ∧ R (Itl X.K a) H1) ∨ (∃ a, v = .ref a ∧ (∃ xs, SqT X.K H1 a xs) ∧ R (Itt X.K a) H1) ∨ ∃ z, v = .str z ∧ R (Its z) H1) := by
  refine ⟨fun pins s σ H R I0 h0 => ?_⟩
  refine thn (he.run pins s σ H _ I0 h0) fun u s1 ⟨y, H1, I, ry, hy⟩ => ?_
  rcases hy with ⟨a, rfl, ⟨xs, hq⟩, q⟩ | ⟨a, rfl, ⟨xs, hq⟩, q⟩ | ⟨z, rfl, q⟩
  · cases ry
    obtain ⟨its, _, pl, _⟩ := I.list hq
    exact wpAny_pyIter_list pl.isList (pi_one (tk := s1.toks) I _ (turn_list a _) ⟨_, Heap.get?_push_size _ rfl, rfl, rfl⟩ q)
  · cases ry
    obtain ⟨its, _, pl, _⟩ := I.tuple hq
    exact wpAny_pyIter_tuple (show s1.heap.IsTuple a its.toArray from pl) (pi_one (tk := s1.toks) I _ (turn_tuple a _) ⟨_, Heap.get?_push_size _ rfl, rfl, rfl⟩ q)
  · obtain ⟨t, rfl⟩ := ry
    cases hw : z.cps.all (· < 128) with
    | false => exact wpAny_pyIter_wide hw (pi_one (tk := s1.toks) I _ (turn_str _ z t "str_iterator" (.inr rfl)) ⟨_, Heap.get?_push_size _ rfl, rfl, rfl⟩ q)
    | true => exact wpAny_pyIter_ascii hw (pi_one (tk := s1.toks) I _ (turn_str _ z t "str_ascii_iterator" (.inl rfl)) ⟨_, Heap.get?_push_size _ rfl, rfl, rfl⟩ q)
section
variable {K : PySem.W.Frag} {GI : Hp → Hp → Prop} {F : Hp} {a : Addr} {xs : List V} {ds : List D}
theorem diter_list (h : SqL K F a xs) (k : DVs K F xs ds) : DIter K GI (Itl K a) ds noG F := by
  intro F1 c H i l r _
  have h1 := sqL_le r.sub (sqL_le l h)
  refine ⟨fun d e => ?_, fun e => ⟨xs, h1, by rw [k.length]; exact e⟩⟩
  obtain ⟨v, e1, e2⟩ := k.at i e
  refine ⟨⟨xs, v, h1, e1⟩, fun x H' ⟨eH, y⟩ => ?_⟩
  subst eH
  have := y xs h1
  rw [e1] at this; cases this
  exact ⟨F1, Le.rfl', r, e2.le l⟩
theorem diter_cell {p : Addr} : DIter K GI (Itl K p) ds (fun c => c p = some (.lst ds)) F := by
  intro F1 c H i l r g
  obtain ⟨us, h1, k⟩ := r.lst g
  refine ⟨fun d e => ?_, fun e => ⟨us, SqL.of h1, by rw [k.length]; exact e⟩⟩
  obtain ⟨v, e1, e2⟩ := k.at i e
  refine ⟨⟨us, v, SqL.of h1, e1⟩, fun x H' ⟨eH, y⟩ => ?_⟩
  subst eH
  have := y us (SqL.of h1)
  rw [e1] at this; cases this
  exact ⟨F1, Le.rfl', r, e2⟩
theorem diter_tup (h : SqT K F a xs) (k : DVs K F xs ds) : DIter K GI (Itt K a) ds noG F := by
  intro F1 c H i l r _
  have h1 := sqT_le r.sub (sqT_le l h)
  refine ⟨fun d e => ?_, fun e => ⟨xs, h1, by rw [k.length]; exact e⟩⟩
  obtain ⟨v, e1, e2⟩ := k.at i e
  refine ⟨⟨xs, v, h1, e1⟩, fun x H' ⟨eH, y⟩ => ?_⟩
  subst eH
  have := y xs h1
  rw [e1] at this; cases this
  exact ⟨F1, Le.rfl', r, e2.le l⟩
theorem diter_str (z : Str) : DIter K GI (Its z) (z.cps.toList.map fun k => D.str ⟨#[k]⟩) noG F := by
  intro F1 c H i l r _
  refine ⟨fun d e => ?_, fun e => ?_⟩
  · rw [List.getElem?_map] at e
    cases g : z.cps.toList[i]? with
    | none => rw [g] at e; cases e
    | some k =>
      rw [g] at e
      simp only [Option.map_some, Option.some.injEq] at e
      subst e
      refine ⟨?_, ?_⟩
      · have := (List.getElem?_eq_some_iff.mp g).1
        show i < z.cps.size
        simpa using this
      rintro x H' ⟨rfl, k', g', rfl⟩
      have : k' = k := by
        have g2 : z.cps.toList[i]? = some k' := by simpa using g'
        rw [g] at g2; exact (Option.some.inj g2).symm
      subst this
      exact ⟨F1, Le.rfl', r, .str _⟩
  · show z.cps.size ≤ i
    simpa using e
theorem diter_rng (lo : Int) (n : Nat) : DIter K GI (Itr lo n) ((upto lo n).map D.int) noG F := by
  intro F1 c H i l r _
  refine ⟨fun d e => ?_, fun e => ?_⟩
  · unfold upto at e
    rw [List.map_map, List.getElem?_map] at e
    cases g : (List.range n)[i]? with
    | none => rw [g] at e; cases e
    | some k =>
      rw [g] at e
      simp only [Option.map_some, Option.some.injEq] at e
      obtain ⟨g1, g2⟩ := List.getElem?_eq_some_iff.mp g
      rw [List.getElem_range] at g2
      subst g2 e
      refine ⟨by show i < n; simpa using g1, ?_⟩
      rintro x H' ⟨rfl, rfl⟩
      exact ⟨F1, Le.rfl', r, .int _⟩
  · show n ≤ i
    simpa [upto] using e
end
section
variable {GI : Hp → Hp → Prop} {X : Cx} {tg e : Expr} {wa : WE} {wr : WA} {p pos : Pos}
theorem ci_any (h : CE GI X e wa) : CI GI X tg e (wIt wa) := fun W x => by
  refine pi_imp (pi_any (h W x)) ?_
  rintro σ H R ⟨F, env, c, E, Qd, re, r, lx, q, k⟩
  refine ⟨F, env, c, E, _, re, r, lx, q, ?_⟩
  rintro F1 c1 H1 v d l1 r1 h1 (⟨ds, e1, q1⟩ | ⟨p, ds, rfl, e1, q1⟩)
  rotate_left
  · obtain ⟨us, g1, k1⟩ := r1.lst e1
    exact .inl ⟨p, h1.ref_inv, ⟨us, SqL.of g1⟩, k F1 c1 H1 _ _ _ l1 r1 diter_cell q1⟩
  cases d <;> simp only [itsD, Option.some.injEq, reduceCtorEq] at e1
  · subst e1
    obtain rfl := h1.str_inv
    exact .inr (.inr ⟨_, rfl, k F1 c1 H1 _ _ _ l1 r1 (diter_str _) q1⟩)
  · subst e1
    obtain ⟨a, xs, rfl, g1, k1⟩ := h1.tup_inv
    exact .inr (.inl ⟨a, rfl, ⟨xs, SqT.of (r1.sub _ _ g1)⟩, k F1 c1 H1 _ _ _ l1 r1 (diter_tup (SqT.of g1) k1) q1⟩)
  · subst e1
    cases h1 with
    | lst g1 k1 => exact .inl ⟨_, rfl, ⟨_, SqL.of (r1.sub _ _ g1)⟩, k F1 c1 H1 _ _ _ l1 r1 (diter_list (SqL.of g1) k1) q1⟩
  · subst e1
    obtain ⟨a, xs, rfl, g1, k1⟩ := h1.kt_inv
    exact .inr (.inl ⟨a, rfl, ⟨xs, sqT_le r1.sub g1⟩, k F1 c1 H1 _ _ _ l1 r1 (diter_tup g1 k1) q1⟩)
  · subst e1
    obtain ⟨a, rfl, g1⟩ := h1.scr_inv
    exact .inl ⟨a, rfl, ⟨_, sqL_le r1.sub g1⟩, k F1 c1 H1 _ _ _ l1 r1 (diter_list g1 DVs.ints) q1⟩
def rgR1 (ds : List D) (c : CMap) (N : List D → (CMap → Prop) → CMap → Prop) : Prop := match ds with
  | [.int n] => -(2 ^ 62) ≤ n ∧ n < 2 ^ 62 ∧ N ((upto 0 n.toNat).map D.int) noG c
  | _ => False
def rgR2 (ds : List D) (c : CMap) (N : List D → (CMap → Prop) → CMap → Prop) : Prop := match ds with
  | [.int a, .int b] => -(2 ^ 62) ≤ a ∧ a < 2 ^ 62 ∧ -(2 ^ 62) ≤ b ∧ b < 2 ^ 62 ∧ N ((upto a (b - a).toNat).map D.int) noG c
  | _ => False
def wRg1 (r : WA) : WI := fun E env c Q => r E env c fun ds c1 => rgR1 ds c1 Q
def wRg2 (r : WA) : WI := fun E env c Q => r E env c fun ds c1 => rgR2 ds c1 Q
theorem ci_range1 {a : Expr} (hm : X.mg "range" = none) (ha : CA GI X [a] wr) (hg : Gl X "range" := by rfl) (hs : starEach [a] X.env = [(false, eval a X.env)] := by rfl) : CI GI X tg (.Call (.Name "range" p) [a] [] pos) (wRg1 wr) := fun W x => by
  refine pi_imp (pi_range1 hg hm (ha W x) hs) ?_
  rintro σ H R ⟨F, env, c, E, Qd, re, r, lx, q, k⟩
  refine ⟨F, env, c, E, _, re, r, lx, q, ?_⟩
  intro F1 c1 H1 vs ds l1 r1 h1 q1
  unfold rgR1 at q1
  split at q1
  · obtain ⟨v, rfl, h2⟩ := h1.inv1
    exact ⟨_, by rw [h2.int_inv], q1.1, q1.2.1, k F1 c1 H1 _ _ _ l1 r1 (diter_rng 0 _) q1.2.2⟩
  · exact q1.elim
theorem ci_range2 {a b : Expr} (hm : X.mg "range" = none) (ha : CA GI X [a, b] wr) (hg : Gl X "range" := by rfl) (hs : starEach [a, b] X.env = [(false, eval a X.env), (false, eval b X.env)] := by rfl) (hs2 : starEach [b] X.env = [(false, eval b X.env)] := by rfl) :
    CI GI X tg (.Call (.Name "range" p) [a, b] [] pos) (wRg2 wr) := fun W x => by
  refine pi_imp (pi_range2 hg hm (ha W x) hs hs2) ?_
  rintro σ H R ⟨F, env, c, E, Qd, re, r, lx, q, k⟩
  refine ⟨F, env, c, E, _, re, r, lx, q, ?_⟩
  intro F1 c1 H1 vs ds l1 r1 h1 q1
  unfold rgR2 at q1
  split at q1
  · obtain ⟨v, u, rfl, h2, h3⟩ := h1.inv2
    exact ⟨_, _, by rw [h2.int_inv, h3.int_inv], ⟨q1.1, q1.2.1, q1.2.2.1, q1.2.2.2.1⟩, k F1 c1 H1 _ _ _ l1 r1 (diter_rng _ _) q1.2.2.2.2⟩
  · exact q1.elim
end
end DL
/-! the data layer: loops, comprehensions, methods, defs -/
namespace DL
open PySem PySem.Spec L2
open PyProof.Rows hiding St

/-! ### zip, enumerate -/
def lstD : D → Option (List D)
  | .lst ds => some ds
  | .scr ns => some (ns.map D.int)
  | _ => none
/-- a list: frozen, or a cell that stays so -/
def LsG (c : CMap) (d : D) (xs : List D) (G : CMap → Prop) : Prop := (lstD d = some xs ∧ G = noG) ∨ ∃ p, d = .ref p ∧ c p = some (.lst xs) ∧ G = fun c => c p = some (.lst xs)
def tupD : D → Option (List D)
  | .tup ds => some ds
  | .kt ds => some ds
  | _ => none
def zipR (ds : List D) (c : CMap) (N : List D → (CMap → Prop) → CMap → Prop) : Prop := match ds with
  | [d, e] => (∃ xs ys G1 G2, LsG c d xs G1 ∧ LsG c e ys G2 ∧ N ((xs.zip ys).map fun p => D.tup [p.1, p.2]) (fun c => G1 c ∧ G2 c) c) ∨ ∃ xs ys, tupD d = some xs ∧ tupD e = some ys ∧ N ((xs.zip ys).map fun p => D.tup [p.1, p.2]) noG c
  | _ => False
def enumR (ds : List D) (c : CMap) (N : List D → (CMap → Prop) → CMap → Prop) : Prop := match ds with
  | [d] => ∃ xs G, LsG c d xs G ∧ N (xs.mapIdx fun i x => D.tup [.int (i : Nat), x]) G c
  | _ => False
def wZip (r : WA) : WI := fun E env c Q => r E env c fun ds c1 => zipR ds c1 Q
def wEnum (r : WA) : WI := fun E env c Q => r E env c fun ds c1 => enumR ds c1 Q
theorem lstD_snd {K : PySem.W.Frag} {F : Hp} {v : V} {d : D} {xs : List D} (h : DV K F v d) (e : lstD d = some xs) : ∃ a us, v = .ref a ∧ SqL K F a us ∧ DVs K F us xs := by
  cases d <;> simp only [lstD, Option.some.injEq, reduceCtorEq] at e
  · subst e
    cases h with
    | lst g1 k1 => exact ⟨_, _, rfl, SqL.of g1, k1⟩
  · subst e
    obtain ⟨a, rfl, g⟩ := h.scr_inv
    exact ⟨a, _, rfl, g, DVs.ints⟩
section
variable {K : PySem.W.Frag} {GI : Hp → Hp → Prop} {F : Hp} {a b : Addr} {xs ys : List V} {ds es : List D}
theorem new_pair {F1 H : Hp} {c : CMap} {T : Addr} {x y : V} {d e : D} (r : Rep K GI F1 c H) (hT : H T = none) (h1 : DV K F1 x d) (h2 : DV K F1 y e) :
    ∃ F2, Le F1 F2 ∧ Rep K GI F2 c (upd H T (.tup [x, y])) ∧ DV K F2 (.ref T) (.tup [d, e]) := by
  have l : Le F1 (upd F1 T (.tup [x, y])) := Le.new (r.fr hT)
  exact ⟨_, l, r.newF hT, .tup upd_same (.cons (h1.le l) (.cons (h2.le l) .nil))⟩
/-- an address whose list stands so wherever G does -/
def LsAt (K : PySem.W.Frag) (GI : Hp → Hp → Prop) (F : Hp) (a : Addr) (ds : List D) (G : CMap → Prop) : Prop := ∀ (F1 : Hp) (c : CMap) (H : Hp), Le F F1 → Rep K GI F1 c H → G c → ∃ us, SqL K H a us ∧ DVs K F1 us ds
theorem lsG_at {H : Hp} {c : CMap} {v : V} {d : D} {xs : List D} {G : CMap → Prop} (r : Rep K GI F c H) (h : DV K F v d) (g : LsG c d xs G) : ∃ a us, v = .ref a ∧ SqL K H a us ∧ LsAt K GI F a xs G ∧ G c := by
  rcases g with ⟨e, rfl⟩ | ⟨p, rfl, e, rfl⟩
  · obtain ⟨a, us, rfl, g1, k1⟩ := lstD_snd h e
    exact ⟨a, us, rfl, sqL_le r.sub g1, fun F1 c1 H1 l r1 _ => ⟨us, sqL_le r1.sub (sqL_le l g1), k1.le l⟩, trivial⟩
  · obtain ⟨us, h1, k⟩ := r.lst e
    refine ⟨p, us, h.ref_inv, SqL.of h1, fun F1 c1 H1 l r1 g => ?_, e⟩
    obtain ⟨us, h1, k⟩ := r1.lst g
    exact ⟨us, SqL.of h1, k⟩
theorem diter_zip {G1 G2 : CMap → Prop} (k : LsAt K GI F a ds G1) (k' : LsAt K GI F b es G2) : DIter K GI (Itz K a b) ((ds.zip es).map fun p => D.tup [p.1, p.2]) (fun c => G1 c ∧ G2 c) F := by
  intro F1 c H i l r ⟨q1, q2⟩
  obtain ⟨xs, g1, k⟩ := k F1 c H l r q1
  obtain ⟨ys, g2, k'⟩ := k' F1 c H l r q2
  refine ⟨fun d e => ?_, fun e => ⟨xs, ys, g1, g2, ?_⟩⟩
  · rw [List.getElem?_map] at e
    cases z : (ds.zip es)[i]? with
    | none => rw [z] at e; cases e
    | some p =>
      rw [z] at e
      simp only [Option.map_some, Option.some.injEq] at e
      subst e
      obtain ⟨e1, e2⟩ := List.getElem?_zip_eq_some.mp z
      obtain ⟨v, v1, v2⟩ := k.at i e1
      obtain ⟨u, u1, u2⟩ := k'.at i e2
      refine ⟨⟨xs, ys, v, u, g1, g2, v1, u1⟩, ?_⟩
      rintro x H' ⟨T, x1, y1, rfl, hT, rfl, f1, f2⟩
      have a1 := f1 xs g1
      have a2 := f2 ys g2
      rw [v1] at a1; cases a1
      rw [u1] at a2; cases a2
      exact new_pair r hT v2 u2
  · rw [k.length, k'.length]
    simp only [List.length_map, List.length_zip] at e
    omega
theorem diter_zipT (h : SqT K F a xs) (k : DVs K F xs ds) (h' : SqT K F b ys) (k' : DVs K F ys es) : DIter K GI (RZ.ItzT K a b) ((ds.zip es).map fun p => D.tup [p.1, p.2]) noG F := by
  intro F1 c H i l r _
  have g1 := sqT_le r.sub (sqT_le l h)
  have g2 := sqT_le r.sub (sqT_le l h')
  refine ⟨fun d e => ?_, fun e => ⟨xs, ys, g1, g2, ?_⟩⟩
  · rw [List.getElem?_map] at e
    cases z : (ds.zip es)[i]? with
    | none => rw [z] at e; cases e
    | some p =>
      rw [z] at e
      simp only [Option.map_some, Option.some.injEq] at e
      subst e
      obtain ⟨e1, e2⟩ := List.getElem?_zip_eq_some.mp z
      obtain ⟨v, v1, v2⟩ := k.at i e1
      obtain ⟨u, u1, u2⟩ := k'.at i e2
      refine ⟨⟨xs, ys, v, u, g1, g2, v1, u1⟩, ?_⟩
      rintro x H' ⟨T, x1, y1, rfl, hT, rfl, f1, f2⟩
      have a1 := f1 xs g1
      have a2 := f2 ys g2
      rw [v1] at a1; cases a1
      rw [u1] at a2; cases a2
      exact new_pair r hT (v2.le l) (u2.le l)
  · rw [k.length, k'.length]
    simp only [List.length_map, List.length_zip] at e
    omega
theorem diter_enum {G : CMap → Prop} (k : LsAt K GI F a ds G) : DIter K GI (Ite K a) (ds.mapIdx fun i x => D.tup [.int (i : Nat), x]) G F := by
  intro F1 c H i l r q
  obtain ⟨xs, g1, k⟩ := k F1 c H l r q
  refine ⟨fun d e => ?_, fun e => ⟨xs, g1, by rw [k.length]; simpa using e⟩⟩
  rw [List.getElem?_mapIdx] at e
  cases z : ds[i]? with
  | none => rw [z] at e; cases e
  | some p =>
    rw [z] at e
    simp only [Option.map_some, Option.some.injEq] at e
    subst e
    obtain ⟨v, v1, v2⟩ := k.at i z
    refine ⟨⟨xs, v, g1, v1⟩, ?_⟩
    rintro x H' ⟨T, x1, rfl, hT, rfl, f1⟩
    have a1 := f1 xs g1
    rw [v1] at a1; cases a1
    exact new_pair r hT (.int _) v2
theorem tupD_snd {v : V} {d : D} {xs : List D} (h : DV K F v d) (e : tupD d = some xs) : ∃ a us, v = .ref a ∧ SqT K F a us ∧ DVs K F us xs := by
  cases d <;> simp only [tupD, Option.some.injEq, reduceCtorEq] at e
  · subst e
    obtain ⟨a, us, rfl, g, k⟩ := h.tup_inv
    exact ⟨a, us, rfl, SqT.of g, k⟩
  · subst e
    exact h.kt_inv
end
section
variable {GI : Hp → Hp → Prop} {X : Cx} {e e2 : Expr} {wr : WA} {p pos tpos : Pos} {elts : List Expr} {kk : Nat}
theorem ci_zip (hm : X.mg "zip" = none) (ha : CA GI X [e, e2] wr) (hg : Gl X "zip" := by rfl) (hs : starEach [e, e2] X.env = (false, eval e X.env) :: starEach [e2] X.env := by rfl) (hpl : (backTo pos (starEach [e2] X.env)).any (·.1) = false := by rfl) :
    CI GI X (.Tuple elts kk tpos) (.Call (.Name "zip" p) [e, e2] [] pos) (wZip wr) := fun W x => by
  refine pi_imp (RZ.pi_zipA hg hm (ha W x) hs hpl) ?_
  rintro σ H R ⟨F, env, c, E, Qd, re, r, lx, q, k⟩
  refine ⟨F, env, c, E, _, re, r, lx, q, ?_⟩
  intro F1 c1 H1 vs ds l1 r1 h1 q1
  unfold zipR at q1
  split at q1
  · obtain ⟨v, u, rfl, h2, h3⟩ := h1.inv2
    rcases q1 with ⟨xs, ys, G1, G2, e1, e2, q⟩ | ⟨xs, ys, e1, e2, q⟩
    · obtain ⟨a, us, rfl, g1, k1, z1⟩ := lsG_at r1 h2 e1
      obtain ⟨b, ws, rfl, g2, k2, z2⟩ := lsG_at r1 h3 e2
      exact ⟨a, b, us, ws, rfl, .inl ⟨g1, g2, k F1 c1 H1 _ _ _ l1 r1 (diter_zip k1 k2) q⟩⟩
    · obtain ⟨a, us, rfl, g1, k1⟩ := tupD_snd h2 e1
      obtain ⟨b, ws, rfl, g2, k2⟩ := tupD_snd h3 e2
      exact ⟨a, b, us, ws, rfl, .inr ⟨sqT_le r1.sub g1, sqT_le r1.sub g2, k F1 c1 H1 _ _ _ l1 r1 (diter_zipT g1 k1 g2 k2) q⟩⟩
  · exact q1.elim
theorem ci_enum (hm : X.mg "enumerate" = none) (ha : CA GI X [e] wr) (hg : Gl X "enumerate" := by rfl) (hs : starEach [e] X.env = [(false, eval e X.env)] := by rfl) : CI GI X (.Tuple elts kk tpos) (.Call (.Name "enumerate" p) [e] [] pos) (wEnum wr) := fun W x => by
  refine pi_imp (pi_enum hg hm (ha W x) hs) ?_
  rintro σ H R ⟨F, env, c, E, Qd, re, r, lx, q, k⟩
  refine ⟨F, env, c, E, _, re, r, lx, q, ?_⟩
  intro F1 c1 H1 vs ds l1 r1 h1 q1
  unfold enumR at q1
  split at q1
  · obtain ⟨v, rfl, h2⟩ := h1.inv1
    obtain ⟨xs, G, e1, q⟩ := q1
    obtain ⟨a, us, rfl, g1, k1, z1⟩ := lsG_at r1 h2 e1
    exact ⟨a, us, rfl, g1, k F1 c1 H1 _ _ _ l1 r1 (diter_enum k1) q⟩
  · exact q1.elim
end

/-! ### for, while -/
def forD (step : D → DEnv → CMap → (DEnv → CMap → Prop) → Prop) : List D → DEnv → CMap → (DEnv → CMap → Prop) → Prop
  | [], env, c, Q => Q env c
  | d :: ds, env, c, Q => step d env c fun env' c' => forD step ds env' c' Q
def forS (wg : WG) (body : WS) (DD : DEnds) : D → DEnv → CMap → (DEnv → CMap → Prop) → Prop := fun d env c nxt => wg d env c fun env2 c2 => body { DD with nx := nxt, ct := nxt, bk := DD.nx } env2 c2
def ForP (wg : WG) (body : WS) (DD : DEnds) (ds : List D) (G : CMap → Prop) (env : DEnv) (c : CMap) : Prop := ∃ P : Nat → DEnv → CMap → Prop, P 0 env c ∧ (∀ i env c, P i env c → G c) ∧ (∀ (i : Nat) (d : D) (env : DEnv) (c : CMap), ds[i]? = some d → P i env c → ∃ N : DEnv → CMap → Prop, (∀ env c, N env c → ∃ c2, SubC c2 c ∧ P (i + 1) env c2) ∧ forS wg body DD d env c N) ∧ ∀ env c, P ds.length env c → DD.nx env c
def wFor (wi : WI) (wg : WG) (body : WS) : WS := fun DD env c => wi (exE DD env) env c fun ds G c1 => ForP wg body DD ds G env c1
def wWhile (t : WT) (body : WS) : WS := fun DD env c => ∃ W : Nat → DEnv → CMap → Prop, (∃ m, W m env c) ∧ ∀ m env c, W m env c →
  t (exE DD env) env c fun b c1 => if b = true then ∃ N : DEnv → CMap → Prop, (∀ env' c', N env' c' → ∃ m', m' < m ∧ ∃ c2, SubC c2 c' ∧ W m' env' c2) ∧ body { DD with nx := N, ct := N, bk := DD.nx } env c1 else DD.nx env c1
section
variable {GI : Hp → Hp → Prop} {X : Cx} {pos : Pos} {tg iter : Expr} {body : List Stmt} {wi : WI} {wg : WG} {wb : WS} {wt : WT}
theorem cs_for (vs : List Nat) (hc : X.calm = true) (hi : CI GI X tg iter wi) (hg : CG GI X vs tg wg) (hb : CSs GI X body wb) (hs : ∀ x, foldedSetIterable iter X.env x = pure x := by intro _; rfl) : CS GI X (.For tg iter body [] pos) (wFor wi wg wb) := fun W x => by
  refine ps_imp (ps_for x.own hc (hi W x) (hg x.nd) (hb W x) hs) ?_
  rintro Dn σ H ⟨F, env, c, DD, re, r, q, l⟩
  refine ⟨F, env, c, _, _, re, r, l.lx re, q, ?_⟩
  rintro F1 c1 H1 J ds G l1 r1 it ⟨P, p0, pg, ps, pd⟩
  refine ⟨fun i m σ2 H2 => m = ds.length - i ∧ i ≤ ds.length ∧ ∃ F2 env2 c2, Le F1 F2 ∧ RepE X.K F2 env2 σ2 ∧ Rep X.K GI F2 c2 H2 ∧ P i env2 c2, ⟨ds.length, by simp, Nat.zero_le _, F1, env, c1, Le.rfl', re.le l1, r1, p0⟩, ?_⟩
  rintro i m σ2 H2 ⟨rfl, hle, F2, env2, c2, l2, re2, r2, q2⟩
  obtain ⟨it1, it2⟩ := it F2 c2 H2 i l2 r2 (pg _ _ _ q2)
  by_cases hi : i < ds.length
  · refine .inr ?_
    have e : ds[i]? = some ds[i] := by rw [List.getElem?_eq_getElem hi]
    obtain ⟨N, hN, q2⟩ := ps i _ env2 c2 e q2
    obtain ⟨go, yl⟩ := it1 _ e
    refine ⟨go, fun σ3 H3 => ∃ F3 env3 c3, Le F1 F3 ∧ RepE X.K F3 env3 σ3 ∧ Rep X.K GI F3 c3 H3 ∧ N env3 c3, ?_, ?_⟩
    · rintro σ3 H3 ⟨F3, env3, c3, g1, g2, g3, g4⟩
      obtain ⟨c4, s4, g5⟩ := hN _ _ g4
      exact ⟨_, by omega, rfl, hi, F3, env3, c4, g1, g2, g3.sub' s4, g5⟩
    · intro v H3 y
      obtain ⟨F3, l3, r3, h3⟩ := yl v H3 y
      refine ⟨F3, env2, c2, ds[i], _, re2.le l3, r3, h3, q2, ?_⟩
      intro F4 env4 c4 σ4 H4 l4 re4 r4 _ q4
      have ll : Le F1 F4 := (l2.trans' l3).trans' l4
      refine ⟨F4, env4, c4, _, re4, r4, q4, ⟨fun F5 env5 c5 σ5 H5 l5 re5 r5 q5 => ⟨F5, env5, c5, ll.trans' l5, re5, r5, q5⟩, fun F5 c5 H5 v5 d5 l5 => l.rt F5 c5 H5 v5 d5 ((l1.trans' ll).trans' l5),
        fun F5 env5 c5 σ5 H5 l5 re5 r5 q5 => l.nx F5 env5 c5 σ5 H5 ((l1.trans' ll).trans' l5) re5 r5 q5, fun F5 env5 c5 σ5 H5 l5 re5 r5 q5 => ⟨F5, env5, c5, ll.trans' l5, re5, r5, q5⟩,
        fun F5 env5 c5 σ5 H5 cls od l5 => l.ex F5 env5 c5 σ5 H5 cls od ((l1.trans' ll).trans' l5)⟩⟩
  · refine .inl ⟨it2 (by omega), ?_⟩
    have hz : i = ds.length := by omega
    subst hz
    exact l.nx F2 env2 c2 σ2 H2 (l1.trans' l2) re2 r2 (pd _ _ q2)
theorem cs_while (h : CT GI X iter wt) (hb : CSs GI X body wb) : CS GI X (.While iter body [] pos) (wWhile wt wb) := fun W x => by
  refine ps_imp (ps_while x.own (h W x) (hb W x)) ?_
  rintro Dn σ H ⟨F, env, c, DD, re, r, ⟨Wd, ⟨m0, w0⟩, turn⟩, l⟩
  refine ⟨fun m σ2 H2 => ∃ F2 env2 c2, Le F F2 ∧ RepE X.K F2 env2 σ2 ∧ Rep X.K GI F2 c2 H2 ∧ Wd m env2 c2, ⟨m0, F, env, c, Le.rfl', re, r, w0⟩, ?_⟩
  rintro m σ2 H2 ⟨F2, env2, c2, l2, re2, r2, w2⟩
  refine ⟨F2, env2, c2, _, _, re2, r2, (l.le l2).lx re2, turn m env2 c2 w2, ?_⟩
  intro F3 c3 H3 b l3 r3 q3
  cases b with
  | true =>
    rw [if_pos rfl] at q3 ⊢
    obtain ⟨N, hN, q⟩ := q3
    refine ⟨fun σ4 H4 => ∃ F4 env4 c4, Le F F4 ∧ RepE X.K F4 env4 σ4 ∧ Rep X.K GI F4 c4 H4 ∧ N env4 c4, ?_, F3, env2, c3, _, re2.le l3, r3, q, ?_⟩
    · rintro σ4 H4 ⟨F4, env4, c4, g1, g2, g3, g4⟩
      obtain ⟨m', hm, c5, s5, w'⟩ := hN env4 c4 g4
      exact ⟨m', hm, F4, env4, c5, g1, g2, g3.sub' s5, w'⟩
    · have ll : Le F F3 := l2.trans' l3
      exact ⟨fun F5 env5 c5 σ5 H5 l5 re5 r5 q5 => ⟨F5, env5, c5, ll.trans' l5, re5, r5, q5⟩, fun F5 c5 H5 v5 d5 l5 => l.rt F5 c5 H5 v5 d5 (ll.trans' l5),
        fun F5 env5 c5 σ5 H5 l5 re5 r5 q5 => l.nx F5 env5 c5 σ5 H5 (ll.trans' l5) re5 r5 q5, fun F5 env5 c5 σ5 H5 l5 re5 r5 q5 => ⟨F5, env5, c5, ll.trans' l5, re5, r5, q5⟩,
        fun F5 env5 c5 σ5 H5 cls od l5 => l.ex F5 env5 c5 σ5 H5 cls od (ll.trans' l5)⟩
  | false =>
    rw [if_neg (by decide)] at q3 ⊢
    exact l.nx F3 env2 c3 σ2 H3 (l2.trans' l3) (re2.le l3) r3 q3
end

/-! ### comprehensions -/
abbrev noX : XD := fun _ _ _ => False
def compS (wg : WG) (wt : WT) (we : WE) (env : DEnv) : D → CMap → (Option D → CMap → Prop) → Prop := fun d c k => wg d env c fun env2 c2 => wt noX env2 c2 fun b c3 => if b = true then we noX env2 c3 fun y c4 => k (some y) c4 else k none c3
def CompP (m : Bool) (step : D → CMap → (Option D → CMap → Prop) → Prop) (A : Addr) (ds : List D) (G : CMap → Prop) (c : CMap) (Q : DK) : Prop := ∃ P : Nat → CMap → Prop, P 0 (updc c A (.lst [])) ∧ (∀ i c, P i c → G c) ∧
  (∀ (i : Nat) (d : D) (c : CMap), ds[i]? = some d → P i c → step d c fun o c' => match o with
    | some y => ∃ acc, c' A = some (.lst acc) ∧ acc.length < sizeLine ∧ P (i + 1) (updc c' A (.lst (acc ++ [y])))
    | none => P (i + 1) c') ∧
  ∀ c2, P ds.length c2 → ∃ out, c2 A = some (.lst out) ∧ if m = true then Q (.ref A) c2 else Q (.lst out) (delc c2 A)
def wComp (m : Bool) (wi : WI) (wg : WG) (wt : WT) (we : WE) (vs : List Nat) : WE := fun E env c Q => wi E env c fun ds G c1 => ∀ A, c1 A = none → CompP m (compS wg wt we (wipeE env vs)) A ds G c1 Q
def wYes : WT := fun _ _ c Q => Q true c
def CTs (GI : Hp → Hp → Prop) (X : Cx) (ifs : List Expr) (wt : WT) : Prop := ∀ W, XOk X W → PTs X ifs (lowT X.K GI W wt)
theorem pts_imp {X : Cx} {e : List Expr} {t t' : TT} (h : PTs X e t) (k : ∀ σ H Q, t' σ H Q → t σ H Q) : PTs X e t' := ⟨fun pins s σ H Q I q => h.run pins s σ H Q I (k _ _ _ q)⟩
section
variable {GI : Hp → Hp → Prop} {X : Cx} {pos : Pos} {tg iter elt : Expr} {ifs : List Expr} {wi : WI} {wg : WG} {wt : WT} {we : WE} {scope : Scope} {own : List (Str × Nat)}
theorem cts_nil : CTs GI X [] wYes := fun W x => by
  refine pts_imp pts_nil ?_
  rintro σ H Q ⟨F, env, c, E, Qd, re, r, lx, q, k⟩
  exact k F c H true Le.rfl' r q
theorem cts_one {e : Expr} (h : CT GI X e wt) : CTs GI X [e] wt := fun W x => pts_one (h W x)
theorem blk_ok {s : Shared} {H : Hp} {scope : Scope} {cenv : Env} {fp : List Addr} (nd : X.N.Nodup) : XOk (X.blk s H scope cenv fp) (fun _ _ _ _ => False) := ⟨nd, L2.takes0, PassesOwn.never⟩
theorem low_comp {W : WX} (m : Bool) {Q : VK} {σ : St} {H : Hp} (q : lowE X.K GI W (wComp m wi wg wt we (own.map (·.2))) σ H Q) :
    tLc (lowI X.K GI W wi) (lowG X.K GI (own.map (·.2)) wg) (lowT X.K GI (fun _ _ _ _ => False) wt) (lowE X.K GI (fun _ _ _ _ => False) we) (own.map (·.2)) σ H Q := by
  obtain ⟨F, env, c, E, Qd, re, r, lx, q, k⟩ := q
  refine ⟨F, env, c, E, _, re, r, lx, q, ?_⟩
  intro F1 c1 H1 J ds G l1 r1 it q1 A hA
  obtain ⟨P, p0, pg, ps, pd⟩ := q1 A (r1.frc hA)
  have fA : F1 A = none := r1.fr hA
  refine ⟨fun i n H2 => n = ds.length - i ∧ i ≤ ds.length ∧ ∃ F2 c2, Le F1 F2 ∧ Rep X.K GI F2 c2 H2 ∧ P i c2,
    ⟨ds.length, by simp, Nat.zero_le _, F1, _, Le.rfl', r1.newC (k := .lst []) hA ⟨[], rfl, .nil⟩, p0⟩, ?_⟩
  rintro i n H2 ⟨rfl, hle, F2, c2, l2, r2, q2⟩
  obtain ⟨it1, it2⟩ := it F2 c2 H2 i l2 r2 (pg _ _ q2)
  by_cases hi : i < ds.length
  · refine .inr ?_
    have e : ds[i]? = some ds[i] := by rw [List.getElem?_eq_getElem hi]
    have q2 := ps i _ c2 e q2
    unfold compS at q2
    obtain ⟨go, yl⟩ := it1 _ e
    refine ⟨go, fun H3 => ∃ F3 c3, Le F1 F3 ∧ Rep X.K GI F3 c3 H3 ∧ P (i + 1) c3, ?_, ?_⟩
    · rintro H3 ⟨F3, c3, g⟩
      exact ⟨_, by omega, rfl, hi, F3, c3, g⟩
    · intro v H3 y
      obtain ⟨F3, l3, r3, h3⟩ := yl v H3 y
      refine ⟨F3, wipeE env (own.map (·.2)), c2, ds[i], _, ((re.le l1).le (l2.trans' l3)).wipe _, r3, h3, q2, ?_⟩
      intro F4 env4 c4 σ4 H4 l4 re4 r4 w4 q4
      have w5 : wipe σ4 (own.map (·.2)) = wipe σ (own.map (·.2)) := by
        rw [w4]
        have : ∀ (ws : List Nat) (τ : St), wipe (wipe τ ws) ws = wipe τ ws := by
          intro ws
          induction ws with
          | nil => intro τ; rfl
          | cons u ws ih =>
            intro τ
            show (wipe ((wipe τ ws).set u none) ws).set u none = (wipe τ ws).set u none
            by_cases hu : u ∈ ws
            · rw [wipe_set hu, ih]
            · have key : ∀ (ws : List Nat) (τ : St), u ∉ ws → wipe (τ.set u none) ws = (wipe τ ws).set u none := by
                intro ws
                induction ws with
                | nil => intro τ _; rfl
                | cons z ws ih2 =>
                  intro τ hz
                  show (wipe (τ.set u none) ws).set z none = ((wipe τ ws).set z none).set u none
                  rw [ih2 τ (fun q => hz (List.mem_cons_of_mem _ q)), List.set_comm _ _ (fun q => hz (by rw [q]; exact List.mem_cons_self))]
              rw [key ws _ hu, ih, List.set_set]
        exact this _ _
      refine ⟨w5, F4, env4, c4, noX, _, re4, r4, fun _ _ _ _ _ _ _ z => z.elim, q4, ?_⟩
      have ll : Le F1 F4 := (l2.trans' l3).trans' l4
      intro F5 c5 H5 b l5 r5 q5
      cases b with
      | true =>
        rw [if_pos rfl] at q5 ⊢
        refine ⟨F5, env4, c5, noX, _, re4.le l5, r5, fun _ _ _ _ _ _ _ z => z.elim, q5, ?_⟩
        intro F6 c6 H6 v6 d6 l6 r6 h6 q6
        obtain ⟨acc, e6, g6, q6⟩ := q6
        obtain ⟨us, e7, h7⟩ := r6.lst e6
        refine ⟨us, e7, by rw [h7.length]; exact g6, F6, _, (ll.trans' l5).trans' l6, r6.wr (k := .lst (acc ++ [d6])) e6 (by rw [e7]; trivial) ⟨_, rfl, h7.app (.one h6)⟩, q6⟩
      | false =>
        rw [if_neg (by decide)] at q5 ⊢
        exact ⟨F5, c5, ll.trans' l5, r5, q5⟩
  · refine .inl ⟨it2 (by omega), ?_⟩
    have hz : i = ds.length := by omega
    subst hz
    obtain ⟨out, e2, q2⟩ := pd _ q2
    cases m with
    | true =>
      rw [if_pos rfl] at q2
      exact k F2 c2 H2 _ _ (l1.trans' l2) r2 (.ref A) q2
    | false =>
      rw [if_neg (by decide)] at q2
      obtain ⟨F3, l3, r3, h3⟩ := r2.frz e2
      exact k F3 _ H2 _ _ ((l1.trans' l2).trans' l3) r3 h3 q2
theorem ce_comp (m : Bool) (own : List (Str × Nat)) (nd : X.N.Nodup) (hc : X.calm = true) (hi : CI GI X tg iter wi) (ok : BlkOk X.N X.env.scope scope own)
    (hg : ∀ (s : Shared) (H : Hp) (C : Addr) (cl : List (Str × Addr)) (fp : List Addr), CG GI (X.blk s H scope (compEnvC scope cl C X.env) fp) (own.map (·.2)) tg wg)
    (ht : ∀ (s : Shared) (H : Hp) (C : Addr) (cl : List (Str × Addr)) (fp : List Addr), CTs GI (X.blk s H scope (compEnvC scope cl C X.env) fp) ifs wt)
    (he : ∀ (s : Shared) (H : Hp) (C : Addr) (cl : List (Str × Addr)) (fp : List Addr), CE GI (X.blk s H scope (compEnvC scope cl C X.env) fp) elt we) (hs : ∀ x, foldedSetIterable iter X.env x = pure x := by intro _; rfl) :
    CE GI X (.ListComp elt [⟨tg, iter, ifs, 0⟩] scope pos) (wComp m wi wg wt we (own.map (·.2))) := fun W x =>
  pe_imp (pe_lc (g := lowG X.K GI (own.map (·.2)) wg) (tt := lowT X.K GI (fun _ _ _ _ => False) wt) (te := lowE X.K GI (fun _ _ _ _ => False) we) hc x.nd (hi W x) ok (fun s H C cl fp => hg s H C cl fp nd) (fun s H C cl fp => ht s H C cl fp _ (blk_ok nd)) (fun s H C cl fp => he s H C cl fp _ (blk_ok nd)) hs) fun _ _ _ q => low_comp m q
theorem cs_setcomp (m : Bool) (i : Nat) {y : Str} {py spos : Pos} (own : List (Str × Nat)) (nd : X.N.Nodup) (hc : X.calm = true) (hi : CI GI X tg iter wi) (ok : BlkOk X.N X.env.scope scope own)
    (hg : ∀ (s : Shared) (H : Hp) (C : Addr) (cl : List (Str × Addr)) (fp : List Addr), CG GI (X.blk s H scope (compEnvC scope cl C X.env) fp) (own.map (·.2)) tg wg)
    (ht : ∀ (s : Shared) (H : Hp) (C : Addr) (cl : List (Str × Addr)) (fp : List Addr), CTs GI (X.blk s H scope (compEnvC scope cl C X.env) fp) ifs wt)
    (he : ∀ (s : Shared) (H : Hp) (C : Addr) (cl : List (Str × Addr)) (fp : List Addr), CE GI (X.blk s H scope (compEnvC scope cl C X.env) fp) elt we)
    (hy : X.N[i]? = some y := by rfl) (hyl : X.env.scope.names.lookup y = some .local := by rfl) (hsw : swapsWith (.ListComp elt [⟨tg, iter, ifs, 0⟩] scope pos) (some (.Name y py)) spos.line X.env = pure true := by exact sw_true rfl rfl rfl (by decide +kernel))
    (hs : ∀ x, foldedSetIterable iter X.env x = pure x := by intro _; rfl) : CS GI X (.Assign [.Name y py] (.ListComp elt [⟨tg, iter, ifs, 0⟩] scope pos) spos) (wAsg i (wComp m wi wg wt we (own.map (·.2)))) := fun W x => by
  refine ps_imp (ps_setLc (g := lowG X.K GI (own.map (·.2)) wg) (tt := lowT X.K GI (fun _ _ _ _ => False) wt) (te := lowE X.K GI (fun _ _ _ _ => False) we) hc x.nd hy hyl hsw (hi W x) ok (fun s H C cl fp => hg s H C cl fp nd) (fun s H C cl fp => ht s H C cl fp _ (blk_ok nd)) (fun s H C cl fp => he s H C cl fp _ (blk_ok nd)) hs) ?_
  rintro Dn σ H ⟨F, env, c, DD, re, r, q, l⟩
  refine low_comp m ⟨F, env, c, _, _, re, r, l.lx re, q, ?_⟩
  intro F1 c1 H1 v d l1 r1 h1 q1
  exact l.nx F1 _ c1 _ H1 l1 ((re.le l1).set i h1) r1 q1
end

/-! ### methods -/
def tyDl (T : String) (c : CMap) (d : D) : Prop := match res c d with
  | .str _ => T = "str"
  | .lst _ => T = "list"
  | .scr _ => T = "list"
  | _ => False
abbrev RDm := CMap → D → List D → DK → Prop
def SndM (K : PySem.W.Frag) (GI : Hp → Hp → Prop) (r : V → List V → Hp → VK → Prop) (R : RDm) : Prop := ∀ (F H : Hp) (c : CMap) (v : V) (d : D) (vs : List V) (ds : List D) (Qd : DK) (Q : VK), Rep K GI F c H → DV K F v d → DVs K F vs ds → R c d ds Qd → LQ K GI F Qd Q → r v vs H Q
def wMt (T : String) (R : RDm) (o : WE) (r : WA) : WE := fun E env c Q => o E env c fun d c1 => tyDl T c1 d ∧ r E env c1 fun ds c2 => R c2 d ds Q
theorem tyDl_snd {K : PySem.W.Frag} {GI : Hp → Hp → Prop} {F H : Hp} {c : CMap} {v : V} {d : D} {T : String} (r : Rep K GI F c H) (h : DV K F v d) (q : tyDl T c d) : tyV K T v H := by
  unfold tyDl at q
  split at q
  · rename_i e1
    obtain rfl := res_oth e1 (by intro _ z; cases z)
    rw [h.str_inv]; exact q
  · rename_i e1
    obtain ⟨p, xs, rfl, g1, k1⟩ := res_lst r h e1
    exact .inl ⟨q, xs, SqL.of g1⟩
  · rename_i e1
    obtain rfl := res_oth e1 (by intro _ z; cases z)
    obtain ⟨a, rfl, g⟩ := h.scr_inv
    exact .inl ⟨q, _, sqL_le r.sub g⟩
  · exact q.elim
section
variable {GI : Hp → Hp → Prop} {X : Cx} {o e : Expr} {es : List Expr} {wo : WE} {wr : WA} {name : Str} {apos cpos : Pos} {T id : String} {r : V → List V → Hp → VK → Prop} {R : RDm}
theorem ce_bm (pa : PlainAttrs T) (slot : Slot T name id) (hty : typeOf (.builtin id) = pure (.type "method_descriptor")) (hm : MtR X id r) (s : SndM X.K GI r R) (ho : CE GI X o wo) (ha : CA GI X (e :: es) wr)
    (hbase : attributeBase o name X.env (eval o X.env) = eval o X.env := by rfl)
    (hfew : ((backTo cpos (starEach (e :: es) X.env)).all (fun x => !x.1) && (backToKw cpos (keywordEach [] X.env)).all (fun x => x.1.isSome) && decide ((e :: es).length + ([] : List Keyword).length + (if ([] : List Keyword).isEmpty then 0 else 1) < 30)) = true := by rfl)
    (hline : (apos.endLine == cpos.line) = true := by rfl) (hs : starEach (e :: es) X.env = (false, eval e X.env) :: starEach es X.env := by rfl) (hplain : (backTo cpos (starEach es X.env)).any (·.1) = false := by rfl) : CE GI X (.Call (.Attribute o name apos) (e :: es) [] cpos) (wMt T R wo wr) := fun W x => by
  refine pe_imp (pe_bm pa slot hty hm (ho W x) (ha W x) hbase hfew hline hs hplain) ?_
  rintro σ H Q ⟨F, env, c, E, Qd, re, rp, lx, q, k⟩
  refine ⟨F, env, c, E, _, re, rp, lx, q, ?_⟩
  rintro F1 c1 H1 v d l1 r1 h1 ⟨q0, q1⟩
  refine ⟨tyDl_snd r1 h1 q0, F1, env, c1, E, _, re.le l1, r1, lx.le l1, q1, ?_⟩
  intro F2 c2 H2 vs ds l2 r2 h2 q2
  exact s F2 H2 c2 v d vs ds Qd Q r2 (h1.le l2) h2 q2 ((k.le l1).le l2)
end
def appR : RDm := fun c d ds Q => match d, ds with
  | .ref p, [x] => ∃ es, c p = some (.lst es) ∧ es.length < sizeLine ∧ Q .non (updc c p (.lst (es ++ [x])))
  | _, _ => False
def joinR : RDm := fun c d ds Q => match d, ds with
  | .str a, [e] => match res c e with
    | .lst es => ∃ ys : List Str, es = ys.map D.str ∧ (ys.map (·.length)).sum + ys.length * a.length ≤ 16777216 ∧ Q (.str (Txt.join a ys)) c
    | _ => False
  | _, _ => False
theorem strs_V {K : PySem.W.Frag} {F : Hp} : ∀ {vs : List V} {ys : List Str}, DVs K F vs (ys.map D.str) → vs = ys.map V.str
  | [], [], _ => rfl
  | _ :: _, [], h => by cases h
  | [], _ :: _, h => by cases h
  | v :: vs, y :: ys, h => by
    cases h with
    | cons h k => rw [h.str_inv, strs_V k]; rfl
section
variable {GI : Hp → Hp → Prop} {X : Cx} {o e : Expr} {wo : WE} {wr : WA} {apos cpos : Pos}
theorem ce_append (ho : CE GI X o wo) (ha : CA GI X [e] wr)
    (hbase : attributeBase o "append" X.env (eval o X.env) = eval o X.env := by rfl)
    (hfew : ((backTo cpos (starEach [e] X.env)).all (fun x => !x.1) && (backToKw cpos (keywordEach [] X.env)).all (fun x => x.1.isSome) && decide (([e] : List Expr).length + ([] : List Keyword).length + (if ([] : List Keyword).isEmpty then 0 else 1) < 30)) = true := by rfl)
    (hline : (apos.endLine == cpos.line) = true := by rfl) (hs : starEach [e] X.env = (false, eval e X.env) :: starEach [] X.env := by rfl) (hplain : (backTo cpos (starEach [] X.env)).any (·.1) = false := by rfl) : CE GI X (.Call (.Attribute o "append" apos) [e] [] cpos) (wMt "list" appR wo wr) :=
  ce_bm PySem.F.plainAttrs_list PySem.F.slot_list_append PySem.F.type_list_append mt_append (fun F H c v d vs ds Qd Q r h1 h2 q k => by
    unfold appR at q
    split at q
    · obtain ⟨u, rfl, h3⟩ := h2.inv1
      obtain ⟨es, e1, q1, q2⟩ := q
      obtain ⟨us, g1, k1⟩ := r.lst e1
      exact ⟨_, us, u, h1.ref_inv, rfl, g1, by rw [k1.length]; exact q1, k F _ _ _ _ Le.rfl' (r.wr (k := .lst (es ++ [_])) e1 (by rw [g1]; trivial) ⟨_, rfl, k1.app (.one h3)⟩) .non q2⟩
    · exact q.elim) ho ha hbase hfew hline hs hplain
theorem ce_join (ho : CE GI X o wo) (ha : CA GI X [e] wr)
    (hbase : attributeBase o "join" X.env (eval o X.env) = eval o X.env := by rfl)
    (hfew : ((backTo cpos (starEach [e] X.env)).all (fun x => !x.1) && (backToKw cpos (keywordEach [] X.env)).all (fun x => x.1.isSome) && decide (([e] : List Expr).length + ([] : List Keyword).length + (if ([] : List Keyword).isEmpty then 0 else 1) < 30)) = true := by rfl)
    (hline : (apos.endLine == cpos.line) = true := by rfl) (hs : starEach [e] X.env = (false, eval e X.env) :: starEach [] X.env := by rfl) (hplain : (backTo cpos (starEach [] X.env)).any (·.1) = false := by rfl) : CE GI X (.Call (.Attribute o "join" apos) [e] [] cpos) (wMt "str" joinR wo wr) :=
  ce_bm PySem.F.plainAttrs_str PySem.F.slot_str_join PySem.F.type_str_join mt_join (fun F H c v d vs ds Qd Q r h1 h2 q k => by
    unfold joinR at q
    split at q
    · obtain ⟨u, rfl, h3⟩ := h2.inv1
      split at q
      · rename_i e1
        obtain ⟨ys, rfl, q1, q2⟩ := q
        obtain ⟨p, xs, rfl, g1, k1⟩ := res_lst r h3 e1
        obtain rfl := strs_V k1
        exact ⟨_, p, ys, h1.str_inv, rfl, .inl (SqL.of g1), q1, k F c H _ _ Le.rfl' r (.str _) q2⟩
      · exact q.elim
    · exact q.elim) ho ha hbase hfew hline hs hplain
end

/-! ### dicts: new, get -/
def wDict (t : Bool) : WE := fun _ _ c Q => ∀ p, c p = none → Q (.ref p) (updc c p (if t then .dT [] else .dK []))
def wGet2 (o k x : WE) : WE := fun E env c Q => o E env c fun d c1 => ∃ p, d = .ref p ∧ ((∃ kvs, c1 p = some (.dK kvs)) ∨ ∃ kvs, c1 p = some (.dT kvs)) ∧ k E env c1 fun y c2 => x E env c2 fun z c3 => dictAt c3 p y fun r => Q (r.getD z) c3
section
variable {GI : Hp → Hp → Prop} {X : Cx} {o e f : Expr} {wo wk wx : WE} {apos cpos pos : Pos}
theorem ce_dict (t : Bool) : CE GI X (.Dict [] [] pos) (wDict t) := fun W x => by
  cases t with
  | true =>
    refine pe_imp pe_dnewT ?_
    rintro σ H Q ⟨F, env, c, E, Qd, re, rp, lx, q, k⟩ p hp
    exact k F _ _ _ _ Le.rfl' (rp.newC (k := .dT []) hp ⟨[], rfl, .nil⟩) (.ref p) (q p (rp.frc hp))
  | false =>
    refine pe_imp pe_dnewK ?_
    rintro σ H Q ⟨F, env, c, E, Qd, re, rp, lx, q, k⟩ p hp
    exact k F _ _ _ _ Le.rfl' (rp.newC (k := .dK []) hp ⟨[], rfl, .nil⟩) (.ref p) (q p (rp.frc hp))
theorem isD_of {K : PySem.W.Frag} {F H : Hp} {c : CMap} {p : Addr} (r : Rep K GI F c H) (h : (∃ kvs, c p = some (.dK kvs)) ∨ ∃ kvs, c p = some (.dT kvs)) : IsD H p := by
  rcases h with ⟨kvs, e⟩ | ⟨kvs, e⟩
  · obtain ⟨_, o, h0, us, rfl, _⟩ := r.cel _ _ e
    exact .inl ⟨us, .inl h0⟩
  · obtain ⟨_, o, h0, us, rfl, _⟩ := r.cel _ _ e
    exact .inr ⟨us, .inl h0⟩
theorem ce_get2 (hr : Room 0 X.A) (ho : CE GI X o wo) (he : CE GI X e wk) (hf : CE GI X f wx) (m : M2 X o "get" apos e f cpos := by exact ⟨rfl, rfl, rfl, rfl⟩) : CE GI X (.Call (.Attribute o "get" apos) [e, f] [] cpos) (wGet2 wo wk wx) := fun W x => by
  refine pe_imp (pe_dget2 (hu_of hr) (ho W x) (he W x) (hf W x) m) ?_
  rintro σ H Q ⟨F, env, c, E, Qd, re, rp, lx, q, k⟩
  refine ⟨F, env, c, E, _, re, rp, lx, q, ?_⟩
  rintro F1 c1 H1 v d l1 r1 h1 ⟨p, rfl, hd, q1⟩
  refine ⟨p, h1.ref_inv, isD_of r1 hd, F1, env, c1, E, _, re.le l1, r1, lx.le l1, q1, ?_⟩
  intro F2 c2 H2 v2 d2 l2 r2 h2 q2
  refine ⟨F2, env, c2, E, _, (re.le l1).le l2, r2, (lx.le l1).le l2, q2, ?_⟩
  intro F3 c3 H3 v3 d3 l3 r3 h3 q3
  obtain ⟨oo, od, g, q, z⟩ := dict_snd r3 (h2.le l3) q3
  refine ⟨oo, g, ?_⟩
  rcases z with ⟨rfl, rfl⟩ | ⟨a, b, rfl, rfl, hh⟩
  · exact k F3 c3 H3 _ _ ((l1.trans' l2).trans' l3) r3 h3 q
  · exact k F3 c3 H3 _ _ ((l1.trans' l2).trans' l3) r3 hh q
end

/-! ### defs -/
/-- a def keeps its promise: its body as written, what the body does, what is wanted of it -/
theorem fnd_of {GI : Hp → Hp → Prop} {P : Program} {w : World} {K : PySem.W.Frag} {mg : Str → Option Value} {base : Heap} {x qual : Str} {st : Stmt} {f : Addr} {fd : FuncData} {N ps : List Str} {k n : Nat} {sp : DSpec} {ws : WS}
    (F : Fun K x qual st f fd) (hb : Binds K fd ps []) (S : FnScope N ps (defScope st)) (hn : ps.length = n) (hN : N.length = N.length)
    (len : ∀ ds c E Q, sp ds c E Q → ds.length = n)
    (body : ∀ (cdv : Value) (A : Around) (outer : List Env) (s : Shared) (H : Hp) (E : XK), Room k (A.deeper (envOfC qual (defScope st) s.heap.objs.size f cdv)) →
      CSs GI (cxOf (L2.CX P w) P w K mg base N qual (defScope st) f cdv A outer s H E) (defBody st) ws)
    (ok : ∀ ds c (E : XD) (Q : DK), sp ds c E Q → ws { nx := fun _ c' => ∃ c2, SubC c2 c' ∧ Q .non c2, rt := fun d c' => ∃ c2, SubC c2 c' ∧ Q d c2, ex := fun cls od _ c' => ∃ c2, SubC c2 c' ∧ E cls od c2 } (startE N.length ds) c) :
    FnD GI P w K mg base (k + 1) f n sp := by
  refine ⟨fd, ps, hn, F.kp, hb, F.okX S (fun vs H Q E h => ?_) fun cdv A outer s H vs Q E hr h => ?_⟩
  · obtain ⟨G, ds, c, E', Qd, h1, h2, h3, _⟩ := h
    rw [h1.length, len _ _ _ _ h3, hn]
  · obtain ⟨G, ds, c, E', Qd, h1, h2, h3, h4, h5⟩ := h
    refine ⟨_, body cdv A outer s H E hr (fun cls d _ H => E cls d H) ⟨S.nd, takes_of rfl rfl rfl rfl, PassesOwn.leaving⟩, G, _, c, _, RepE.start h1, h2, ok ds c E' Qd h3, ⟨?_, ?_, ?_, ?_, ?_⟩⟩
    · rintro G' env' c' σ' H' l re r ⟨c2, s2, q⟩
      exact h4 G' c2 H' _ _ l (r.sub' s2) .non q
    · rintro G' c' H' v d l r hd ⟨c2, s2, q⟩
      exact h4 G' c2 H' _ _ l (r.sub' s2) hd q
    · rintro G' env' c' σ' H' l re r q
      exact q
    · rintro G' env' c' σ' H' l re r q
      exact q
    · rintro G' env' c' σ' H' cls od l re r ⟨c2, s2, q⟩
      exact h5 G' c2 H' cls od l (r.sub' s2) q
end DL
namespace DL
open PySem PySem.Spec L2
abbrev HasG (GI : Hp → Hp → Prop) (P : Program) (w : World) (K : PySem.W.Frag) (mg : Str → Option Value) (base : Heap) (k : Nat) (x : Str) (n : Nat) (sp : DSpec) : Prop := ∃ f, mg x = some (.ref f) ∧ FnD GI P w K mg base k f n sp
theorem FnD.mono {GI : Hp → Hp → Prop} {P : Program} {w : World} {K : PySem.W.Frag} {mg : Str → Option Value} {base : Heap} {j k : Nat} {f : Addr} {n : Nat} {sp : DSpec} (h : FnD GI P w K mg base j f n sp) (l : j ≤ k) : FnD GI P w K mg base k f n sp := by
  obtain ⟨fd, ps, h1, h2, h3, h4⟩ := h.ex
  exact ⟨fd, ps, h1, h2, h3, h4.mono l⟩
theorem FnD.imp {GI : Hp → Hp → Prop} {P : Program} {w : World} {K : PySem.W.Frag} {mg : Str → Option Value} {base : Heap} {k : Nat} {f : Addr} {n : Nat} {sp sp' : DSpec} (h : FnD GI P w K mg base k f n sp) (l : ∀ ds c E Q, sp' ds c E Q → sp ds c E Q) : FnD GI P w K mg base k f n sp' := by
  obtain ⟨fd, ps, h1, h2, h3, h4⟩ := h.ex
  refine ⟨fd, ps, h1, h2, h3, h4.imp ?_⟩
  rintro vs H Q E ⟨F, ds, c, E', Qd, g1, g2, g3, g4, g5⟩
  exact ⟨F, ds, c, E', Qd, g1, g2, l _ _ _ _ g3, g4, g5⟩
end DL
/-! the data layer: how a body is gone through -/
namespace DL
open PySem PySem.Spec L2
open PyProof.Rows hiding St
section
variable {E : XD} {env env' : DEnv} {c c1 : CMap} {Q : DK} {DD : DEnds} {i : Nat} {d e x : D} {ds es : List D} {p : Addr}
theorem wSeq_i {a b : WS} (h : a { DD with nx := fun env' c' => b DD env' c' } env c) : wSeq a b DD env c := h
theorem wSkip_i (h : DD.nx env c) : wSkip DD env c := h
theorem wBrk_i (h : DD.bk env c) : wBrk DD env c := h
theorem wCnt_i (h : DD.ct env c) : wCnt DD env c := h
theorem wRet_i {a : WE} (h : a (exE DD env) env c DD.rt) : wRet a DD env c := h
theorem wRetN_i (h : DD.rt .non c) : wRetN DD env c := h
theorem wDrop_i {a : WE} (h : a (exE DD env) env c fun _ c1 => DD.nx env c1) : wDrop a DD env c := h
theorem wIf_i {t : WT} {a b : WS} (h : t (exE DD env) env c fun k c1 => if k = true then a DD env c1 else b DD env c1) : wIf t a b DD env c := h
theorem wAsg_i {a : WE} (h : a (exE DD env) env c fun d c1 => DD.nx (env.set i (some d)) c1) : wAsg i a DD env c := h
theorem wAsgG_i {a : WE} {g : WG} (h : a (exE DD env) env c fun d c1 => g d env c1 DD.nx) : wAsgG g a DD env c := h
theorem wSet_i {o k a : WE} (h : a (exE DD env) env c fun d c1 => o (exE DD env) env c1 fun x c2 => k (exE DD env) env c2 fun y c3 => setR c3 x y d fun c4 => DD.nx env c4) : wSet o k a DD env c := h
theorem gNm_i {N : DEnv → CMap → Prop} (h : N (env.set i (some d)) c) : gNm i d env c N := h
theorem gTp_i {n : Nat} {gs : WGs} {N : DEnv → CMap → Prop} (hl : ds.length = n) (h : gs ds env c N) : gTp n gs (.tup ds) env c N := ⟨ds, .inl rfl, hl, h⟩
theorem gTp_k {n : Nat} {gs : WGs} {N : DEnv → CMap → Prop} (hl : ds.length = n) (h : gs ds env c N) : gTp n gs (.kt ds) env c N := ⟨ds, .inr rfl, hl, h⟩
theorem gCn_i {g : WG} {gs : WGs} {N : DEnv → CMap → Prop} (h : g d env c fun env' c' => gs es env' c' N) : gCn g gs (d :: es) env c N := ⟨d, es, rfl, h⟩
theorem gNl_i {N : DEnv → CMap → Prop} (h : N env c) : gNl [] env c N := ⟨rfl, h⟩
theorem wVar_i (h : getE env i = some d) (q : Q d c) : wVar i E env c Q := ⟨d, h, q⟩
theorem wC_i (q : Q d c) : wC d E env c Q := q
theorem wOp_i {R : RD2} {a b : WE} (h : a E env c fun d c1 => b E env c1 fun e c2 => R c2 d e Q) : wOp R a b E env c Q := h
theorem wNeg_i {a : WE} (h : a E env c fun d c1 => negR d c1 Q) : wNeg a E env c Q := h
theorem neg_i {k : Int} (q : Q (.int (-k)) c) : negR (.int k) c Q := q
theorem wFn_i {R : RDn} {r : WA} (h : r E env c fun ds c1 => R c1 ds Q) : wFn R r E env c Q := h
theorem wCall_i {sp : DSpec} {r : WA} (h : r E env c fun ds c1 => sp ds c1 E Q) : wCall sp r E env c Q := h
theorem wNil_i {N : List D → CMap → Prop} (h : N [] c) : wNil E env c N := h
theorem wCons_i {a : WE} {r : WA} {N : List D → CMap → Prop} (h : a E env c fun d c1 => r E env c1 fun ds c2 => N (d :: ds) c2) : wCons a r E env c N := h
theorem wTup_i {r : WA} (h : r E env c fun ds c1 => ds.length ≤ sizeLine ∧ Q (.tup ds) c1) : wTup r E env c Q := h
theorem wLst_i {m : Bool} {r : WA} (h : r E env c fun ds c1 => ds.length ≤ sizeLine ∧ newL m c1 ds Q) : wLst m r E env c Q := h
theorem len_ok {n : Nat} (h : Nat.ble n 16777216 = true) : n ≤ sizeLine := by rw [sizeLine_eq]; exact Nat.le_of_ble_eq_true h
theorem len_le {n : Nat} (h : n ≤ 16777216) : n ≤ sizeLine := by rw [sizeLine_eq]; exact h
theorem len_lt {n : Nat} (h : n < 16777216) : n < sizeLine := by rw [sizeLine_eq]; exact h
theorem lenQ {n : Nat} {A : Prop} (h : Nat.ble n 16777216 = true) (q : A) : n ≤ sizeLine ∧ A := ⟨len_ok h, q⟩
theorem newL_f (h : Q (.lst ds) c) : newL false c ds Q := by unfold newL; rw [if_neg (by decide)]; exact h
theorem newL_t (h : ∀ p, c p = none → Q (.ref p) (updc c p (.lst ds))) : newL true c ds Q := by unfold newL; rw [if_pos rfl]; exact h
theorem wTst_i {a : WE} {N : Bool → CMap → Prop} (h : a E env c fun d c' => asB d c' N) : wTst a E env c N := h
theorem asB_i {b : Bool} {N : Bool → CMap → Prop} (h : N b c) : asB (.bl b) c N := h
theorem asI_i {k : Int} {N : Int → CMap → Prop} (h : N k c) : asI (.int k) c N := h
theorem wNot_i {t : WT} {N : Bool → CMap → Prop} (h : t E env c fun b c1 => N (!b) c1) : wNot t E env c N := h
theorem wAnd_i {s t : WT} {N : Bool → CMap → Prop} (h : s E env c fun b c1 => if b = true then t E env c1 N else N false c1) : wAnd s t E env c N := h
theorem wOr_i {s t : WT} {N : Bool → CMap → Prop} (h : s E env c fun b c1 => if b = true then N true c1 else t E env c1 N) : wOr s t E env c N := h
theorem wAndV_i {a b : WE} (h : a E env c fun d c1 => asB d c1 fun k c2 => if k = true then b E env c2 Q else Q (.bl false) c2) : wAndV a b E env c Q := h
theorem wOrV_i {a b : WE} (h : a E env c fun d c1 => asB d c1 fun k c2 => if k = true then Q (.bl true) c2 else b E env c2 Q) : wOrV a b E env c Q := h
theorem wNotV_i {a : WE} (h : a E env c fun d c1 => asB d c1 fun k c2 => Q (.bl (!k)) c2) : wNotV a E env c Q := h
theorem wIfE_i {t : WT} {a b : WE} (h : t E env c fun k c1 => if k = true then a E env c1 Q else b E env c1 Q) : wIfE t a b E env c Q := h
theorem wYes_i {N : Bool → CMap → Prop} (h : N true c) : wYes E env c N := h
theorem wSl_i {m : Bool} {a : WE} {lo hi : WO} (h : a E env c fun d c1 => lo E env c1 fun l c2 => hi E env c2 fun u c3 => sliceR m c3 d l u Q) : wSl m a lo hi E env c Q := h
theorem wNo_i {N : Option Int → CMap → Prop} (h : N none c) : wNo E env c N := h
theorem wSome_i {a : WE} {N : Option Int → CMap → Prop} (h : a E env c fun d c1 => asI d c1 fun i c2 => N (some i) c2) : wSome a E env c N := h
theorem wFrz_i {a : WE} (h : a E env c fun d c1 => frzR d c1 Q) : wFrz a E env c Q := h
theorem frzQ (h : c p = some (.lst ds)) (q : Q (.lst ds) (delc c p)) : frzR (.ref p) c Q := ⟨p, ds, rfl, h, q⟩
theorem wWk_i {a : WE} (h : a E env c (wkQ Q)) : wWk a E env c Q := h
theorem wk_i {c2 : CMap} (h : SubC c2 c) (q : Q d c2) : wkQ Q d c := ⟨c2, h, q⟩
theorem wMt_i {T : String} {R : RDm} {o : WE} {r : WA} (h : o E env c fun d c1 => tyDl T c1 d ∧ r E env c1 fun ds c2 => R c2 d ds Q) : wMt T R o r E env c Q := h
theorem wGet2_i {o k z : WE} (h : o E env c fun d c1 => ∃ p, d = .ref p ∧ ((∃ kvs, c1 p = some (.dK kvs)) ∨ ∃ kvs, c1 p = some (.dT kvs)) ∧ k E env c1 fun y c2 => z E env c2 fun w c3 => dictAt c3 p y fun r => Q (r.getD w) c3) : wGet2 o k z E env c Q := h
theorem wDict_i {t : Bool} (h : ∀ p, c p = none → Q (.ref p) (updc c p (if t then .dT [] else .dK []))) : wDict t E env c Q := h
theorem wIt_i {a : WE} {N : List D → (CMap → Prop) → CMap → Prop} (h : a E env c fun d c1 => itR d c1 N) : wIt a E env c N := h
theorem itQ {N : List D → (CMap → Prop) → CMap → Prop} (h : itsD d = some ds) (q : N ds noG c) : itR d c N := .inl ⟨ds, h, q⟩
theorem itC {N : List D → (CMap → Prop) → CMap → Prop} (h : c p = some (.lst ds)) (q : N ds (fun c => c p = some (.lst ds)) c) : itR (.ref p) c N := .inr ⟨p, ds, rfl, h, q⟩
theorem wRg1_i {r : WA} {N : List D → (CMap → Prop) → CMap → Prop} (h : r E env c fun ds c1 => rgR1 ds c1 N) : wRg1 r E env c N := h
theorem wRg2_i {r : WA} {N : List D → (CMap → Prop) → CMap → Prop} (h : r E env c fun ds c1 => rgR2 ds c1 N) : wRg2 r E env c N := h
theorem wZip_i {r : WA} {N : List D → (CMap → Prop) → CMap → Prop} (h : r E env c fun ds c1 => zipR ds c1 N) : wZip r E env c N := h
theorem wEnum_i {r : WA} {N : List D → (CMap → Prop) → CMap → Prop} (h : r E env c fun ds c1 => enumR ds c1 N) : wEnum r E env c N := h
theorem rg1_i {n : Int} {N : List D → (CMap → Prop) → CMap → Prop} (h1 : -4611686018427387904 ≤ n) (h2 : n < 4611686018427387904) (q : N ((upto 0 n.toNat).map D.int) noG c) : rgR1 [.int n] c N := ⟨h1, h2, q⟩
theorem rg2_i {a b : Int} {N : List D → (CMap → Prop) → CMap → Prop} (h1 : -4611686018427387904 ≤ a) (h2 : a < 4611686018427387904) (h3 : -4611686018427387904 ≤ b) (h4 : b < 4611686018427387904) (q : N ((upto a (b - a).toNat).map D.int) noG c) : rgR2 [.int a, .int b] c N := ⟨h1, h2, h3, h4, q⟩
abbrev ndG : CMap → Prop := fun c => noG c ∧ noG c
theorem zip_i {xs ys : List D} {N : List D → (CMap → Prop) → CMap → Prop} (q : N ((xs.zip ys).map fun p => D.tup [p.1, p.2]) ndG c) : zipR [.lst xs, .lst ys] c N := .inl ⟨xs, ys, _, _, .inl ⟨rfl, rfl⟩, .inl ⟨rfl, rfl⟩, q⟩
theorem zip_t {xs ys : List D} {N : List D → (CMap → Prop) → CMap → Prop} (q : N ((xs.zip ys).map fun p => D.tup [p.1, p.2]) noG c) : zipR [.tup xs, .tup ys] c N := .inr ⟨xs, ys, rfl, rfl, q⟩
theorem zip_cl {xs ys : List D} {N : List D → (CMap → Prop) → CMap → Prop} (h : c p = some (.lst xs)) (q : N ((xs.zip ys).map fun p => D.tup [p.1, p.2]) (fun c => c p = some (.lst xs) ∧ noG c) c) : zipR [.ref p, .lst ys] c N := .inl ⟨xs, ys, _, _, .inr ⟨p, rfl, h, rfl⟩, .inl ⟨rfl, rfl⟩, q⟩
theorem enum_i {xs : List D} {N : List D → (CMap → Prop) → CMap → Prop} (q : N (xs.mapIdx fun i x => D.tup [.int (i : Nat), x]) noG c) : enumR [.lst xs] c N := ⟨xs, _, .inl ⟨rfl, rfl⟩, q⟩
theorem wFor_i {wi : WI} {wg : WG} {b : WS} (h : wi (exE DD env) env c fun ds G c1 => ForP wg b DD ds G env c1) : wFor wi wg b DD env c := h
theorem wComp_i {m : Bool} {wi : WI} {wg : WG} {wt : WT} {we : WE} {vs : List Nat} (h : wi E env c fun ds G c1 => ∀ A, c1 A = none → CompP m (compS wg wt we (wipeE env vs)) A ds G c1 Q) : wComp m wi wg wt we vs E env c Q := h
theorem compS_i {wg : WG} {wt : WT} {we : WE} {k : Option D → CMap → Prop} (h : wg d env c fun env2 c2 => wt noX env2 c2 fun b c3 => if b = true then we noX env2 c3 fun y c4 => k (some y) c4 else k none c3) : compS wg wt we env d c k := h
theorem forS_i {wg : WG} {b : WS} {N : DEnv → CMap → Prop} (h : wg d env c fun env2 c2 => b { DD with nx := N, ct := N, bk := DD.nx } env2 c2) : forS wg b DD d env c N := h
theorem res_c (h : c p = some (.lst ds)) : res c (.ref p) = .lst ds := by show resAt (c p) p = _; rw [h]; rfl
theorem res_K {kvs : List (Key × D)} (h : c p = some (.dK kvs)) : res c (.ref p) = .ref p := by show resAt (c p) p = _; rw [h]; rfl
theorem res_T {kvs : List (List Key × D)} (h : c p = some (.dT kvs)) : res c (.ref p) = .ref p := by show resAt (c p) p = _; rw [h]; rfl
theorem res_w {o : HO} (h : c p = some (.raw o)) : res c (.ref p) = .ref p := by show resAt (c p) p = _; rw [h]; rfl
theorem dA_T {kvs : List (List Key × D)} {ks : List Key} {k : Option D → Prop} (h : c p = some (.dT kvs)) (h2 : keysD es = some ks) (q : k (valD kvs ks)) : dictAt c p (.tup es) k := by unfold dictAt; rw [h]; dsimp only; rw [h2]; exact q
theorem dA_K {kvs : List (Key × D)} {x : Key} {k : Option D → Prop} (h : c p = some (.dK kvs)) (h2 : keyD d = some x) (q : k (valD kvs x)) : dictAt c p d k := by unfold dictAt; rw [h]; dsimp only; rw [h2]; exact q
theorem at0 {α : Type} (x : α) (xs : List α) : atI (x :: xs) 0 = some x := atI_nat (j := 0) rfl
theorem at1 {α : Type} (x y : α) (xs : List α) : atI (x :: y :: xs) 1 = some y := atI_nat (j := 1) rfl
theorem atn {α : Type} {xs : List α} {i : Int} {j : Nat} {x : α} (e : i = (j : Int)) (h : xs[j]? = some x) : atI xs i = some x := by rw [e]; exact atI_nat h
theorem ixn {n : Nat} {i : Int} {j : Nat} (e : i = (j : Int)) (h : j < n) : ixN n i = some j := by
  subst e; unfold ixN; rw [if_pos (by omega), if_pos (by omega)]; simp
/-! by values -/
theorem add_ii {m : Bool} {i j : Int} (q : Q (.int (i + j)) c) : addR m c (.int i) (.int j) Q := q
theorem add_ss {m : Bool} {i j : Str} (h : i.length + j.length ≤ sizeLine) (q : Q (.str (i ++ j)) c) : addR m c (.str i) (.str j) Q := ⟨h, q⟩
theorem add_ll {m : Bool} {a b : List D} (h : a.length + b.length ≤ sizeLine) (q : newL m c (a ++ b) Q) : addR m c (.lst a) (.lst b) Q := ⟨h, q⟩
theorem add_tt {m : Bool} {a b : List D} (h1 : a ≠ []) (h2 : b ≠ []) (h : a.length + b.length ≤ sizeLine) (q : Q (.tup (a ++ b)) c) : addR m c (.tup a) (.tup b) Q := ⟨h1, h2, h, q⟩
theorem sub_ii {i j : Int} (q : Q (.int (i - j)) c) : subR c (.int i) (.int j) Q := q
theorem mul_ii {m : Bool} {i j : Int} (h : CMul i j ∨ CMulW i j) (q : Q (.int (i * j)) c) : mulR m c (.int i) (.int j) Q := ⟨h, q⟩
theorem mul_li {m : Bool} {a : List D} {k : Int} (h1 : -(2 ^ 63) ≤ k) (h2 : k < 2 ^ 63) (h : a.length * k.toNat ≤ sizeLine) (q : newL m c (List.replicate k.toNat a).flatten Q) : mulR m c (.lst a) (.int k) Q := ⟨h1, h2, h, q⟩
theorem fdiv_ii {i j : Int} (h : CDiv i j ∨ CDivW i j) (q : Q (.int (i / j)) c) : fdivR c (.int i) (.int j) Q := ⟨h, q⟩
theorem mod_ii {i j : Int} (h : 0 < j) (q : Q (.int (i % j)) c) : modR c (.int i) (.int j) Q := ⟨h, q⟩
theorem pow_ii {i j z : Int} (h : CPow i j) (e : i ^ j.toNat = z) (q : Q (.int z) c) : powR c (.int i) (.int j) Q := ⟨h, by rw [e]; exact q⟩
theorem lt_ii {f : Int → Int → Bool} {g : Str → Str → Bool} {i j : Int} (q : Q (.bl (f i j)) c) : ltR f g c (.int i) (.int j) Q := q
theorem ltI_ii {f : Int → Int → Bool} {i j : Int} (q : Q (.bl (f i j)) c) : ltI f c (.int i) (.int j) Q := q
theorem eq_ii {n : Bool} {i j : Int} (q : Q (.bl (n ^^ decide (i = j))) c) : eqR n c (.int i) (.int j) Q :=
  ⟨⟨rfl, by simp [res, dep]⟩, ⟨rfl, by simp [res, dep]⟩, by
    show Q (.bl (n ^^ decide (D.int i = D.int j))) c
    have : decide (D.int i = D.int j) = decide (i = j) := by simp
    rw [this]; exact q⟩
theorem eq_dd {n : Bool} {d' e' : D} (h1 : res c d = d') (h2 : res c e = e') (o1 : eqOk d') (o2 : eqOk e') (q : Q (.bl (n ^^ decide (d' = e'))) c) : eqR n c d e Q := by
  unfold eqR
  rw [h1, h2]
  split
  · exact absurd o1.1 (by simp [okD])
  · exact ⟨o1, o2, q⟩
theorem in_l {n : Bool} (h1 : res c e = .lst ds) (h2 : flatD d = true) (h3 : ds.all flatD = true) (q : Q (.bl (n ^^ decide (d ∈ ds))) c) : inR n c d e Q := by unfold inR; rw [h1]; exact ⟨h2, h3, q⟩
theorem in_t {n : Bool} (h2 : flatD d = true) (h3 : ds.all flatD = true) (q : Q (.bl (n ^^ decide (d ∈ ds))) c) : inR n c d (.tup ds) Q := ⟨h2, h3, q⟩
theorem in_k {n : Bool} (h2 : flatD d = true) (h3 : ds.all flatD = true) (q : Q (.bl (n ^^ decide (d ∈ ds))) c) : inR n c d (.kt ds) Q := ⟨h2, h3, q⟩
theorem in_s {n : Bool} {k : Nat} {z : Str} (q : Q (.bl (n ^^ decide (k ∈ z.cps.toList))) c) : inR n c (.str ⟨#[k]⟩) (.str z) Q := ⟨k, rfl, q⟩
theorem in_dT {n : Bool} {kvs : List (List Key × D)} {ks : List Key} (h : c p = some (.dT kvs)) (h2 : keysD es = some ks) (q : Q (.bl (n ^^ (valD kvs ks).isSome)) c) : inR n c (.tup es) (.ref p) Q := by
  unfold inR; rw [res_T h]; exact dA_T h h2 q
theorem in_dK {n : Bool} {kvs : List (Key × D)} {k : Key} (h : c p = some (.dK kvs)) (h2 : keyD d = some k) (q : Q (.bl (n ^^ (valD kvs k).isSome)) c) : inR n c d (.ref p) Q := by
  unfold inR; rw [res_K h]; exact dA_K h h2 q
theorem ix_l {i : Int} (h : atI ds i = some x) (q : Q x c) : idxR c (.lst ds) (.int i) Q := ⟨x, h, q⟩
theorem ix_t {i : Int} (h : atI ds i = some x) (q : Q x c) : idxR c (.tup ds) (.int i) Q := ⟨x, h, q⟩
theorem ix_k {i : Int} (h : atI ds i = some x) (q : Q x c) : idxR c (.kt ds) (.int i) Q := ⟨x, h, q⟩
theorem ix_s {i k : Int} {ns : List Int} (h : atI ns i = some k) (q : Q (.int k) c) : idxR c (.scr ns) (.int i) Q := ⟨k, h, q⟩
theorem ix_c {i : Int} (hc : c p = some (.lst ds)) (h : atI ds i = some x) (q : Q x c) : idxR c (.ref p) (.int i) Q := by unfold idxR; rw [res_c hc]; exact ⟨x, h, q⟩
theorem ix_str {i : Int} {z : Str} {k : Nat} (hl : z.length ≤ sizeLine) (h : atI z.cps.toList i = some k) (q : Q (.str ⟨#[k]⟩) c) : idxR c (.str z) (.int i) Q := ⟨hl, k, h, q⟩
theorem ix_dT {kvs : List (List Key × D)} {ks : List Key} (h : c p = some (.dT kvs)) (h2 : keysD es = some ks) (h3 : valD kvs ks = some x) (q : Q x c) : idxR c (.ref p) (.tup es) Q := by
  unfold idxR; rw [res_T h]; exact dA_T h h2 ⟨x, h3, q⟩
theorem ix_dK {kvs : List (Key × D)} {k : Key} (h : c p = some (.dK kvs)) (h2 : keyD d = some k) (h3 : valD kvs k = some x) (q : Q x c) : idxR c (.ref p) d Q := by
  unfold idxR; rw [res_K h]
  cases d <;> simp only [keyD, Option.some.injEq, reduceCtorEq] at h2 <;> exact dA_K h (by simp only [keyD, h2]) ⟨x, h3, q⟩
theorem sl_l {m : Bool} {lo hi : Option Int} (q : newL m c (cutG ds lo hi) Q) : sliceR m c (.lst ds) lo hi Q := q
theorem sl_c {m : Bool} {lo hi : Option Int} (h : c p = some (.lst ds)) (q : newL m c (cutG ds lo hi) Q) : sliceR m c (.ref p) lo hi Q := by unfold sliceR; rw [res_c h]; exact q
theorem sl_r {m : Bool} {lo hi : Option Int} {ns : List Int} (q : newL m c ((cutG ns lo hi).map D.int) Q) : sliceR m c (.scr ns) lo hi Q := q
theorem sl_s {m : Bool} {lo hi : Option Int} {z : Str} (h : z.length ≤ sizeLine) (q : Q (.str (cutS z lo hi)) c) : sliceR m c (.str z) lo hi Q := ⟨h, q⟩
theorem len_l (q : Q (.int ds.length) c) : lenR c [.lst ds] Q := q
theorem len_t (q : Q (.int ds.length) c) : lenR c [.tup ds] Q := q
theorem len_k (q : Q (.int ds.length) c) : lenR c [.kt ds] Q := q
theorem len_r {ns : List Int} (q : Q (.int ns.length) c) : lenR c [.scr ns] Q := q
theorem len_s {z : Str} (h : z.length ≤ sizeLine) (q : Q (.int z.length) c) : lenR c [.str z] Q := ⟨h, q⟩
theorem len_c (h : c p = some (.lst ds)) (q : Q (.int ds.length) c) : lenR c [.ref p] Q := by unfold lenR; dsimp only; rw [res_c h]; exact q
theorem int_i {k : Int} (q : Q (.int k) c) : intR c [.int k] Q := q
theorem int_b {b : Bool} (q : Q (.int (if b then 1 else 0)) c) : intR c [.bl b] Q := q
theorem abs_i {k : Int} (q : Q (.int (if k < 0 then -k else k)) c) : absR c [.int k] Q := q
theorem max2_i {i j : Int} (q : Q (.int (if j > i then j else i)) c) : max2R c [.int i, .int j] Q := q
theorem min2_i {i j : Int} (q : Q (.int (if j < i then j else i)) c) : min2R c [.int i, .int j] Q := q
theorem str_i {k : Int} (h : k.natAbs.log2 < 1920) (q : Q (.str (toString k)) c) : strR c [.int k] Q := ⟨h, q⟩
theorem isi_i {n t : String} {b : Bool} (h1 : tyN c d = some t) (h2 : isiB t n = some b) (q : Q (.bl b) c) : isiR c [d, .ty n] Q := ⟨t, b, h1, h2, q⟩
theorem isi_t {t : String} {b : Bool} {ns : List String} (h1 : tyN c d = some t) (h2 : tysD ds = some ns) (h3 : isiAny t ns = some b) (q : Q (.bl b) c) : isiR c [d, .tup ds] Q := ⟨t, b, ns, h1, h2, h3, q⟩
theorem sort_i {m : Bool} {ns : List Int} (h : res c d = .lst ds) (h1 : intsD ds = some ns) (q : ∀ ns' : List Int, ns'.Perm ns → ns'.Pairwise (· ≤ ·) → newL m c (ns'.map D.int) Q) : sortR m c [d] Q := by unfold sortR; dsimp only; rw [h]; exact .inl ⟨ns, h1, q⟩
theorem sort_s {m : Bool} {ns : List Str} (h : res c d = .lst ds) (h1 : strsD ds = some ns) (h2 : ns.length < 64) (q : ∀ ys : List Str, ys.Perm ns → PyProof.Rows.sortedS ys = true → newL m c (ys.map D.str) Q) : sortR m c [d] Q := by unfold sortR; dsimp only; rw [h]; exact .inr ⟨ns, h1, h2, q⟩
theorem lst_l {m : Bool} (q : newL m c ds Q) : listR m c [.lst ds] Q := q
theorem lst_t {m : Bool} (q : newL m c ds Q) : listR m c [.tup ds] Q := q
theorem lst_c {m : Bool} (h : c p = some (.lst ds)) (q : newL m c ds Q) : listR m c [.ref p] Q := by unfold listR; dsimp only; rw [res_c h]; exact q
theorem lst_s {m : Bool} {ns : List Int} (q : newL m c (ns.map D.int) Q) : listR m c [.scr ns] Q := q
theorem lst_g {m : Bool} {a b : Int} (h : c p = some (.raw (.rng a b))) (h1 : -(2 ^ 62) ≤ a) (h2 : a < 2 ^ 62) (h3 : -(2 ^ 62) ≤ b) (h4 : b < 2 ^ 62) (h5 : (b - a).toNat ≤ 2 ^ 24) (q : newL m c ((upto a (b - a).toNat).map D.int) Q) : listR m c [.ref p] Q := by
  unfold listR; dsimp only; rw [res_w h]; dsimp only; rw [h]; exact ⟨h1, h2, h3, h4, h5, q⟩
theorem rng_1 {n : Int} (q : ∀ p, c p = none → Q (.ref p) (updc c p (.raw (.rng 0 n)))) : rangeR c [.int n] Q := q
theorem tup_l (q : Q (.tup ds) c) : tupleR c [.lst ds] Q := q
theorem tup_t (q : Q (.tup ds) c) : tupleR c [.tup ds] Q := q
theorem all_l {bs : List Bool} (h : blsD ds = some bs) (q : Q (.bl (bs.all id)) c) : allR c [.lst ds] Q := ⟨bs, h, q⟩
theorem set_l {k : Int} {j : Nat} {N : CMap → Prop} (h : c p = some (.lst ds)) (h2 : ixN ds.length k = some j) (q : N (updc c p (.lst (ds.set j d)))) : setR c (.ref p) (.int k) d N := by
  refine ⟨p, rfl, ?_⟩; rw [h]; exact ⟨k, j, rfl, h2, q⟩
theorem set_dK {kvs : List (Key × D)} {k : Key} {N : CMap → Prop} (h : c p = some (.dK kvs)) (h2 : keyD x = some k) (h3 : kvs.length < sizeLine) (q : N (updc c p (.dK (putKD kvs k d)))) : setR c (.ref p) x d N := by
  refine ⟨p, rfl, ?_⟩; rw [h]; exact ⟨k, h2, h3, q⟩
theorem set_dT {kvs : List (List Key × D)} {ks : List Key} {N : CMap → Prop} (h : c p = some (.dT kvs)) (h2 : keysD es = some ks) (h3 : kvs.length < sizeLine) (q : N (updc c p (.dT (putKD kvs ks d)))) : setR c (.ref p) (.tup es) d N := by
  refine ⟨p, rfl, ?_⟩; rw [h]; exact ⟨es, ks, rfl, h2, h3, q⟩
theorem ty_c (h : c p = some (.lst es)) : tyDl "list" c (.ref p) := by unfold tyDl; rw [res_c h]
theorem ty_s {z : Str} : tyDl "str" c (.str z) := rfl
theorem app_c (h : c p = some (.lst es)) (h2 : es.length < sizeLine) (q : Q .non (updc c p (.lst (es ++ [x])))) : appR c (.ref p) [x] Q := ⟨es, h, h2, q⟩
theorem join_i {a : Str} {ys : List Str} (h : ds = ys.map D.str) (h2 : (ys.map (·.length)).sum + ys.length * a.length ≤ 16777216) (q : Q (.str (Txt.join a ys)) c) : joinR c (.str a) [.lst ds] Q := ⟨ys, h, h2, q⟩
/-! tests -/
theorem ite_d {p : Prop} [Decidable p] {A B : Prop} (h1 : p → A) (h2 : ¬ p → B) : if decide p = true then A else B := by
  by_cases h : p
  · rw [if_pos (decide_eq_true h)]; exact h1 h
  · rw [if_neg (by simpa using h)]; exact h2 h
theorem ite_fd {p : Prop} [Decidable p] {A B : Prop} (h1 : p → A) (h2 : ¬ p → B) : if (false ^^ decide p) = true then A else B := by
  rw [Bool.false_xor]; exact ite_d h1 h2
theorem ite_td {p : Prop} [Decidable p] {A B : Prop} (h1 : ¬ p → A) (h2 : p → B) : if (true ^^ decide p) = true then A else B := by
  rw [Bool.true_xor]
  by_cases h : p
  · rw [if_neg (by simp [h])]; exact h2 h
  · rw [if_pos (by simp [h])]; exact h1 h
theorem ite_bt {A B : Prop} (h : A) : if true = true then A else B := by rw [if_pos rfl]; exact h
theorem ite_bf {A B : Prop} (h : B) : if false = true then A else B := by rw [if_neg (by decide)]; exact h
theorem ite_n {b : Bool} {A B : Prop} (h : if b = true then B else A) : if (!b) = true then A else B := by cases b <;> simpa using h
theorem ite_b {b : Bool} {A B : Prop} (h1 : b = true → A) (h2 : b = false → B) : if b = true then A else B := by
  cases b with
  | true => rw [if_pos rfl]; exact h1 rfl
  | false => rw [if_neg (by decide)]; exact h2 rfl
end
/-! loops -/
section
variable {wg : WG} {b : WS} {DD : DEnds} {ds : List D} {env : DEnv} {c : CMap} {Q : DK} {A : Addr}
theorem for_invG {G : CMap → Prop} (P : Nat → DEnv → CMap → Prop) (h0 : P 0 env c) (hs : ∀ (i : Nat) (d : D) (env : DEnv) (c : CMap), ds[i]? = some d → P i env c → forS wg b DD d env c (P (i + 1))) (hg : ∀ i env c, P i env c → G c) (hd : ∀ env c, P ds.length env c → DD.nx env c) : ForP wg b DD ds G env c := ⟨P, h0, hg, fun i d env c e q => ⟨_, fun env c q => ⟨c, SubC.rfl', q⟩, hs i d env c e q⟩, hd⟩
class FreeG (G : CMap → Prop) : Prop where
  all : ∀ c, G c
instance : FreeG noG := ⟨fun _ => trivial⟩
instance : FreeG (fun _ => True) := ⟨fun _ => trivial⟩
instance : FreeG ndG := ⟨fun _ => ⟨trivial, trivial⟩⟩
theorem for_inv {G : CMap → Prop} [FreeG G] (P : Nat → DEnv → CMap → Prop) (h0 : P 0 env c) (hs : ∀ (i : Nat) (d : D) (env : DEnv) (c : CMap), ds[i]? = some d → P i env c → forS wg b DD d env c (P (i + 1))) (hd : ∀ env c, P ds.length env c → DD.nx env c) : ForP wg b DD ds G env c := for_invG P h0 hs (fun _ _ c _ => FreeG.all c) hd
abbrev wkE (N : DEnv → CMap → Prop) : DEnv → CMap → Prop := fun env c => ∃ c2, SubC c2 c ∧ N env c2
/-- .. cells that the next turn doesn't ask for may be left out -/
theorem for_invW {G : CMap → Prop} [FreeG G] (P : Nat → DEnv → CMap → Prop) (h0 : P 0 env c) (hs : ∀ (i : Nat) (d : D) (env : DEnv) (c : CMap), ds[i]? = some d → P i env c → forS wg b DD d env c (wkE (P (i + 1)))) (hd : ∀ env c, P ds.length env c → DD.nx env c) : ForP wg b DD ds G env c := ⟨P, h0, fun _ _ c _ => FreeG.all c, fun i d env c e q => ⟨_, fun _ _ z => z, hs i d env c e q⟩, hd⟩
theorem for_unr {G : CMap → Prop} [FreeG G] (h : forD (forS wg b DD) ds env c DD.nx) : ForP wg b DD ds G env c := by
  refine ⟨fun i env c => forD (forS wg b DD) (ds.drop i) env c DD.nx, by simpa using h, fun _ _ c _ => FreeG.all c, fun i d env c e q => ⟨_, fun env c q => ⟨c, SubC.rfl', q⟩, ?_⟩, fun env c q => ?_⟩
  · obtain ⟨hi, rfl⟩ := List.getElem?_eq_some_iff.mp e
    dsimp only at q
    rw [List.drop_eq_getElem_cons hi] at q
    exact q
  · dsimp only at q
    rw [List.drop_length] at q
    exact q
theorem updc_comm {c : CMap} {a b : Addr} {k l : Cell} (h : a ≠ b) : updc (updc c a k) b l = updc (updc c b l) a k := by
  funext x
  unfold updc
  by_cases h1 : x = b
  · subst h1; rw [if_pos rfl, if_neg (Ne.symm h), if_pos rfl]
  · rw [if_neg h1, if_neg h1]
theorem delc_updc {c : CMap} {a : Addr} {k : Cell} (h : c a = none) : delc (updc c a k) a = c := by
  funext x
  unfold delc updc
  by_cases h1 : x = a
  · subst h1; rw [if_pos rfl, h]
  · rw [if_neg h1, if_neg h1]
theorem delc_comm {c : CMap} {a b : Addr} {k : Cell} (h : a ≠ b) : delc (updc c a k) b = updc (delc c b) a k := by
  funext x
  show (if x = b then none else if x = a then some k else c x) = if x = a then some k else if x = b then none else c x
  by_cases h1 : x = b
  · subst h1; rw [if_pos rfl, if_neg (Ne.symm h), if_pos rfl]
  · rw [if_neg h1, if_neg h1]
theorem updc_none {c : CMap} {a b : Addr} {k : Cell} (h : updc c a k b = none) : b ≠ a ∧ c b = none := by
  by_cases e : b = a
  · subst e; rw [updc_same] at h; cases h
  · rw [updc_ne e] at h; exact ⟨e, h⟩
theorem updc_ne' {c : CMap} {a b : Addr} {k : Cell} {o : Option Cell} (h : b ≠ a) (e : c b = o) : updc c a k b = o := by rw [updc_ne h]; exact e
theorem delc_ne' {c : CMap} {a b : Addr} {o : Option Cell} (h : b ≠ a) (e : c b = o) : delc c a b = o := by rw [delc_ne h]; exact e
theorem sub_p {c c' : CMap} {p : Addr} {k1 k2 : Cell} (h : SubC (updc c p k1) c') : SubC (updc c p k2) (updc c' p k2) := by
  intro b x e
  by_cases z : b = p
  · subst z; rw [updc_same] at e ⊢; exact e
  · rw [updc_ne z] at e ⊢; exact h b x (by rw [updc_ne z]; exact e)
theorem sub_at {c c' : CMap} {p : Addr} {k : Cell} (h : SubC (updc c p k) c') : c' p = some k := h _ _ updc_same
theorem sub_c {c c' : CMap} {p : Addr} {k k0 : Cell} (h : SubC (updc c p k) c') (hp : c p = some k0) : SubC (updc c p k) c' := h
/-- a comprehension by what holds of the list so far and of the other cells -/
theorem comp_invG {G : CMap → Prop} {m : Bool} {step : D → CMap → (Option D → CMap → Prop) → Prop} (hA : c A = none) (P : Nat → List D → CMap → Prop) (hl : ds.length < 16777216) (h0 : P 0 [] c)
    (hs : ∀ (i : Nat) (d : D) (acc : List D) (c : CMap) (k : Option D → CMap → Prop), ds[i]? = some d → P i acc c → c A = none →
      (∀ y c2, c2 A = none → P (i + 1) (acc ++ [y]) c2 → k (some y) (updc c2 A (.lst acc))) → (∀ c2, c2 A = none → P (i + 1) acc c2 → k none (updc c2 A (.lst acc))) → step d (updc c A (.lst acc)) k)
    (hg : ∀ i acc c2, P i acc c2 → c2 A = none → G (updc c2 A (.lst acc))) (hd : ∀ out c2, P ds.length out c2 → c2 A = none → if m = true then Q (.ref A) (updc c2 A (.lst out)) else Q (.lst out) c2) : CompP m step A ds G c Q := by
  refine ⟨fun i c' => ∃ acc c2, c' = updc c2 A (.lst acc) ∧ c2 A = none ∧ acc.length ≤ i ∧ i ≤ ds.length ∧ P i acc c2, ⟨[], c, rfl, hA, Nat.le_refl _, Nat.zero_le _, h0⟩, fun i c' ⟨acc, c2, e1, e2, _, _, e3⟩ => by subst e1; exact hg i acc c2 e3 e2, ?_, ?_⟩
  · rintro i d c' e ⟨acc, c2, rfl, h2, h3, h4, h5⟩
    have hi := (List.getElem?_eq_some_iff.mp e).1
    refine hs i d acc c2 _ e h5 h2 ?_ ?_
    · intro y c4 g1 g2
      exact ⟨acc, updc_same, len_lt (by omega), acc ++ [y], c4, updc_updc, g1, by simp; omega, by omega, g2⟩
    · intro c4 g1 g2
      exact ⟨acc, c4, rfl, g1, by omega, by omega, g2⟩
  · rintro c' ⟨acc, c2, rfl, h2, h3, h4, h5⟩
    refine ⟨acc, updc_same, ?_⟩
    have q := hd acc c2 h5 h2
    cases m with
    | true => rw [if_pos rfl] at q ⊢; exact q
    | false => rw [if_neg (by decide)] at q ⊢; rw [delc_updc h2]; exact q
theorem comp_inv {G : CMap → Prop} [FreeG G] {m : Bool} {step : D → CMap → (Option D → CMap → Prop) → Prop} (hA : c A = none) (P : Nat → List D → CMap → Prop) (hl : ds.length < 16777216) (h0 : P 0 [] c)
    (hs : ∀ (i : Nat) (d : D) (acc : List D) (c : CMap) (k : Option D → CMap → Prop), ds[i]? = some d → P i acc c → c A = none →
      (∀ y c2, c2 A = none → P (i + 1) (acc ++ [y]) c2 → k (some y) (updc c2 A (.lst acc))) → (∀ c2, c2 A = none → P (i + 1) acc c2 → k none (updc c2 A (.lst acc))) → step d (updc c A (.lst acc)) k)
    (hd : ∀ out c2, P ds.length out c2 → c2 A = none → if m = true then Q (.ref A) (updc c2 A (.lst out)) else Q (.lst out) c2) : CompP m step A ds G c Q := comp_invG hA P hl h0 hs (fun _ _ _ _ _ => FreeG.all _) hd
/-- .. whose elements change nothing: what it tells of each -/
theorem comp_map {G : CMap → Prop} [FreeG G] {step : D → CMap → (Option D → CMap → Prop) → Prop} (f : D → Option D) (hA : c A = none) (hl : ds.length < 16777216)
    (hs : ∀ (d : D) (c' : CMap) (k : Option D → CMap → Prop), d ∈ ds → (∀ b x, c b = some x → c' b = some x) → k (f d) c' → step d c' k) (q : Q (.lst (ds.filterMap f)) c) : CompP false step A ds G c Q := by
  refine comp_inv hA (fun i acc c' => c' = c ∧ acc = (ds.take i).filterMap f) hl ⟨rfl, by simp⟩ ?_ ?_
  · rintro i d acc c' k e ⟨rfl, rfl⟩ hA' k1 k2
    refine hs d _ k (List.mem_of_getElem? e) (fun b x h => by rw [updc_ne (ne_some_none h hA')]; exact h) ?_
    have et : (ds.take (i + 1)).filterMap f = (ds.take i).filterMap f ++ (f d).toList := by
      rw [List.take_add_one, e, List.filterMap_append]
      cases h : f d <;> simp [h]
    cases h : f d with
    | some y => exact k1 y _ hA' ⟨rfl, by rw [et, h]; rfl⟩
    | none => exact k2 _ hA' ⟨rfl, by rw [et, h]; simp⟩
  · rintro out c2 ⟨rfl, rfl⟩ _
    rw [if_neg (by decide), List.take_length]
    exact q
/-- what is wanted at a def's end -/
abbrev endD (E : XD) (Q : DK) : DEnds := { nx := fun _ c' => ∃ c2, SubC c2 c' ∧ Q .non c2, rt := fun d c' => ∃ c2, SubC c2 c' ∧ Q d c2, ex := fun cls od _ c' => ∃ c2, SubC c2 c' ∧ E cls od c2 }
end
end DL
/-! the data layer: the defs as the top leaves them; the law's call -/
namespace DL
open PySem PySem.Spec L2
open PyProof.Rows hiding St
theorem fnok_of {GI : Hp → Hp → Prop} {P : Program} {w : World} {K : PySem.W.Frag} {mg : Str → Option Value} {base : Heap} {x qual : Str} {st : Stmt} {f : Addr} {fd : FuncData} {N ps : List Str} {k : Nat} {sp : DSpec} {ws : WS}
    (F : Fun K x qual st f fd) (S : FnScope N ps (defScope st)) (len : ∀ ds c E Q, sp ds c E Q → ds.length = ps.length)
    (body : ∀ (cdv : Value) (A : Around) (outer : List Env) (s : Shared) (H : Hp) (E : XK), Room k (A.deeper (envOfC qual (defScope st) s.heap.objs.size f cdv)) →
      CSs GI (cxOf (L2.CX P w) P w K mg base N qual (defScope st) f cdv A outer s H E) (defBody st) ws)
    (ok : ∀ ds c (E : XD) (Q : DK), sp ds c E Q → ws (endD E Q) (startE N.length ds) c) : FnOk P w K mg base (L2.CX P w) (k + 1) f fd ps (lowSp K GI sp) := by
  refine F.okX S (fun vs H Q E h => ?_) fun cdv A outer s H vs Q E hr h => ?_
  · obtain ⟨G, ds, c, E', Qd, h1, h2, h3, _⟩ := h
    rw [h1.length, len _ _ _ _ h3]
  · obtain ⟨G, ds, c, E', Qd, h1, h2, h3, h4, h5⟩ := h
    refine ⟨_, body cdv A outer s H E hr (fun cls d _ H => E cls d H) ⟨S.nd, takes_of rfl rfl rfl rfl, PassesOwn.leaving⟩, G, _, c, _, RepE.start h1, h2, ok ds c E' Qd h3, ⟨?_, ?_, ?_, ?_, ?_⟩⟩
    · rintro G' env' c' σ' H' l re r ⟨c2, s2, q⟩
      exact h4 G' c2 H' _ _ l (r.sub' s2) .non q
    · rintro G' c' H' v d l r hd ⟨c2, s2, q⟩
      exact h4 G' c2 H' _ _ l (r.sub' s2) hd q
    · rintro G' env' c' σ' H' l re r q
      exact q
    · rintro G' env' c' σ' H' l re r q
      exact q
    · rintro G' env' c' σ' H' cls od l re r ⟨c2, s2, q⟩
      exact h5 G' c2 H' cls od l (r.sub' s2) q
/-- a def as the top leaves it -/
structure DefAt (K : PySem.W.Frag) (x qual : Str) (st : Stmt) (f : Addr) (fd : FuncData) : Prop where
  ns : PySem.W.nsIn K mainGlobals x = some (some (.ref f))
  fn : Fun K x qual st f fd
  at_ : f = He.fAd K (x, none)
/-- .. by the head's facts -/
theorem defAt_of {K : PySem.W.Frag} {fa : List He.Fa} {fn : List He.DefD} {x qual : Str} {st : Stmt} (c : He.SaysD fa fn K) (i j : Nat) (h : fn[i]? = some ⟨(x, none), x, qual, defArgs st, defBody st, defScope st, [], []⟩) (h2 : fa[j]? = some (.glo x)) : ∃ f fd, DefAt K x qual st f fd := by
  obtain ⟨fd, F⟩ := c.def_ i h
  refine ⟨He.ga K x, fd, He.eqO_ok (c.fact j h2), ?_, rfl⟩
  obtain ⟨oc, od, dV, kV, doc, pm, an, cdv, ct, osl, e, lk, hcd, hD, hK⟩ := F.ex
  rcases hD with ⟨_, z⟩ | ⟨z, _⟩
  · subst z
    exact ⟨⟨oc, od, kV, doc, pm, an, cdv, ct, osl, e, lk, hcd⟩, F.kp⟩
  · exact absurd rfl z
theorem free_of {K : PySem.W.Frag} {fa : List He.Fa} {fn : List He.DefD} {x : Str} (c : He.SaysD fa fn K) (j : Nat) (h2 : fa[j]? = some (.free x)) : PySem.W.nsIn K mainGlobals x = some none := He.eqO_ok (c.fact j h2)
theorem glD_int {K : PySem.W.Frag} {h : Heap} {fa : List He.Fa} {fn : List He.DefD} {x : Str} {i : Int} (X : K.In h) (c : He.SaysD fa fn K) (j : Nat) (h2 : fa[j]? = some (.int x i)) (mg : Str → Option Value) (G : h.Ns mainGlobals mg) : GlD K mg x (.int i) := by
  obtain ⟨t, e⟩ := He.int_ok X G (c.fact j h2)
  exact ⟨⟨.int i, _, e, ⟨t, rfl⟩, fun F => .int i⟩⟩
theorem glD_str {K : PySem.W.Frag} {h : Heap} {fa : List He.Fa} {fn : List He.DefD} {x z : Str} (X : K.In h) (c : He.SaysD fa fn K) (j : Nat) (h2 : fa[j]? = some (.str x z)) (mg : Str → Option Value) (G : h.Ns mainGlobals mg) : GlD K mg x (.str z) := by
  obtain ⟨t, e⟩ := He.str_ok X G (c.fact j h2)
  exact ⟨⟨.str z, _, e, ⟨t, rfl⟩, fun F => .str z⟩⟩
section
variable {GI : Hp → Hp → Prop} {P : Program} {w : World} {K : PySem.W.Frag} {mg : Str → Option Value} {base h : Heap} {x qual : Str} {st : Stmt} {f : Addr} {fd : FuncData} {N ps : List Str} {k n : Nat} {sp : DSpec} {ws : WS}
theorem hasG_of (X : K.In h) (G : h.Ns mainGlobals mg) (D : DefAt K x qual st f fd) (hb : Binds K fd ps []) (S : FnScope N ps (defScope st)) (hn : ps.length = n) (len : ∀ ds c E Q, sp ds c E Q → ds.length = ps.length)
    (body : ∀ (cdv : Value) (A : Around) (outer : List Env) (s : Shared) (H : Hp) (E : XK), Room k (A.deeper (envOfC qual (defScope st) s.heap.objs.size f cdv)) →
      CSs GI (cxOf (L2.CX P w) P w K mg base N qual (defScope st) f cdv A outer s H E) (defBody st) ws)
    (ok : ∀ ds c (E : XD) (Q : DK), sp ds c E Q → ws (endD E Q) (startE N.length ds) c) : HasG GI P w K mg base (k + 1) x n sp :=
  ⟨f, PySem.W.mg_of X G D.ns, ⟨fd, ps, hn, D.fn.kp, hb, fnok_of D.fn S len body ok⟩⟩
theorem hasG_void (X : K.In h) (G : h.Ns mainGlobals mg) (D : DefAt K x qual st f fd) (hb : Binds K fd ps []) (hn : ps.length = n) (v : ∀ ds c E Q, ¬ sp ds c E Q) : HasG GI P w K mg base k x n sp := by
  refine ⟨f, PySem.W.mg_of X G D.ns, ⟨fd, ps, hn, D.fn.kp, hb, ⟨fun vs H Q E q => ?_, fun A outer s H args us vs Q E _ _ _ _ q => ?_⟩⟩⟩
  · obtain ⟨_, _, _, _, _, _, _, z, _⟩ := q; exact (v _ _ _ _ z).elim
  · obtain ⟨_, _, _, _, _, _, _, z, _⟩ := q; exact (v _ _ _ _ z).elim
theorem HasG.mono {j : Nat} (h : HasG GI P w K mg base j x n sp) (l : j ≤ k) : HasG GI P w K mg base k x n sp := by
  obtain ⟨f, a, b⟩ := h
  exact ⟨f, a, b.mono l⟩
end
/-- the law's own promise -/
def sp_law : DSpec := fun ds c E Q => ∃ ns : List Int, ds = [.scr ns] ∧ ns.length ≤ 63 ∧ ∀ c', Q (.bl true) c'
theorem law_sp {K : PySem.W.Frag} {H : Hp} {a : Addr} {ns : List Int} (hl : ns.length ≤ 63) (h : SqL K H a (ns.map V.int)) : lowSp K (fun _ _ => True) sp_law [.ref a] H (fun v _ => v = .bl true) fun _ _ _ => False := by
  refine ⟨H, [.scr ns], fun _ => none, fun _ _ _ => False, fun d _ => d = .bl true, .one (.scr h), ⟨Le.rfl', (fun a k e => by cases e), trivial, glob_true⟩, ⟨ns, rfl, hl, fun _ => rfl⟩, ?_, ?_⟩
  · rintro F c H' v d _ _ hd rfl
    exact hd.bl_inv
  · rintro F c H' cls od _ _ q
    exact q
theorem cx_none {P : Program} {w : World} {H : Hp} {s : Shared} {e : Value} {s' : Shared} (h : L2.CX P w [] H s (fun _ _ _ => False) e s') : False := by
  obtain ⟨_, _, _, _, _, _, _, _, _, _, _, _, z⟩ := h
  exact z
theorem code_ref {K : PySem.W.Frag} {v : Value} {q : Str} (h : PySem.W.codeIn K v q = true) : ∃ c, v = .ref c := by
  unfold PySem.W.codeIn at h
  split at h
  · exact ⟨_, rfl⟩
  · cases h
/-- .. a def that makes functions: its code object is named -/
theorem fnok_ofC {GI : Hp → Hp → Prop} {P : Program} {w : World} {K : PySem.W.Frag} {mg : Str → Option Value} {base : Heap} {x qual : Str} {st : Stmt} {f : Addr} {fd : FuncData} {N ps : List Str} {k : Nat} {sp : DSpec} {ws : WS}
    (F : Fun K x qual st f fd) (hf : f = He.fAd K (x, none)) (S : FnScope N ps (defScope st)) (len : ∀ ds c E Q, sp ds c E Q → ds.length = ps.length)
    (body : ∀ (A : Around) (outer : List Env) (s : Shared) (H : Hp) (E : XK), Room k (A.deeper (envOfC qual (defScope st) s.heap.objs.size f (.ref (He.codeOf K (x, none))))) →
      CSs GI (cxOf (L2.CX P w) P w K mg base N qual (defScope st) f (.ref (He.codeOf K (x, none))) A outer s H E) (defBody st) ws)
    (ok : ∀ ds c (E : XD) (Q : DK), sp ds c E Q → ws (endD E Q) (startE N.length ds) c) : FnOk P w K mg base (L2.CX P w) (k + 1) f fd ps (lowSp K GI sp) := by
  obtain ⟨oc, od, kV, doc, pm, an, cdv, ct, osl, rfl, lk, hcd⟩ := F.ex
  obtain ⟨c0, rfl⟩ := code_ref hcd
  have hc : He.codeOf K (x, none) = c0 := He.codeOf_eq (by rw [← hf]; exact lk) rfl
  rw [hc] at body
  refine fn_of lk hcd S (fun vs H Q E h => ?_) fun A outer s H vs Q E hr h => ?_
  · obtain ⟨G, ds, c, E', Qd, h1, h2, h3, _⟩ := h
    rw [h1.length, len _ _ _ _ h3]
  · obtain ⟨G, ds, c, E', Qd, h1, h2, h3, h4, h5⟩ := h
    refine ⟨_, body A outer s H E hr (fun cls d _ H => E cls d H) ⟨S.nd, takes_of rfl rfl rfl rfl, PassesOwn.leaving⟩, G, _, c, _, RepE.start h1, h2, ok ds c E' Qd h3, ⟨?_, ?_, ?_, ?_, ?_⟩⟩
    · rintro G' env' c' σ' H' l re r ⟨c2, s2, q⟩
      exact h4 G' c2 H' _ _ l (r.sub' s2) .non q
    · rintro G' c' H' v d l r hd ⟨c2, s2, q⟩
      exact h4 G' c2 H' _ _ l (r.sub' s2) hd q
    · rintro G' env' c' σ' H' l re r q
      exact q
    · rintro G' env' c' σ' H' l re r q
      exact q
    · rintro G' env' c' σ' H' cls od l re r ⟨c2, s2, q⟩
      exact h5 G' c2 H' cls od l (r.sub' s2) q
end DL
/-! the data layer: functions as values -/
namespace DL
open PySem PySem.Spec L2
open PyProof.Rows hiding St

/-! ### a base that knows all that nobody tracks -/
def bas (h : Heap) (H : Hp) (fs : List Addr) : Heap := hidT h (fun b => if b ∈ fs then some (.lst []) else H b)
theorem bas_get {h : Heap} {H : Hp} {fs : List Addr} {b : Addr} {o : Obj} (e : h.get? b = some o) (n : H b = none) (hf : b ∉ fs) : (bas h H fs).get? b = some o := hidT_get e (by rw [if_neg hf]; exact n)
theorem of_bas {h : Heap} {H : Hp} {fs : List Addr} {b : Addr} {o : Obj} (e : (bas h H fs).get? b = some o) : h.get? b = some o ∧ H b = none ∧ b ∉ fs := by
  obtain ⟨e1, e2⟩ := of_hidT e
  by_cases hf : b ∈ fs
  · rw [if_pos hf] at e2; cases e2
  · rw [if_neg hf] at e2; exact ⟨e1, e2, hf⟩
theorem bas_size (h : Heap) (H : Hp) (fs : List Addr) : (bas h H fs).objs.size = h.objs.size := hidT_size _ _
theorem mod_up {K : PySem.W.Frag} {mg : Str → Option Value} {B B' : Heap} (m : Mod K mg B) (k : ∀ b o, B.get? b = some o → B'.get? b = some o) : Mod K mg B' := by
  obtain ⟨mb, hb, hbb⟩ := m.blt
  exact ⟨m.kin.keeps k, m.glob.keeps k, ⟨mb, hb.keeps k, hbb⟩, m.nolimit.keeps k⟩
section
variable {P : Program} {w : World} {K : PySem.W.Frag} {mg : Str → Option Value} {B B' : Heap} {A : Around} {outer : List Env} {s : Shared} {H : Hp}
theorem env0_nofr (e : Env0 P w K mg B A outer s H) {b : Addr} {o : Obj} (h : B.get? b = some o) : b ∉ frs outer := fun hb => by
  have := (e.funs.mem hb).1
  rw [h] at this; cases this
theorem env0_sub (e : Env0 P w K mg B A outer s H) : ∀ b o, B.get? b = some o → (bas s.heap H (frs outer)).get? b = some o := fun b o h =>
  bas_get (e.bs b o h).1 (e.bs b o h).2 (env0_nofr e h)
theorem funs_bas : ∀ {l : List Env} {fs : List Addr}, (∀ b ∈ frs l, b ∈ fs) → s.heap.FunFrames B l → s.heap.FunFrames (bas s.heap H fs) l
  | [], _, _, _ => trivial
  | env :: rest, fs, hs, ⟨h1, ⟨L, o, h2, h3, h4, h5⟩, h6⟩ => by
    have hL : L ∈ frs (env :: rest) := by unfold frs; rw [List.filterMap_cons, h2]; exact List.mem_cons_self
    refine ⟨h1, ⟨L, o, h2, ?_, h4, h5⟩, funs_bas (fun b hb => hs b ?_) h6⟩
    · cases q : (bas s.heap H fs).get? L with
      | none => rfl
      | some o => exact absurd (hs L hL) (of_bas q).2.2
    · unfold frs; rw [List.filterMap_cons, h2]; exact List.mem_cons_of_mem _ hb
theorem env0_bas (e : Env0 P w K mg B A outer s H) : Env0 P w K mg (bas s.heap H (frs outer)) A outer s H :=
  ⟨e.frames, mod_up e.mod (env0_sub e), fun b o h => ⟨(of_bas h).1, (of_bas h).2.1⟩, Nat.le_of_eq (bas_size _ _ _), funs_bas (fun b hb => hb) e.funs, e.frf, e.hok, e.bare⟩
theorem funs_down : ∀ {l : List Env}, (∀ b o, B.get? b = some o → B'.get? b = some o) → s.heap.FunFrames B' l → s.heap.FunFrames B l
  | [], _, _ => trivial
  | env :: rest, k, ⟨h1, ⟨L, o, h2, h3, h4, h5⟩, h6⟩ => by
    refine ⟨h1, ⟨L, o, h2, ?_, h4, h5⟩, funs_down k h6⟩
    cases q : B.get? L with
    | none => rfl
    | some o => rw [k _ _ q] at h3; cases h3
theorem env0_down (m : Mod K mg B) (k : ∀ b o, B.get? b = some o → B'.get? b = some o) (hz : B.objs.size ≤ B'.objs.size) (e : Env0 P w K mg B' A outer s H) : Env0 P w K mg B A outer s H :=
  ⟨e.frames, m, fun b o h => e.bs b o (k b o h), Nat.le_trans hz e.bsz, funs_down k e.funs, e.frf, e.hok, e.bare⟩
end
/-! ### a function value over a base -/
structure GoodF (GI : Hp → Hp → Prop) (P : Program) (w : World) (K : PySem.W.Frag) (mg : Str → Option Value) (B : Heap) (k : Nat) (f : Addr) (sp : DSpec) : Prop where
  mod : Mod K mg B
  fn : PySem.W.FnAt f B
  run : ∀ (A : Around) (outer : List Env) (s : Shared) (H : Hp) (us : List Value) (vs : List V) (Q : VK) (E : XK), Room k A → Env0 P w K mg B A outer s H → Vals vs us → lowSp K GI sp vs H Q E →
    codeAny (model P w) A (.call (.ref f) ⟨us, []⟩) (CR (L2.CX P w) outer P w H s Q E) s
section
variable {GI : Hp → Hp → Prop} {P : Program} {w : World} {K : PySem.W.Frag} {mg : Str → Option Value} {B B' : Heap} {k j : Nat} {f : Addr} {sp sp' : DSpec}
theorem GoodF.up (g : GoodF GI P w K mg B k f sp) (h : ∀ b o, B.get? b = some o → B'.get? b = some o) (hz : B.objs.size ≤ B'.objs.size) : GoodF GI P w K mg B' k f sp := by
  refine ⟨mod_up g.mod h, ?_, fun A outer s H us vs Q E hr e0 r q => g.run A outer s H us vs Q E hr (env0_down g.mod h hz e0) r q⟩
  obtain ⟨oc, od, fd, sl, e⟩ := g.fn
  exact ⟨oc, od, fd, sl, h _ _ e⟩
theorem GoodF.mono (g : GoodF GI P w K mg B j f sp) (h : j ≤ k) : GoodF GI P w K mg B k f sp := ⟨g.mod, g.fn, fun A outer s H us vs Q E hr => g.run A outer s H us vs Q E (hr.mono h)⟩
theorem GoodF.imp (g : GoodF GI P w K mg B k f sp) (h : ∀ ds c E Q, sp' ds c E Q → sp ds c E Q) : GoodF GI P w K mg B k f sp' := by
  refine ⟨g.mod, g.fn, fun A outer s H us vs Q E hr e0 r q => g.run A outer s H us vs Q E hr e0 r ?_⟩
  obtain ⟨F, ds, c, E', Qd, h1, h2, h3, h4⟩ := q
  exact ⟨F, ds, c, E', Qd, h1, h2, h _ _ _ _ h3, h4⟩
end
/-- what the known function values promise -/
abbrev FEnv := Addr → Option DSpec
def GoodP (GI : Hp → Hp → Prop) (P : Program) (w : World) (K : PySem.W.Frag) (mg : Str → Option Value) (B : Heap) (k : Nat) (Φ : FEnv) : Prop := ∀ f sp, Φ f = some sp → GoodF GI P w K mg B k f sp
def callF (Φ : FEnv) (d : D) (ds : List D) (c : CMap) (E : XD) (Q : DK) : Prop := ∃ f sp, d = .ref f ∧ Φ f = some sp ∧ sp ds c E Q
/-- x(..), x a name of the def that holds such a value -/
def wCallV (Φ : FEnv) (i : Nat) (r : WA) : WE := fun E env c Q => ∃ d, getE env i = some d ∧ (∃ f sp, d = .ref f ∧ Φ f = some sp) ∧ r E env c fun ds c1 => callF Φ d ds c1 E Q
section
variable {GI : Hp → Hp → Prop} {X : Cx} {x : Str} {p pos : Pos} {e : Expr} {es : List Expr} {wr : WA} {k : Nat} {Φ : FEnv}
theorem ce_callV (i : Nat) (hΦ : GoodP GI X.prog X.w X.K X.mg X.base k Φ) (hr : Room k X.A) (ha : CA GI X (e :: es) wr) (hN : X.N[i]? = some x := by rfl) (hv : Vis X.env.scope x := by first | exact Or.inl rfl | exact Or.inr (.inl rfl) | exact Or.inr (.inr rfl))
    (hd : (x == ("__debug__" : Str)) = false := by decide) (hcd : (x == ("__classdict__" : Str)) = false := by decide)
    (he : starEach (e :: es) X.env = (false, eval e X.env) :: starEach es X.env := by rfl) (hpl : (backTo pos (starEach es X.env)).any (·.1) = false := by rfl) : CE GI X (.Call (.Name x p) (e :: es) [] pos) (wCallV Φ i wr) := fun W xo => by
  refine ⟨fun pins s σ H Q I h => ?_⟩
  obtain ⟨F, env, c, E, Qd, re, rp, lx, q, kk⟩ := h
  obtain ⟨d, hd1, ⟨f, sp, rfl, hf⟩, q⟩ := q
  have G := hΦ f sp hf
  obtain ⟨v, hs, hv1⟩ := re.val i (.ref f) (getE_at hd1)
  obtain rfl := hv1.ref_inv
  refine wpAny_Call_Name_kw (thn ((pe_var (pos := p) hN hv hd hcd).run pins s σ H (fun v H1 => v = .ref f ∧ H1 = H) I ⟨.ref f, hs, rfl, rfl⟩) fun u s1 ⟨v, H1, I1, r1, q1⟩ => ?_)
  obtain ⟨ev, eH⟩ := q1
  subst ev
  rw [eH] at I1
  obtain rfl : u = Value.ref f := r1
  have fnat : ∀ {σ : L2.St} {H : Hp} {s : Shared} {pins}, Inv X pins σ H s → PySem.W.FnAt f s.heap := fun J => by
    obtain ⟨oc, od, fd, sl, e⟩ := G.fn
    exact ⟨oc, od, fd, sl, (J.bs _ _ e).1⟩
  refine PySem.W.callWith_F (first := []) (fnat I1) (thn ((ha W xo).run pos pins s1 σ H (fun vs H2 => ∃ F2 ds c2, Le F F2 ∧ Rep X.K GI F2 c2 H2 ∧ DVs X.K F2 vs ds ∧ callF Φ (.ref f) ds c2 E Qd) I1 ⟨F, env, c, E, _, re, rp, lx, q, fun F' c' H' vs ds l r' h' q' => ⟨F', ds, c', l, r', h', q'⟩⟩) fun us s2 ⟨vs, H2, I2, r, F2, ds, c2, l2, rp2, hds, f', sp', e1, e2, q2⟩ => ⟨fnat I2, ?_⟩) he hpl
  cases e1
  rw [hf] at e2
  cases e2
  show wpAny _ _ (call (.ref f) us) _ _ _
  refine wpAny_call (codeAny_mono (G.run X.A X.stack s2 H2 us vs Q (fun cls d H' => W cls d σ H') hr I2.env0 r ⟨F2, ds, c2, E, Qd, hds, rp2, q2, kk.le l2, fun F' c' H' cls od l' r' hE => lx F' c' H' cls od (l2.trans' l') r' hE⟩) fun r3 s' hq => ?_)
  cases r3 with
  | error e => exact passAt xo.tk σ pins H2 s2 e s' I2 hq
  | ok fl =>
    cases fl with
    | ret u => exact I2.after hq
    | next => exact False.elim hq
    | brk => exact False.elim hq
    | cont => exact False.elim hq
end
/-! ### a lambda by its body -/
open NdefX in
/-- what the captured cells hold, in a base -/
structure CellsB (cl : List (Str × Addr)) (fr : List Str) (ws : List (Option V)) (B : Heap) : Prop where
  len : ws.length = fr.length
  all : ∀ y c, cl.lookup y = some c → ∃ v, B.IsCell c v
  inj : ∀ x y c, cl.lookup x = some c → cl.lookup y = some c → x = y
  has : ∀ (i : Nat) (y : Str), fr[i]? = some y → ∃ c, cl.lookup y = some c ∧ ∀ v, ws[i]? = some (some v) → ∃ u, L2.RelV v u ∧ B.IsCell c (some u)
theorem CellsB.at {P : Program} {w : World} {K : PySem.W.Frag} {mg : Str → Option Value} {B : Heap} {A : Around} {outer : List Env} {s : Shared} {H : Hp} {cl : List (Str × Addr)} {fr : List Str} {ws : List (Option V)} (C : CellsB cl fr ws B) (e : Env0 P w K mg B A outer s H) : NdefX.CellsAt cl fr ws s.heap H := by
  have up : ∀ {c v}, B.IsCell c v → s.heap.IsCell c v := fun ⟨o, ho, hd⟩ => ⟨o, (e.bs _ _ ho).1, hd⟩
  refine ⟨C.len, fun y c h => ?_, C.inj, fun i y h => ?_⟩
  · obtain ⟨v, o, ho, hd⟩ := C.all y c h
    exact ⟨(e.bs _ _ ho).2, v, up ⟨o, ho, hd⟩⟩
  · obtain ⟨c, h1, h2⟩ := C.has i y h
    exact ⟨c, h1, fun v hv => let ⟨u, r, z⟩ := h2 v hv; ⟨u, r, up z⟩⟩
def startL (n : Nat) (ds : List D) (cs : DEnv) : DEnv := ds.map some ++ (cs ++ List.replicate (n - ds.length - cs.length) none)
/-- captured data: where a value is known, its data -/
def CapD (K : PySem.W.Frag) (F : Hp) (ws : List (Option V)) (cs : DEnv) : Prop := ws.length = cs.length ∧ ∀ (i : Nat) (d : D), cs[i]? = some (some d) → ∃ v, ws[i]? = some (some v) ∧ DV K F v d
theorem CapD.le {K : PySem.W.Frag} {F F' : Hp} {ws : List (Option V)} {cs : DEnv} (h : CapD K F ws cs) (l : Le F F') : CapD K F' ws cs := ⟨h.1, fun i d e => let ⟨v, h1, h2⟩ := h.2 i d e; ⟨v, h1, h2.le l⟩⟩
theorem RepE.lam {K : PySem.W.Frag} {F : Hp} {N : List Str} {vs : List V} {ds : List D} {ws : List (Option V)} {cs : DEnv} (h : DVs K F vs ds) (c : CapD K F ws cs) : RepE K F (startL N.length ds cs) (NdefX.startF N vs ws) := by
  unfold startL NdefX.startF
  have hl := h.length
  refine ⟨by simp [hl, c.1], fun i d e => ?_⟩
  by_cases q : i < ds.length
  · rw [List.getElem?_append_left (by simpa using q), List.getElem?_map] at e
    cases z : ds[i]? with
    | none => rw [z] at e; cases e
    | some x =>
      rw [z] at e
      simp only [Option.map_some, Option.some.injEq] at e
      subst e
      obtain ⟨v, h1, h2⟩ := h.at i z
      exact ⟨v, by rw [List.getElem?_append_left (by simp; omega), List.getElem?_map, h1]; rfl, h2⟩
  · rw [List.getElem?_append_right (by simp; omega)] at e
    by_cases q2 : i - ds.length < cs.length
    · rw [List.length_map, List.getElem?_append_left q2] at e
      obtain ⟨v, h1, h2⟩ := c.2 _ _ e
      refine ⟨v, ?_, h2⟩
      rw [List.getElem?_append_right (by simp; omega), List.length_map, hl, List.getElem?_append_left (by rw [c.1]; exact q2)]
      exact h1
    · rw [List.length_map, List.getElem?_append_right (by omega), List.getElem?_replicate] at e
      split at e <;> cases e
def spLam (n m : Nat) (we : WE) (cs : DEnv) : DSpec := fun ds c E Q => ds.length = m ∧ we E (startL n ds cs) c (wkQ Q)
open NdefX in
theorem good_lam {GI : Hp → Hp → Prop} {P : Program} {w : World} {K : PySem.W.Frag} {mg : Str → Option Value} {B : Heap} {k : Nat} {f c' : Addr} {qual : Str} {params : Arguments} {body : Expr} {scope : Scope} {cl : List (Str × Addr)} {pm ctv : Value} {N ps fr : List Str} {F0 : Hp} {ws : List (Option V)} {cs : DEnv} {we : WE}
    (S : NScope N ps fr scope) (mod : Mod K mg B) (hf : B.get? f = some (PySem.W.kla_obj "<lambda>" qual params body scope cl pm c' ctv)) (hc : F0 c' = some (LamX.CodeO c' qual))
    (hb : ∀ (us : List Value), us.length = ps.length → bindArgs (PySem.W.kla_fn "<lambda>" qual params body scope cl pm (.ref c') ctv) ⟨us, []⟩ = pure (ps.zip us)) (C : CellsB cl fr ws B) (cd : CapD K F0 ws cs) (hG : ∀ F H, GI F H → Le F0 F)
    (hbody : ∀ (A : Around) (outer : List Env) (s : Shared) (H : Hp) (E : XK), Room k (A.deeper (envF ⟨"<lambda>", qual, params, [], scope, cl, c'⟩ f s.heap.objs.size)) → CE GI (ncx (L2.CX P w) P w K mg B N ⟨"<lambda>", qual, params, [], scope, cl, c'⟩ f A outer s H E) body we) :
    GoodF GI P w K mg B (k + 1) f (spLam N.length ps.length we cs) := by
  refine ⟨mod, ⟨_, _, _, _, hf⟩, fun A outer s H us vs Q E hr e0 r hsp => ?_⟩
  obtain ⟨F, ds, c, E', Qd, h1, h2, ⟨hl, h3⟩, h4, h5⟩ := hsp
  have hvl : vs.length = ps.length := by rw [h1.length]; exact hl
  have lim : s.heap.NoLimit := e0.mod.nolimit.keeps fun b o e => (e0.bs b o e).1
  have hcr : s.heap.CodeRec (.ref c') qual := codeO_at e0.hok (h2.sub _ _ (hG _ _ h2.gi _ _ hc))
  refine PySem.W.kla_callFunE hr.depth (e0.bs _ _ hf).1 rfl S.co S.gen rfl hcr ?_
  rw [hb us (by rw [← r.length]; exact hvl)]
  refine wpAny_pure (wpAny_newFunctionEnv S.nocell (fun ⟨n, _⟩ hy => S.par n (List.of_mem_zip hy).1) (fun h₁ hns hsb => ⟨lim.fresh _ hsb, ?_⟩) S.kind)
  show codeAny _ _ (.expr body (envF ⟨"<lambda>", qual, params, [], scope, cl, c'⟩ f s.heap.objs.size)) _ _
  have kp : ∀ b o, s.heap.get? b = some o → h₁.get? b = some o := fun b o e => hsb.extBut b o (Nat.ne_of_lt (Heap.lt_size e)) (Heap.get?_push_of_some _ e)
  have I : L2.Inv (ncx (L2.CX P w) P w K mg B N ⟨"<lambda>", qual, params, [], scope, cl, c'⟩ f A outer s H E) [] (startF N vs ws) H { s with heap := h₁, toks := s.toks + (ps.zip us).length } := inv_startN (F := ⟨"<lambda>", qual, params, [], scope, cl, c'⟩) S hr.hd e0 hvl r (C.at e0) hns kp
  have hp := hbody A outer s H E (hr.deeper _) (fun cls d _ H => E cls d H) ⟨S.nd, takes_of rfl rfl rfl rfl, PassesOwn.leaving⟩
  refine PySem.W.kla_codeExpr (wpAny_mono (hp.run [] _ _ H Q I ⟨F, _, c, E', _, RepE.lam h1 (cd.le (hG _ _ h2.gi)), h2, fun F' c' H' cls od l r q => h5 F' c' H' cls od l r q, h3, fun F' c' H' v d l r hd ⟨c2, s2, q⟩ => h4 F' c2 H' v d l (r.sub' s2) hd q⟩) (fun v s' hq => ?_) fun e s' hq => hq)
  obtain ⟨w', H', J', rv, q⟩ := hq
  exact ⟨w', H', J'.os, J'.bare, J'.base, J'.hok, rv, q⟩
/-! ### tables of code objects, and what was known when a lambda was made -/
structure LamG (GI : Hp → Hp → Prop) (T : List (Addr × Str)) : Prop where
  gg : Glob GI
  tabs : ∀ F H, GI F H → LamX.Tabs T H
  notbl : ∀ F H, GI F H → ∀ b ps, F b ≠ some (.tbl ps)
  step : ∀ F H H1, GI F H → LamX.ExtN H H1 → LamX.Tabs T H1 → GI F H1
  code : ∀ F H c q, GI F H → Le F H → H c = some (LamX.CodeO c q) → GI (upd F c (LamX.CodeO c q)) H
theorem Le.updC {F H : Hp} {c : Addr} {o : HO} (l : Le F H) (h : H c = some o) : Le F (upd F c o) := fun a u e => by
  by_cases z : a = c
  · subst z; have := l _ _ e; rw [h] at this; cases this; exact upd_same
  · rw [upd_ne z]; exact e
theorem lamG_add {GI : Hp → Hp → Prop} {T : List (Addr × Str)} (g : LamG GI T) (F0 : Hp) : LamG (fun F H => GI F H ∧ Le F0 F) T where
  gg := ⟨fun F H p o h n => ⟨g.gg.new F H p o h.1 n, h.2⟩, fun F H p o h f n nt => ⟨g.gg.newF F H p o h.1 f n nt, h.2.trans' (Le.new f)⟩, fun F H p o h m => ⟨g.gg.wr F H p o h.1 m, h.2⟩, fun F H p o h f e nt => ⟨g.gg.frz F H p o h.1 f e nt, h.2.trans' (Le.new f)⟩⟩
  tabs := fun F H h => g.tabs F H h.1
  notbl := fun F H h => g.notbl F H h.1
  step := fun F H H1 h e t => ⟨g.step F H H1 h.1 e t, h.2⟩
  code := fun F H c q h l e => ⟨g.code F H c q h.1 l e, h.2.trans' (l.updC e)⟩
theorem GoodF.add {GI : Hp → Hp → Prop} {P : Program} {w : World} {K : PySem.W.Frag} {mg : Str → Option Value} {B : Heap} {k : Nat} {f : Addr} {sp : DSpec} {F0 : Hp} (gg : Glob GI) (g : GoodF GI P w K mg B k f sp) : GoodF (fun F H => GI F H ∧ Le F0 F) P w K mg B k f sp := by
  refine ⟨g.mod, g.fn, fun A outer s H us vs Q E hr e0 r q => g.run A outer s H us vs Q E hr e0 r ?_⟩
  obtain ⟨F, ds, c, E', Qd, h1, h2, h3, h4, h5⟩ := q
  have up : ∀ {F' c' H'}, Le F F' → Rep K GI F' c' H' → Rep K (fun F H => GI F H ∧ Le F0 F) F' c' H' := fun l r => ⟨r.sub, r.cel, ⟨r.gi, h2.gi.2.trans' l⟩, h2.gg⟩
  exact ⟨F, ds, c, E', Qd, h1, ⟨h2.sub, h2.cel, h2.gi.1, gg⟩, h3, fun F' c' H' v d l r => h4 F' c' H' v d l (up l r), fun F' c' H' cls od l r => h5 F' c' H' cls od l (up l r)⟩
theorem rep_add {GI : Hp → Hp → Prop} {K : PySem.W.Frag} {T : List (Addr × Str)} {F F0 H : Hp} {c : CMap} (LG : LamG GI T) (r : Rep K GI F c H) (l : Le F0 F) : Rep K (fun F H => GI F H ∧ Le F0 F) F c H := ⟨r.sub, r.cel, ⟨r.gi, l⟩, (lamG_add LG F0).gg⟩
theorem rep_sub {GI : Hp → Hp → Prop} {K : PySem.W.Frag} {T : List (Addr × Str)} {F F0 H : Hp} {c : CMap} (LG : LamG GI T) (r : Rep K (fun F H => GI F H ∧ Le F0 F) F c H) : Rep K GI F c H := ⟨r.sub, r.cel, r.gi.1, LG.gg⟩
theorem cell_kind {K : PySem.W.Frag} {F : Hp} {o : HO} {k : Cell} (h : CellR K F o k) : (∀ ps, o ≠ .tbl ps) ∧ ∀ φ, o ≠ .ext φ := by
  cases k with
  | lst ds => obtain ⟨vs, rfl, _⟩ := h; exact ⟨fun _ z => (by cases z), fun _ z => (by cases z)⟩
  | dK kvs => obtain ⟨vs, rfl, _⟩ := h; exact ⟨fun _ z => (by cases z), fun _ z => (by cases z)⟩
  | dT kvs => obtain ⟨vs, rfl, _⟩ := h; exact ⟨fun _ z => (by cases z), fun _ z => (by cases z)⟩
  | set S n => obtain rfl := h; exact ⟨fun _ z => (by cases z), fun _ z => (by cases z)⟩
  | ins C fs => obtain ⟨dx, vs, rfl, _⟩ := h; exact ⟨fun _ z => (by cases z), fun _ z => (by cases z)⟩
  | xd fs => obtain ⟨vs, rfl, _⟩ := h; exact ⟨fun _ z => (by cases z), fun _ z => (by cases z)⟩
  | raw u => obtain ⟨rfl, ⟨a, b, rfl⟩ | ⟨oe, x, rfl⟩⟩ := h <;> exact ⟨fun _ z => (by cases z), fun _ z => (by cases z)⟩
  | fK w us kvs => obtain ⟨rfl, _⟩ := h; exact ⟨fun _ z => (by cases z), fun _ z => (by cases z)⟩
  | fT w us kvs => obtain ⟨rfl, _⟩ := h; exact ⟨fun _ z => (by cases z), fun _ z => (by cases z)⟩
/-- behind the making of a lambda: its code object is known for ever -/
theorem rep_lam {GI : Hp → Hp → Prop} {K : PySem.W.Frag} {T : List (Addr × Str)} {F H H1 : Hp} {c : CMap} {c' : Addr} {q : Str} (LG : LamG GI T) (r : Rep K GI F c H) (e : LamX.ExtN H H1) (t : LamX.Tabs T H1) (hc : H1 c' = some (LamX.CodeO c' q)) :
    Rep K GI (upd F c' (LamX.CodeO c' q)) c H1 ∧ Le F (upd F c' (LamX.CodeO c' q)) := by
  have l1 : Le F H1 := fun b o h => e b o (r.sub _ _ h) (fun ps z => LG.notbl _ _ r.gi b ps (by rw [h, z]))
  refine ⟨⟨fun a u z => ?_, fun a k z => ?_, LG.code _ _ _ _ (LG.step _ _ _ r.gi e t) l1 hc, LG.gg⟩, l1.updC hc⟩
  · by_cases y : a = c'
    · subst y; rw [upd_same] at z; rw [← z]; exact hc
    · rw [upd_ne y] at z; exact l1 _ _ z
  · obtain ⟨f0, o, h0, hr⟩ := r.cel a k z
    obtain ⟨k1, k2⟩ := cell_kind hr
    have h1 := e a o h0 k1
    have y : a ≠ c' := fun y => by subst y; rw [hc] at h1; exact k2 _ (Option.some.inj h1).symm
    exact ⟨by rw [upd_ne y]; exact f0, o, h1, hr.le (l1.updC hc)⟩
/-! ### x(.., lambda) -/
section
variable {X : Cx} {pins : List (Addr × Obj)} {σ : L2.St} {H : Hp} {s : Shared}
theorem cell_nofr (I : L2.Inv X pins σ H s) {y : Str} {c : Addr} (hfn : X.fn y = true) (e : X.env.cells.lookup y = some c) : c ∉ frs X.stack := by
  have ho : c ∉ frs X.outer := fun hb => by
    obtain ⟨_, o, h, _⟩ := I.ok.funs.mem hb
    exact absurd (Heap.lt_size h) (Nat.not_lt.mpr (I.ok.cab y c hfn e))
  rcases I.ok.stk with h | ⟨h, hf⟩
  · rw [h]; exact ho
  · rw [h]
    intro hb
    unfold frs at hb
    rw [List.filterMap_cons, hf] at hb
    rcases List.mem_cons.mp hb with z | z
    · obtain ⟨v, o, h1, h2⟩ := I.cell y c e
      obtain ⟨m, ⟨o2, es, ep, h3, h4, _⟩, _⟩ := I.loc
      rw [← z, h1] at h3
      cases h3
      rw [h2] at h4
      cases h4
    · exact ho z
/-- the lambda that was made -/
def LamAt (X : Cx) (params : Arguments) (body : Expr) (scope : Scope) (f c' : Addr) (s : Shared) : Prop := ∃ pm ctv, s.heap.get? f = some (PySem.W.kla_obj "<lambda>" (X.env.qual ++ "<lambda>") params body scope (cloFrom X.env.cells scope.names []) pm c' ctv)
abbrev TAL := L2.St → Hp → (List V → Addr → Addr → Hp → Prop) → Prop
structure PAL (X : Cx) (params : Arguments) (body : Expr) (scope : Scope) (es : List Expr) (t : TAL) : Prop where
  run : ∀ (pos : Pos) (pins : List (Addr × Obj)) (s : Shared) (σ : L2.St) (H : Hp) (Q : List V → Addr → Addr → Hp → Prop), L2.Inv X pins σ H s → t σ H Q → wpAny (model X.prog X.w) X.A (spliced (backTo pos (starEach es X.env)))
    (fun us s' => ∃ us0 vs f c' H', us = us0 ++ [.ref f] ∧ L2.Inv X pins σ H' s' ∧ Vals vs us0 ∧ LamAt X params body scope f c' s' ∧ H' f = none ∧ f ∉ frs X.stack ∧ Q vs f c' H') X.xe s
end
section
variable {X : Cx} {params : Arguments} {body : Expr} {scope : Scope} {lpos : Pos} {T : List (Addr × Str)} {c P : Addr}
theorem pal_last (TB : LamX.TabB X.base X.mg c P) (hcode : X.env.code = .ref c) (hm : (P, X.env.qual ++ "<lambda>") ∈ T) (hu : ∀ p ∈ T, p.1 = P → p.2 = X.env.qual ++ "<lambda>") (hdef : defaultsOf params X.env = ([], []))
    (hfree : ∀ y ∈ scope.names, y.2 = .free → X.env.scope.names.lookup y.1 = some .cell ∨ X.env.scope.names.lookup y.1 = some .free) :
    PAL X params body scope [.Lambda params body scope lpos] (fun σ H Q => LamX.Tabs T H ∧ ∀ f c' H1, LamX.ExtN H H1 → LamX.Tabs T H1 → H1 c' = some (LamX.CodeO c' (X.env.qual ++ "<lambda>")) → Q [] f c' H1) := by
  refine ⟨fun pos pins s σ H Q I h => ?_⟩
  obtain ⟨hT, h⟩ := h
  show wpAny _ _ (spliced ((false, eval (.Lambda params body scope lpos) X.env) :: backTo pos (starEach [] X.env))) _ _ s
  refine Calls.spliced_cons (LamX.lam_make2 I TB hcode hm hu hT hdef (fun y hy e => (hfree y hy e).elim (fun z => I.ok.has _ (.inl z)) fun z => I.ok.has _ (.inr z)) fun f c' pm' ctv H1 s' I1 eN T1 hf hfn hfr hco => ?_)
  exact Calls.spliced_nil ⟨[], [], f, c', H1, rfl, I1, .nil, ⟨pm', ctv, hf⟩, hfn, hfr, h f c' H1 eN T1 hco⟩
theorem pal_cons {e : Expr} {es : List Expr} {te : TE} {t : TAL} (ha : PE X e te) (hr : PAL X params body scope es t) (hs : starEach (e :: es) X.env = (false, eval e X.env) :: starEach es X.env) :
    PAL X params body scope (e :: es) (fun σ H Q => te σ H fun x H1 => t σ H1 fun vs f c' H2 => Q (x :: vs) f c' H2) := by
  refine ⟨fun pos pins s σ H Q I h => ?_⟩
  rw [hs]
  show wpAny _ _ (spliced ((false, eval e X.env) :: backTo pos (starEach es X.env))) _ _ s
  refine Calls.spliced_cons (thn (ha.run pins s σ H _ I h) fun u s1 ⟨x, H1, I1, r1, q1⟩ => ?_)
  exact thn (hr.run pos pins s1 σ H1 _ I1 q1) fun us s2 ⟨us0, vs, f, c', H', e1, I2, r2, g1, g2, g3, q2⟩ => ⟨u :: us0, x :: vs, f, c', H', by rw [e1]; rfl, I2, .cons r1 r2, g1, g2, g3, q2⟩
end
def lowAL (K : PySem.W.Frag) (GI : Hp → Hp → Prop) (q : Str) (W : WX) (wa : WA) : TAL := fun σ H Q => ∃ F env c E Qd, RepE K F env σ ∧ Rep K GI F c H ∧ LX K GI W F σ E ∧ wa E env c Qd ∧
  ∀ F' c1 H' vs ds f c', Le F F' → Rep K GI F' c1 H' → F' c' = some (LamX.CodeO c' q) → DVs K F' vs ds → Qd ds c1 → Q vs f c' H'
def CAL (GI : Hp → Hp → Prop) (X : Cx) (params : Arguments) (body : Expr) (scope : Scope) (es : List Expr) (wa : WA) : Prop := ∀ W, XOk X W → PAL X params body scope es (lowAL X.K GI (X.env.qual ++ "<lambda>") W wa)
theorem pal_imp {X : Cx} {params : Arguments} {body : Expr} {scope : Scope} {es : List Expr} {t t' : TAL} (h : PAL X params body scope es t) (k : ∀ σ H Q, t' σ H Q → t σ H Q) : PAL X params body scope es t' := ⟨fun pos pins s σ H Q I q => h.run pos pins s σ H Q I (k _ _ _ q)⟩
section
variable {GI : Hp → Hp → Prop} {X : Cx} {params : Arguments} {body : Expr} {scope : Scope} {lpos : Pos} {T : List (Addr × Str)} {c P : Addr} {e : Expr} {es : List Expr} {wa : WE} {wr : WA}
theorem cal_last (LG : LamG GI T) (TB : LamX.TabB X.base X.mg c P) (hcode : X.env.code = .ref c) (hm : (P, X.env.qual ++ "<lambda>") ∈ T) (hu : ∀ p ∈ T, p.1 = P → p.2 = X.env.qual ++ "<lambda>") (hdef : defaultsOf params X.env = ([], []))
    (hfree : ∀ y ∈ scope.names, y.2 = .free → X.env.scope.names.lookup y.1 = some .cell ∨ X.env.scope.names.lookup y.1 = some .free) : CAL GI X params body scope [.Lambda params body scope lpos] wNil := fun W x => by
  refine pal_imp (pal_last TB hcode hm hu hdef hfree) ?_
  rintro σ H Q ⟨F, env, c, E, Qd, re, r, lx, q, k⟩
  refine ⟨LG.tabs _ _ r.gi, fun f c' H1 eN T1 hco => ?_⟩
  obtain ⟨r1, l1⟩ := rep_lam LG r eN T1 hco
  exact k _ c H1 [] [] f c' l1 r1 upd_same .nil q
theorem cal_cons (ha : CE GI X e wa) (hr : CAL GI X params body scope es wr) (hs : starEach (e :: es) X.env = (false, eval e X.env) :: starEach es X.env := by rfl) : CAL GI X params body scope (e :: es) (wCons wa wr) := fun W x => by
  refine pal_imp (pal_cons (ha W x) (hr W x) hs) ?_
  rintro σ H Q ⟨F, env, c, E, Qd, re, r, lx, q, k⟩
  refine ⟨F, env, c, E, _, re, r, lx, q, ?_⟩
  intro F1 c1 H1 v1 d1 l1 r1 h1 q1
  refine ⟨F1, env, c1, E, _, re.le l1, r1, lx.le l1, q1, ?_⟩
  intro F2 c2 H2 vs ds f c' l2 r2 hc h2 q2
  exact k F2 c2 H2 _ _ f c' (l1.trans' l2) r2 hc (.cons (h1.le l2) h2) q2
end
def addF (Φ : FEnv) (f : Addr) (sp : DSpec) : FEnv := fun a => if a = f then some sp else Φ a
def wCallL (S : FEnv → DSpec) (Φ : FEnv) (lam : DEnv → DSpec) (r : WA) : WE := fun E env c Q => r E env c fun ds c1 => ∀ f, S (addF Φ f (lam env)) (ds ++ [.ref f]) c1 E Q
section
variable {GI : Hp → Hp → Prop} {X : Cx} {x : Str} {p pos : Pos} {params : Arguments} {body : Expr} {scope : Scope} {T : List (Addr × Str)} {e : Expr} {es : List Expr} {wr : WA} {S : FEnv → DSpec} {Φ : FEnv} {k kl kb kf n : Nat} {N ps fr : List Str} {js : List Nat} {we : WE}
theorem ce_lamarg (LG : LamG GI T) (hx : ∀ (B : Heap) (F0 : Hp) (Φ' : FEnv), Mod X.K X.mg B → (∀ b o, X.base.get? b = some o → B.get? b = some o) → GoodP (fun F H => GI F H ∧ Le F0 F) X.prog X.w X.K X.mg B kl Φ' → HasG (fun F H => GI F H ∧ Le F0 F) X.prog X.w X.K X.mg B k x n (S Φ'))
    (hΦ : GoodP GI X.prog X.w X.K X.mg X.base kf Φ) (hkf : kf ≤ kl) (hkb : kb + 1 ≤ kl) (hr : Room k X.A) (ha : CAL GI X params body scope (e :: es) wr) (Sc : NdefX.NScope N ps fr scope) (hjs : js.map (fun j => X.N[j]?) = fr.map some)
    (hfree : ∀ y ∈ scope.names, y.2 = .free → X.env.scope.names.lookup y.1 = some .cell ∨ X.env.scope.names.lookup y.1 = some .free) (hfr : ∀ y ∈ fr, (y, NameKind.free) ∈ scope.names) (hfn : ∀ y ∈ scope.names, y.2 = .free → X.fn y.1 = true)
    (hbind : ∀ (q : Str) (cl : List (Str × Addr)) (pm cv ctv : Value) (us : List Value), us.length = ps.length → bindArgs (PySem.W.kla_fn "<lambda>" q params body scope cl pm cv ctv) ⟨us, []⟩ = pure (ps.zip us))
    (hbody : ∀ (B : Heap) (F0 : Hp) (f c' : Addr) (cl : List (Str × Addr)) (A : Around) (outer : List Env) (s : Shared) (H : Hp) (E : XK), GoodP (fun F H => GI F H ∧ Le F0 F) X.prog X.w X.K X.mg B kf Φ →
      Room kb (A.deeper (NdefX.envF ⟨"<lambda>", X.env.qual ++ "<lambda>", params, [], scope, cl, c'⟩ f s.heap.objs.size)) → CE (fun F H => GI F H ∧ Le F0 F) (NdefX.ncx (L2.CX X.prog X.w) X.prog X.w X.K X.mg B N ⟨"<lambda>", X.env.qual ++ "<lambda>", params, [], scope, cl, c'⟩ f A outer s H E) body we)
    (hg : Gl X x := by rfl) (hdb : (x == ("__debug__" : Str)) = false := by decide)
    (he : starEach (e :: es) X.env = (false, eval e X.env) :: starEach es X.env := by rfl) (hpl : (backTo pos (starEach es X.env)).any (·.1) = false := by rfl) :
    CE GI X (.Call (.Name x p) (e :: es) [] pos) (wCallL S Φ (fun env => spLam N.length ps.length we (js.map (getE env))) wr) := fun W xo => by
  refine ⟨fun pins s σ H Q I h => ?_⟩
  obtain ⟨F, env, c, E, Qd, re, rp, lx, q, kk⟩ := h
  obtain ⟨fx, hmx, ⟨_, _, _, hkx, _, _⟩⟩ := hx X.base (fun _ => none) (fun _ => none) I.ok.mod (fun _ _ z => z) (fun _ _ z => nomatch z)
  refine wpAny_Call_Name_kw (ld_glob I hg hmx ?_ hdb)
  refine PySem.W.callWith_K (h₀ := X.base) I.ok.mod.kin hkx (thn ((ha W xo).run pos pins s σ H (fun vs f c' H2 => ∃ F2 ds c2, Le F F2 ∧ Rep X.K GI F2 c2 H2 ∧ F2 c' = some (LamX.CodeO c' (X.env.qual ++ "<lambda>")) ∧ DVs X.K F2 vs ds ∧
      ∀ f, S (addF Φ f (spLam N.length ps.length we (js.map (getE env)))) (ds ++ [.ref f]) c2 E Qd) I ⟨F, env, c, E, _, re, rp, lx, q, fun F' c1 H' vs ds f c' l r hc h' q' => ⟨F', ds, c1, l, r, hc, h', q'⟩⟩)
    fun us s2 ⟨us0, vs, f, c', H2, eus, I2, r, ⟨pm, ctv, hL⟩, hfn0, hffr, F2, ds, c2, l2, rp2, hc, hds, q2⟩ => ⟨I2.kIn, ?_⟩) he hpl
  have e0 := env0_bas I2.env0
  have sub := env0_sub I2.env0
  have szB : X.base.objs.size ≤ (bas s2.heap H2 (frs X.stack)).objs.size := by rw [bas_size]; exact I2.env0.bsz
  have hfree2 : ∀ y ∈ scope.names, y.2 = .free → ∃ c, X.env.cells.lookup y.1 = some c := fun y hy e => (hfree y hy e).elim (fun z => I2.ok.has _ (.inl z)) fun z => I2.ok.has _ (.inr z)
  have gΦ : GoodP (fun F H => GI F H ∧ Le F2 F) X.prog X.w X.K X.mg (bas s2.heap H2 (frs X.stack)) kf Φ := fun a sp ha => ((hΦ a sp ha).add LG.gg).up sub szB
  have cells := NdefX.cells_of I2 (NdefX.Caps.made I2.ok hfree hfr hjs)
  have cb : CellsB (cloFrom X.env.cells scope.names []) fr (js.map (NdefX.slotAt σ)) (bas s2.heap H2 (frs X.stack)) := by
    have up : ∀ {y c v}, (cloFrom X.env.cells scope.names []).lookup y = some c → s2.heap.IsCell c v → (bas s2.heap H2 (frs X.stack)).IsCell c v := fun {y c v} h1 ⟨o, ho, hd⟩ => by
      have h2 := NdefX.clo_cm hfree2 h1
      have hy : (y, NameKind.free) ∈ scope.names := by
        rcases cloFrom_mem (PySem.mem_of_lookup h1) with hm | ⟨h3, _⟩
        · cases hm
        · exact h3
      exact ⟨o, bas_get ho (cells.all y c h1).1 (cell_nofr I2 (hfn _ hy rfl) h2), hd⟩
    refine ⟨cells.len, fun y c h => ?_, cells.inj, fun i y h => ?_⟩
    · obtain ⟨_, v, z⟩ := cells.all y c h
      exact ⟨v, up h z⟩
    · obtain ⟨c, h1, h2⟩ := cells.has i y h
      exact ⟨c, h1, fun v hv => let ⟨u, r, z⟩ := h2 v hv; ⟨u, r, up h1 z⟩⟩
  have cd : CapD X.K F2 (js.map (NdefX.slotAt σ)) (js.map (getE env)) := by
    refine ⟨by rw [List.length_map, List.length_map], fun i d h => ?_⟩
    rw [List.getElem?_map] at h
    cases z : js[i]? with
    | none => rw [z] at h; cases h
    | some j =>
      rw [z] at h
      have h : getE env j = some d := Option.some.inj h
      obtain ⟨v, h1, h2⟩ := re.val j d (getE_at h)
      exact ⟨v, by rw [List.getElem?_map, z]; exact congrArg some (NdefX.slotAt_of h1), h2.le l2⟩
  have gf : GoodF (fun F H => GI F H ∧ Le F2 F) X.prog X.w X.K X.mg (bas s2.heap H2 (frs X.stack)) (kb + 1) f (spLam N.length ps.length we (js.map (getE env))) :=
    good_lam Sc e0.mod (bas_get hL hfn0 hffr) hc (hbind _ _ _ _ _) cb cd (fun F H h => h.2) fun A outer s H E hr => hbody _ _ _ _ _ A outer s H E gΦ hr
  obtain ⟨fx', hmx', ⟨fd, psx, hpn, hkp, hb, FN⟩⟩ := hx (bas s2.heap H2 (frs X.stack)) F2 (addF Φ f (spLam N.length ps.length we (js.map (getE env)))) e0.mod sub fun a sp hs => by
    unfold addF at hs
    by_cases z : a = f
    · rw [if_pos z] at hs; cases hs; rw [z]; exact gf.mono hkb
    · rw [if_neg z] at hs; exact (gΦ a sp hs).mono hkf
  rw [hmx] at hmx'
  cases hmx'
  have rv : Vals (vs ++ [V.ref f]) us := by rw [eus]; exact r.append (.cons rfl .nil)
  have hsp : lowSp X.K (fun F H => GI F H ∧ Le F2 F) (S (addF Φ f (spLam N.length ps.length we (js.map (getE env))))) (vs ++ [V.ref f]) H2 Q (fun cls d H' => W cls d σ H') :=
    ⟨F2, ds ++ [.ref f], c2, E, Qd, hds.app (.one (.ref f)), rep_add LG rp2 Le.rfl', q2 f, fun F' c' H' v d l r hd hq => kk F' c' H' v d (l2.trans' l) (rep_sub LG r) hd hq, fun F' c' H' cls od l r hE => lx F' c' H' cls od (l2.trans' l) (rep_sub LG r) hE⟩
  have hl : us.length = psx.length := by rw [← rv.length]; exact FN.len _ _ _ _ hsp
  have b := hb s2 us I2.kIn (by rw [List.append_nil]; exact hl)
  rw [List.append_nil] at b
  refine wpAny_call (codeAny_mono (FN.run X.A X.stack s2 H2 ⟨us, []⟩ us _ Q (fun cls d H' => W cls d σ H') hr e0 b rv hsp) fun r3 s' hq => ?_)
  cases r3 with
  | error e => exact passAt xo.tk σ pins H2 s2 e s' I2 hq
  | ok fl =>
    cases fl with
    | ret u => exact I2.after hq
    | next => exact False.elim hq
    | brk => exact False.elim hq
    | cont => exact False.elim hq
end
end DL
/-! the data layer: more statements, methods, slices with a step, f-strings -/
namespace DL
open PySem PySem.Spec L2
open PyProof.Rows hiding St

/-- a statement that is never come to -/
def wNever : WS := fun _ _ _ => False
theorem cs_never {GI : Hp → Hp → Prop} {X : Cx} {st : Stmt} : CS GI X st wNever := fun W x => ⟨fun pins s σ H Dn I q => by
  obtain ⟨_, _, _, _, _, _, z, _⟩ := q
  exact z.elim⟩
/-! ### a < b < c -/
def wChain (R R' : RD2) (a b t : WE) : WE := fun E env c Q => a E env c fun d c1 => b E env c1 fun e c2 => R c2 d e fun z c3 => asB z c3 fun k c4 => if k = true then t E env c4 fun f c5 => R' c5 e f Q else Q (.bl false) c4
section
variable {GI : Hp → Hp → Prop} {X : Cx} {pos : Pos} {a b t : Expr} {wa wb wt : WE} {r r' : R2} {R R' : RD2} {op op' : CmpOp}
theorem low_chain {W : WX} (s : Snd2 X.K GI r R) (s' : Snd2 X.K GI r' R') : ∀ σ H Q, lowE X.K GI W (wChain R R' wa wb wt) σ H Q → tChain r r' (lowE X.K GI W wa) (lowE X.K GI W wb) (lowE X.K GI W wt) σ H Q := by
  rintro σ H Q ⟨F, env, c, E, Qd, re, rp, lx, q, k⟩
  refine ⟨F, env, c, E, _, re, rp, lx, q, ?_⟩
  intro F1 c1 H1 v1 d1 l1 r1 h1 q1
  refine ⟨F1, env, c1, E, _, re.le l1, r1, lx.le l1, q1, ?_⟩
  intro F2 c2 H2 v2 d2 l2 r2 h2 q2
  refine s F2 H2 c2 v1 v2 d1 d2 _ _ r2 (h1.le l2) h2 q2 ?_
  intro F3 c3 H3 v3 d3 l3 r3 h3 q3
  obtain ⟨x, rfl, q4⟩ := asB_bl q3
  refine ⟨x, h3.bl_inv, ?_⟩
  have l := (l1.trans' l2).trans' l3
  cases x with
  | true =>
    rw [if_pos rfl] at q4 ⊢
    refine ⟨F3, env, c3, E, _, re.le l, r3, lx.le l, q4, ?_⟩
    intro F4 c4 H4 v4 d4 l4 r4 h4 q5
    exact s' F4 H4 c4 v2 v4 d2 d4 Qd Q r4 (h2.le (l3.trans' l4)) h4 q5 (k.le (l.trans' l4))
  | false =>
    rw [if_neg (by decide)] at q4 ⊢
    exact k F3 c3 H3 _ _ l r3 (.bl false) q4
theorem ce_chain (ho : OpR X (compareOp op) r) (s : Snd2 X.K GI r R) (ho' : OpR X (compareOp op') r') (s' : Snd2 X.K GI r' R') (ha : CE GI X a wa) (hb : CE GI X b wb) (ht : CE GI X t wt) (hm : lastMarks [op, op'] [b, t] = false := by with_unfolding_all rfl) :
    CE GI X (.Compare a [op, op'] [b, t] pos) (wChain R R' wa wb wt) := fun W x => pe_imp (pe_chain ho ho' (ha W x) (hb W x) (ht W x) hm) (low_chain s s')
theorem ct_chain (ho : OpR X (compareOp op) r) (s : Snd2 X.K GI r R) (ho' : OpR X (compareOp op') r') (s' : Snd2 X.K GI r' R') (ha : CE GI X a wa) (hb : CE GI X b wb) (ht : CE GI X t wt) (hm : lastMarks [op, op'] [b, t] = false := by with_unfolding_all rfl) :
    CT GI X (.Compare a [op, op'] [b, t] pos) (wTst (wChain R R' wa wb wt)) := fun W x => pt_imp (pt_chain ho ho' (ha W x) (hb W x) (ht W x) hm) (low_tst (low_chain s s'))
end
/-! ### x op= e -/
def wAug (i : Nat) (R : RD2) (a : WE) : WS := fun DD env c => ∃ d, getE env i = some d ∧ a (exE DD env) env c fun e c1 => R c1 d e fun z c2 => DD.nx (env.set i (some z)) c2
section
variable {GI : Hp → Hp → Prop} {X : Cx} {pos : Pos} {e : Expr} {wa : WE}
theorem cs_aug (i : Nat) {op : Operator} {ti : TIp} {R : RD2} {x : Str} {pos' : Pos} (ho : PIp X op ti) (s : Snd2 X.K GI ti R) (he : CE GI X e wa) (hi : X.N[i]? = some x := by rfl) (hx : Loc X.env.scope x := by first | exact Or.inl rfl | exact Or.inr rfl)
    (hf : X.fn x = true ∨ X.env.scope.names.lookup x = some .local := by first | exact .inl rfl | exact .inr rfl) : CS GI X (.AugAssign (.Name x pos') op e pos) (wAug i R wa) := fun W xo => by
  refine ps_imp (ps_aug xo.nd hi hx (he W xo) ho hf) ?_
  rintro Dn σ H ⟨F, env, c, DD, re, r, ⟨d, hd, q⟩, l⟩
  obtain ⟨v, hv, h1⟩ := re.val i d (getE_at hd)
  refine ⟨v, hv, F, env, c, _, _, re, r, l.lx re, q, ?_⟩
  intro F1 c1 H1 v1 d1 l1 r1 h2 q1
  refine s F1 H1 c1 v v1 d d1 _ _ r1 (h1.le l1) h2 q1 ?_
  intro F2 c2 H2 v2 d2 l2 r2 h3 q2
  exact l.nx F2 _ c2 _ H2 (l1.trans' l2) (((re.le l1).le l2).set i h3) r2 q2
def addI : RD2 := fun c d e Q => match d, e with
  | .int i, .int j => Q (.int (i + j)) c
  | _, _ => False
def addS : RD2 := fun c d e Q => match d, e with
  | .str i, .str j => i.length + j.length ≤ sizeLine ∧ Q (.str (i ++ j)) c
  | _, _ => False
theorem cs_augI (i : Nat) {x : Str} {pos' : Pos} (he : CE GI X e wa) (hi : X.N[i]? = some x := by rfl) (hx : Loc X.env.scope x := by first | exact Or.inl rfl | exact Or.inr rfl)
    (hf : X.fn x = true ∨ X.env.scope.names.lookup x = some .local := by first | exact .inl rfl | exact .inr rfl) : CS GI X (.AugAssign (.Name x pos') .Add e pos) (wAug i addI wa) := cs_aug i ip_add (fun F H c v1 v2 d1 d2 Qd Q r h1 h2 q k => by
  unfold addI at q
  split at q
  · exact ⟨_, _, h1.int_inv, h2.int_inv, k F c H _ _ Le.rfl' r (.int _) q⟩
  · exact q.elim) he hi hx hf
theorem ip_mul : PIp X .Mult (fun x y H Q => ∃ i j, x = .int i ∧ y = .int j ∧ CMul i j ∧ Q (.int (i * j)) H) := by
  intro pins s σ H x y v u Q I r1 r2 h
  obtain ⟨i, j, rfl, rfl, hm, q⟩ := h
  obtain ⟨t, rfl⟩ := r1
  obtain ⟨t', rfl⟩ := r2
  exact PySem.AutoIntOps.imul_0 ⟨.int _, H, I.tok _, ⟨_, rfl⟩, q⟩ hm.ok
def mulI : RD2 := fun c d e Q => match d, e with
  | .int i, .int j => CMul i j ∧ Q (.int (i * j)) c
  | _, _ => False
theorem cs_augM (i : Nat) {x : Str} {pos' : Pos} (he : CE GI X e wa) (hi : X.N[i]? = some x := by rfl) (hx : Loc X.env.scope x := by first | exact Or.inl rfl | exact Or.inr rfl)
    (hf : X.fn x = true ∨ X.env.scope.names.lookup x = some .local := by first | exact .inl rfl | exact .inr rfl) : CS GI X (.AugAssign (.Name x pos') .Mult e pos) (wAug i mulI wa) := cs_aug i ip_mul (fun F H c v1 v2 d1 d2 Qd Q r h1 h2 q k => by
  unfold mulI at q
  split at q
  · exact ⟨_, _, h1.int_inv, h2.int_inv, q.1, k F c H _ _ Le.rfl' r (.int _) q.2⟩
  · exact q.elim) he hi hx hf
end
/-! ### a, b = e, f; three -/
def wPar2 (i j : Nat) (r : WA) : WS := fun DD env c => r (exE DD env) env c fun ds c1 => ∃ u v, ds = [u, v] ∧ DD.nx ((env.set i (some u)).set j (some v)) c1
def wPar3 (i j l : Nat) (r : WA) : WS := fun DD env c => r (exE DD env) env c fun ds c1 => ∃ u v w, ds = [u, v, w] ∧ DD.nx (((env.set i (some u)).set j (some v)).set l (some w)) c1
theorem DVs.inv3 {K : PySem.W.Frag} {F : Hp} {vs : List V} {d e f : D} (h : DVs K F vs [d, e, f]) : ∃ v u w, vs = [v, u, w] ∧ DV K F v d ∧ DV K F u e ∧ DV K F w f := by
  cases h with
  | cons h k =>
    obtain ⟨u, w, rfl, h2, h3⟩ := k.inv2
    exact ⟨_, u, w, rfl, h, h2, h3⟩
section
variable {GI : Hp → Hp → Prop} {X : Cx} {pos px py pz pt pt2 : Pos} {a b t : Expr} {wr : WA} {x y z : Str} {kt k2 : Nat}
theorem cs_par2 (i j : Nat) (hc : X.calm = true) (hr : CA GI X [a, b] wr) (hi : X.N[i]? = some x := by rfl) (hj : X.N[j]? = some y := by rfl) (hij : i ≠ j := by decide) (hx : X.env.scope.names.lookup x = some .local := by rfl) (hy : X.env.scope.names.lookup y = some .local := by rfl)
    (hw : swappedStores [.Tuple [.Name x px, .Name y py] kt pt] (.Tuple [a, b] k2 pt2) X.env = pure (some [x, y]) := by rfl) (hs : swapsWithSole [.Tuple [.Name x px, .Name y py] kt pt] (.Tuple [a, b] k2 pt2) pos.line X.env = pure false := by rfl) :
    CS GI X (.Assign [.Tuple [.Name x px, .Name y py] kt pt] (.Tuple [a, b] k2 pt2) pos) (wPar2 i j wr) := fun W xo => by
  refine ps_imp (ps_par hc xo.nd hi hj hij hx hy (hr W xo) hw hs) ?_
  rintro Dn σ H ⟨F, env, c, DD, re, r, q, l⟩
  refine ⟨F, env, c, _, _, re, r, l.lx re, q, ?_⟩
  rintro F1 c1 H1 vs ds l1 r1 h1 ⟨u, v, rfl, q1⟩
  obtain ⟨u', v', rfl, g1, g2⟩ := h1.inv2
  exact ⟨u', v', rfl, l.nx F1 _ c1 _ H1 l1 (((re.le l1).set i g1).set j g2) r1 q1⟩
theorem cs_par3 (i j l : Nat) (hc : X.calm = true) (hr : CA GI X [a, b, t] wr) (hi : X.N[i]? = some x := by rfl) (hj : X.N[j]? = some y := by rfl) (hl : X.N[l]? = some z := by rfl) (hij : i ≠ j := by decide) (hil : i ≠ l := by decide) (hjl : j ≠ l := by decide)
    (hx : X.env.scope.names.lookup x = some .local := by rfl) (hy : X.env.scope.names.lookup y = some .local := by rfl) (hz : X.env.scope.names.lookup z = some .local := by rfl)
    (hw : swappedStores [.Tuple [.Name x px, .Name y py, .Name z pz] kt pt] (.Tuple [a, b, t] k2 pt2) X.env = pure (some [x, y, z]) := by rfl) (hs : swapsWithSole [.Tuple [.Name x px, .Name y py, .Name z pz] kt pt] (.Tuple [a, b, t] k2 pt2) pos.line X.env = pure false := by rfl) :
    CS GI X (.Assign [.Tuple [.Name x px, .Name y py, .Name z pz] kt pt] (.Tuple [a, b, t] k2 pt2) pos) (wPar3 i j l wr) := fun W xo => by
  refine ps_imp (ps_par3 hc xo.nd hi hj hl hij hil hjl hx hy hz (hr W xo) hw hs) ?_
  rintro Dn σ H ⟨F, env, c, DD, re, r, q, l'⟩
  refine ⟨F, env, c, _, _, re, r, l'.lx re, q, ?_⟩
  rintro F1 c1 H1 vs ds l1 r1 h1 ⟨u, v, w, rfl, q1⟩
  obtain ⟨u', v', w', rfl, g1, g2, g3⟩ := h1.inv3
  exact ⟨u', v', w', rfl, l'.nx F1 _ c1 _ H1 l1 ((((re.le l1).set i g1).set j g2).set l g3) r1 q1⟩
end
/-! ### f() -/
def wCall0 (sp : DSpec) : WE := fun E env c Q => sp [] c E Q
theorem ce_call0 {GI : Hp → Hp → Prop} {X : Cx} {x : Str} {p pos : Pos} {sp : DSpec} {k : Nat} (h : HasF GI X k x 0 sp) (hr : Room k X.A) (hg : Gl X x := by rfl) (hdb : (x == ("__debug__" : Str)) = false := by decide) : CE GI X (.Call (.Name x p) [] [] pos) (wCall0 sp) := fun W xo => by
  obtain ⟨f, hm, ⟨fd, ps, hl, kp, b, F⟩⟩ := h
  refine ⟨fun pins s σ H Q I h => ?_⟩
  obtain ⟨F0, env, c, E, Qd, re, rp, lx, q, kk⟩ := h
  refine wpAny_Call_Name_kw (ld_glob I hg hm ?_ hdb)
  have hsp : lowSp X.K GI sp [] H Q (fun cls d H' => W cls d σ H') := ⟨F0, [], c, E, Qd, .nil, rp, q, kk, fun F' c' H' cls od l r hE => lx F' c' H' cls od l r hE⟩
  refine PySem.W.callWith_K0 I.kIn kp ?_
  exact run_fnS (us := []) F hr b (E := fun σ cls d H => W cls d σ H) (passAt xo.tk σ) I .nil hsp
/-! ### slices with a step -/
def stepIx (lo hi st : Option Int) (n : Nat) : List Nat := PySem.sliceRange (PySem.sliceBounds lo hi st n).1 (PySem.sliceBounds lo hi st n).2.1 (PySem.sliceBounds lo hi st n).2.2
def pickG {α : Type} (xs : List α) (lo hi st : Option Int) : List α := (stepIx lo hi st xs.length).filterMap (xs[·]?)
theorem vals_pick {vs : List V} {us : List Value} (h : Vals vs us) : ∀ l : List Nat, Vals (l.filterMap (vs[·]?)) (l.filterMap (us[·]?))
  | [] => .nil
  | i :: r => by
    have hl := h.length
    have ih := vals_pick h r
    rw [List.filterMap_cons, List.filterMap_cons]
    cases e : vs[i]? with
    | none =>
      have e2 : us[i]? = none := by rw [List.getElem?_eq_none_iff] at e ⊢; omega
      rw [e2]; exact ih
    | some v =>
      obtain ⟨u, e2, r2⟩ := h.get e
      rw [e2]; exact .cons r2 ih
theorem pick_D {K : PySem.W.Frag} {F : Hp} {vs : List V} {ds : List D} (h : DVs K F vs ds) : ∀ l : List Nat, DVs K F (l.filterMap (vs[·]?)) (l.filterMap (ds[·]?))
  | [] => .nil
  | i :: r => by
    have hl := h.length
    have ih := pick_D h r
    rw [List.filterMap_cons, List.filterMap_cons]
    cases e : ds[i]? with
    | none =>
      have e2 : vs[i]? = none := by rw [List.getElem?_eq_none_iff] at e ⊢; omega
      rw [e2]; exact ih
    | some d =>
      obtain ⟨v, e2, r2⟩ := h.at i e
      rw [e2]; exact .cons r2 ih
def rSl3 (K : PySem.W.Frag) (x : V) (lo hi st : Option Int) (H : Hp) (Q : VK) : Prop :=
  (∃ a xs, x = .ref a ∧ SqL K H a xs ∧ st ≠ some 0 ∧ (pickG xs lo hi st).length ≤ sizeLine ∧ ∀ p, H p = none → Q (.ref p) (upd H p (.lst (pickG xs lo hi st)))) ∨
  ∃ z k, x = .str z ∧ st = some k ∧ k ≠ 0 ∧ k ≠ 1 ∧ (Builtin.Str.strSliceIndices lo hi k z.length).length ≤ sizeLine ∧ Q (.str ⟨((Builtin.Str.strSliceIndices lo hi k z.length).filterMap (z.cps[·]?)).toArray⟩) H
theorem pe_sl3 {X : Cx} {e st : Expr} {lo hi : Option Expr} {te : TE} {tl th ts : TO} {p2 pos : Pos} (he : PE X e te) (hl : PO X lo tl) (hu : PO X hi th) (hs : PO X (some st) ts) :
    PE X (.Subscript e (.Slice lo hi (some st) p2) pos) (fun σ H Q => te σ H fun x H1 => tl σ H1 fun l H2 => th σ H2 fun u H3 => ts σ H3 fun k H4 => rSl3 X.K x l u k H4 Q) := by
  refine ⟨fun pins s σ H Q I h => ?_⟩
  refine Subscript_ (thn (he.run pins s σ H _ I h) fun v s1 ⟨x, H1, I1, r1, q1⟩ => ?_)
  refine wpAny_Slice (thn (hl.run pins s1 σ H1 _ I1 q1) fun vl s2 ⟨l, H2, I2, pl, q2⟩ => thn (hu.run pins s2 σ H2 _ I2 q2) fun vu s3 ⟨u, H3, I3, pu, q3⟩ => thn (hs.run pins s3 σ H3 _ I3 q3) fun vs s4 ⟨k, H4, I4, ps, q4⟩ => ?_)
  have I5 : Inv X pins σ H4 { s4 with heap := s4.heap.push { cls := .type "slice", data := .fields #[vl, vu, vs] } } := I4.kept (t' := s4.toks) fun b ob q => Heap.get?_push_of_some _ q
  show wpAny (model X.prog X.w) X.A (subscriptTail e (.Slice lo hi (some st) p2) v (.ref s4.heap.objs.size)) (EP X pins σ Q) X.xe _
  rcases q4 with ⟨a, xs, rfl, hx, h0, hz', q⟩ | ⟨z, j, rfl, rfl, h0, h1, hz, q⟩
  · cases r1
    obtain ⟨its, r, ht, hz⟩ := I5.list hx
    have hlen := r.length
    refine tail_any (ops := [.ref a, .ref s4.heap.objs.size]) ht.isList.typeIs (PySem.slot_list_getitem.lookup) ?_ (by with_unfolding_all rfl)
    refine wpAny_getItem_list_slice ht.isList (Heap.IsSliceOf.new _ vl vu vs) pl pu ps h0 ?_ (by rw [List.size_toArray]; omega)
    have e : slicePick its.toArray l u k = (pickG its l u k).toArray := by
      unfold slicePick pickG stepIx
      simp only [List.size_toArray, List.getElem?_toArray]
    rw [e]
    have hv : Vals (pickG xs l u k) (pickG its l u k) := by
      unfold pickG
      rw [hlen]
      exact vals_pick r _
    exact ⟨.ref _, _, I5.laid (t' := s4.toks) (o := .lst (pickG xs l u k)) (fun b ob q => Heap.get?_push_of_some _ q) (Nat.le_refl _) ⟨hz', _, 0, hv, Heap.get?_push_size _ rfl⟩, rfl, q _ (I5.hok.fresh (Nat.le_refl _))⟩
  · obtain ⟨t, rfl⟩ := r1
    obtain ⟨l', rfl, rfl⟩ := IsPart.raw pl
    obtain ⟨u', rfl, rfl⟩ := IsPart.raw pu
    obtain ⟨k', rfl, ek⟩ := IsPart.raw ps
    refine tail_any (ops := [.str z t, .ref s4.heap.objs.size]) (typeIs_str _ _ _) (PySem.F.slot_str_getitem.lookup) ?_ (by with_unfolding_all rfl)
    refine wpAny_getItem_str_slice (l := l') (u := u') (st := k') ⟨_, Heap.get?_push_size _ rfl, rfl, rfl⟩ (by rw [ek]; simpa using h0) ?_
    unfold sliceMade slicePicked
    rw [ek]
    show Made.post (if (j == 1 && _) = true then _ else _) _ _
    rw [if_neg (by simp [h1])]
    show Made.post (Made.str ⟨((Builtin.Str.strSliceIndices (l'.map (·.1)) (u'.map (·.1)) j z.length).filterMap (z.cps[·]?)).toArray⟩) _ _
    refine ⟨?_, .str _, H4, I5.tok _, ⟨_, rfl⟩, q⟩
    show (List.toArray _).size ≤ sizeLine
    rw [List.size_toArray]
    exact Nat.le_trans (List.length_filterMap_le _ _) hz
def sl3R (m : Bool) (c : CMap) (d : D) (lo hi st : Option Int) (Q : DK) : Prop := match res c d with
  | .lst ds => st ≠ some 0 ∧ (pickG ds lo hi st).length ≤ sizeLine ∧ newL m c (pickG ds lo hi st) Q
  | .str z => ∃ k, st = some k ∧ k ≠ 0 ∧ k ≠ 1 ∧ (Builtin.Str.strSliceIndices lo hi k z.length).length ≤ sizeLine ∧ Q (.str ⟨((Builtin.Str.strSliceIndices lo hi k z.length).filterMap (z.cps[·]?)).toArray⟩) c
  | _ => False
def wSl3 (m : Bool) (a : WE) (lo hi st : WO) : WE := fun E env c Q => a E env c fun d c1 => lo E env c1 fun l c2 => hi E env c2 fun h c3 => st E env c3 fun k c4 => sl3R m c4 d l h k Q
theorem pick_snd {K : PySem.W.Frag} {F : Hp} {vs : List V} {ds : List D} (h : DVs K F vs ds) (l u k : Option Int) : DVs K F (pickG vs l u k) (pickG ds l u k) := by
  unfold pickG
  rw [h.length]
  exact pick_D h _
theorem ce_slice3 {GI : Hp → Hp → Prop} {X : Cx} {a st : Expr} {wa : WE} {lo hi : Option Expr} {wl wh ws : WO} {p2 pos : Pos} (m : Bool) (ha : CE GI X a wa) (hl : CO GI X lo wl) (hh : CO GI X hi wh) (hs : CO GI X (some st) ws) : CE GI X (.Subscript a (.Slice lo hi (some st) p2) pos) (wSl3 m wa wl wh ws) := fun W x => by
  refine pe_imp (pe_sl3 (ha W x) (hl W x) (hh W x) (hs W x)) ?_
  rintro σ H Q ⟨F, env, c, E, Qd, re, rp, lx, q, k⟩
  refine ⟨F, env, c, E, _, re, rp, lx, q, ?_⟩
  intro F1 c1 H1 v1 d1 l1 r1 h1 q1
  refine ⟨F1, env, c1, E, _, re.le l1, r1, lx.le l1, q1, ?_⟩
  intro F2 c2 H2 o2 l2 r2 q2
  refine ⟨F2, env, c2, E, _, (re.le l1).le l2, r2, (lx.le l1).le l2, q2, ?_⟩
  intro F3 c3 H3 o3 l3 r3 q3
  refine ⟨F3, env, c3, E, _, ((re.le l1).le l2).le l3, r3, ((lx.le l1).le l2).le l3, q3, ?_⟩
  intro F4 c4 H4 o4 l4 r4 q4
  have hv := ((h1.le l2).le l3).le l4
  have kk := (((k.le l1).le l2).le l3).le l4
  unfold sl3R at q4
  split at q4
  · rename_i e1
    obtain ⟨p, xs, rfl, g1, k1⟩ := res_lst r4 hv e1
    have pk := pick_snd k1 o2 o3 o4
    exact .inl ⟨p, xs, rfl, SqL.of g1, q4.1, by rw [pk.length]; exact q4.2.1, newL_snd r4 pk q4.2.2 kk⟩
  · rename_i e1
    obtain rfl := res_oth e1 (by intro _ z; cases z)
    obtain ⟨j, rfl, h2, h3, h4, q5⟩ := q4
    exact .inr ⟨_, j, hv.str_inv, rfl, h2, h3, h4, kk F4 c4 H4 _ _ Le.rfl' r4 (.str _) q5⟩
  · exact q4.elim
end DL
/-! the data layer: more methods, f-strings, dicts of pairs -/
namespace DL
open PySem PySem.Spec L2
open PyProof.Rows hiding St

/-! ### o.m() -/
def wMt0 (T : String) (R : RDm) (o : WE) : WE := fun E env c Q => o E env c fun d c1 => tyDl T c1 d ∧ R c1 d [] Q
section
variable {GI : Hp → Hp → Prop} {X : Cx} {o e f : Expr} {wo wk wx we : WE} {wr : WA} {name : Str} {apos cpos pos : Pos} {T id : String} {r : V → List V → Hp → VK → Prop} {R : RDm}
theorem ce_bm0 (pa : PlainAttrs T) (slot : Slot T name id) (hty : typeOf (.builtin id) = pure (.type "method_descriptor")) (hm : MtR X id r) (s : SndM X.K GI r R) (ho : CE GI X o wo)
    (hbase : attributeBase o name X.env (eval o X.env) = eval o X.env := by rfl) (hline : (apos.endLine == cpos.line) = true := by rfl) : CE GI X (.Call (.Attribute o name apos) [] [] cpos) (wMt0 T R wo) := fun W x => by
  refine pe_imp (pe_bm0 pa slot hty hm (ho W x) hbase hline) ?_
  rintro σ H Q ⟨F, env, c, E, Qd, re, rp, lx, q, k⟩
  refine ⟨F, env, c, E, _, re, rp, lx, q, ?_⟩
  rintro F1 c1 H1 v d l1 r1 h1 ⟨q0, q1⟩
  exact ⟨tyDl_snd r1 h1 q0, s F1 H1 c1 v d [] [] Qd Q r1 h1 .nil q1 (k.le l1)⟩
end
/-! ### lists -/
def extR : RDm := fun c d ds Q => match d, ds with
  | .ref p, [e] => ∃ es xs, c p = some (.lst es) ∧ res c e = .lst xs ∧ es.length + xs.length ≤ sizeLine ∧ Q .non (updc c p (.lst (es ++ xs)))
  | _, _ => False
def popR : RDm := fun c d ds Q => match d, ds with
  | .ref p, [] => ∃ es y, c p = some (.lst es) ∧ es[es.length - 1]? = some y ∧ Q y (updc c p (.lst es.dropLast))
  | .ref p, [.int i] => ∃ es k y, c p = some (.lst es) ∧ -(2 ^ 63) ≤ i ∧ i < 2 ^ 63 ∧ PySem.seqIndex? i es.length = some k ∧ es[k]? = some y ∧ Q y (updc c p (.lst (es.eraseIdx k)))
  | _, _ => False
def insR : RDm := fun c d ds Q => match d, ds with
  | .ref p, [.int i, y] => ∃ es, c p = some (.lst es) ∧ es.length < sizeLine ∧ 0 ≤ i ∧ i < 2 ^ 63 ∧ Q .non (updc c p (.lst (es.take i.toNat ++ [y] ++ es.drop i.toNat)))
  | _, _ => False
def revR : RDm := fun c d ds Q => match d, ds with
  | .ref p, [] => ∃ es, c p = some (.lst es) ∧ Q .non (updc c p (.lst es.reverse))
  | _, _ => False
def clrR : RDm := fun c d ds Q => match d, ds with
  | .ref p, [] => ∃ es, c p = some (.lst es) ∧ Q .non (updc c p (.lst []))
  | _, _ => False
def lixR : RDm := fun c d ds Q => match ds with
  | [y] => match res c d with
    | .lst es => flatD y = true ∧ es.all flatD = true ∧ ∃ j, es[j]? = some y ∧ (∀ m z, m < j → es[m]? = some z → z ≠ y) ∧ Q (.int (j : Nat)) c
    | _ => False
  | _ => False
/-! ### texts -/
def splR : RDm := fun c d ds Q => match d, ds with
  | .str a, [.str b] => b.length ≠ 0 ∧ a.length + 2 ≤ sizeLine ∧ Q (.lst ((Txt.split a b).map D.str)) c
  | _, _ => False
def parR : RDm := fun c d ds Q => match d, ds with
  | .str a, [.str b] => b.length ≠ 0 ∧ a.length ≤ sizeLine ∧ Q (.tup [.str (Txt.partition a b).1, .str (Txt.partition a b).2.1, .str (Txt.partition a b).2.2]) c
  | _, _ => False
section
variable {GI : Hp → Hp → Prop} {X : Cx} {o e f : Expr} {wo wk wx we : WE} {wr : WA} {apos cpos pos : Pos}
theorem lst_wr {K : PySem.W.Frag} {F H : Hp} {c : CMap} {p : Addr} {es fs : List D} {xs ys : List V} {Qd : DK} {Q : VK} {y : V} {d : D} (r : Rep K GI F c H) (e : c p = some (.lst es)) (h : H p = some (.lst xs)) (q : DVs K F ys fs) (hy : DV K F y d) (z : Qd d (updc c p (.lst fs))) (k : LQ K GI F Qd Q) : Q y (upd H p (.lst ys)) :=
  k F _ _ _ _ Le.rfl' (r.wr (k := .lst fs) e (by rw [h]; trivial) ⟨_, rfl, q⟩) hy z
theorem ce_extend (ho : CE GI X o wo) (ha : CA GI X [e] wr)
    (hbase : attributeBase o "extend" X.env (eval o X.env) = eval o X.env := by rfl)
    (hfew : ((backTo cpos (starEach [e] X.env)).all (fun x => !x.1) && (backToKw cpos (keywordEach [] X.env)).all (fun x => x.1.isSome) && decide (([e] : List Expr).length + ([] : List Keyword).length + (if ([] : List Keyword).isEmpty then 0 else 1) < 30)) = true := by rfl)
    (hline : (apos.endLine == cpos.line) = true := by rfl) (hs : starEach [e] X.env = (false, eval e X.env) :: starEach [] X.env := by rfl) (hplain : (backTo cpos (starEach [] X.env)).any (·.1) = false := by rfl) : CE GI X (.Call (.Attribute o "extend" apos) [e] [] cpos) (wMt "list" extR wo wr) :=
  ce_bm PySem.F.plainAttrs_list PySem.F.slot_list_extend PySem.F.type_list_extend mt_extend (fun F H c v d vs ds Qd Q r h1 h2 q k => by
    unfold extR at q
    split at q
    · obtain ⟨u, rfl, h3⟩ := h2.inv1
      obtain ⟨es, xs, e1, e2, q1, q2⟩ := q
      obtain ⟨us, g1, k1⟩ := r.lst e1
      obtain ⟨b, ws, rfl, g2, k2⟩ := res_lst r h3 e2
      exact ⟨_, b, us, ws, h1.ref_inv, rfl, g1, g2, by rw [k1.length, k2.length]; exact q1, lst_wr r e1 g1 (k1.app k2) .non q2 k⟩
    · exact q.elim) ho ha hbase hfew hline hs hplain
theorem pop_snd : SndM X.K GI (fun x vs H Q => rPop x vs H Q ∨ rPopAt x vs H Q) popR := fun F H c v d vs ds Qd Q r h1 h2 q k => by
  unfold popR at q
  split at q
  · cases h2
    obtain ⟨es, y, e1, e2, q2⟩ := q
    obtain ⟨us, g1, k1⟩ := r.lst e1
    obtain ⟨w, g2, g3⟩ := k1.at _ e2
    exact .inl ⟨_, us, w, h1.ref_inv, rfl, g1, by rw [k1.length]; exact g2, lst_wr r e1 g1 k1.dropLast g3 q2 k⟩
  · obtain ⟨u, rfl, h3⟩ := h2.inv1
    obtain ⟨es, j, y, e1, b1, b2, e2, e3, q2⟩ := q
    obtain ⟨us, g1, k1⟩ := r.lst e1
    obtain ⟨w, g2, g3⟩ := k1.at _ e3
    exact .inr ⟨_, us, _, j, w, h1.ref_inv, by rw [h3.int_inv], g1, b1, b2, by rw [k1.length]; exact e2, g2, lst_wr r e1 g1 (k1.erase j) g3 q2 k⟩
  · exact q.elim
theorem mt_popA : MtR X "list.pop" (fun x vs H Q => rPop x vs H Q ∨ rPopAt x vs H Q) := fun pins s σ H x vs v us Q I rx rv h => by
  rcases h with h | h
  · exact mt_pop pins s σ H x vs v us Q I rx rv h
  · exact mt_popAt pins s σ H x vs v us Q I rx rv h
theorem ce_pop0 (ho : CE GI X o wo) (hbase : attributeBase o "pop" X.env (eval o X.env) = eval o X.env := by rfl) (hline : (apos.endLine == cpos.line) = true := by rfl) : CE GI X (.Call (.Attribute o "pop" apos) [] [] cpos) (wMt0 "list" popR wo) :=
  ce_bm0 PySem.F.plainAttrs_list PySem.F.slot_list_pop PySem.F.type_list_pop mt_popA pop_snd ho hbase hline
theorem ce_pop1 (ho : CE GI X o wo) (ha : CA GI X [e] wr)
    (hbase : attributeBase o "pop" X.env (eval o X.env) = eval o X.env := by rfl)
    (hfew : ((backTo cpos (starEach [e] X.env)).all (fun x => !x.1) && (backToKw cpos (keywordEach [] X.env)).all (fun x => x.1.isSome) && decide (([e] : List Expr).length + ([] : List Keyword).length + (if ([] : List Keyword).isEmpty then 0 else 1) < 30)) = true := by rfl)
    (hline : (apos.endLine == cpos.line) = true := by rfl) (hs : starEach [e] X.env = (false, eval e X.env) :: starEach [] X.env := by rfl) (hplain : (backTo cpos (starEach [] X.env)).any (·.1) = false := by rfl) : CE GI X (.Call (.Attribute o "pop" apos) [e] [] cpos) (wMt "list" popR wo wr) :=
  ce_bm PySem.F.plainAttrs_list PySem.F.slot_list_pop PySem.F.type_list_pop mt_popA pop_snd ho ha hbase hfew hline hs hplain
theorem ce_insert (ho : CE GI X o wo) (ha : CA GI X [e, f] wr)
    (hbase : attributeBase o "insert" X.env (eval o X.env) = eval o X.env := by rfl)
    (hfew : ((backTo cpos (starEach [e, f] X.env)).all (fun x => !x.1) && (backToKw cpos (keywordEach [] X.env)).all (fun x => x.1.isSome) && decide (([e, f] : List Expr).length + ([] : List Keyword).length + (if ([] : List Keyword).isEmpty then 0 else 1) < 30)) = true := by rfl)
    (hline : (apos.endLine == cpos.line) = true := by rfl) (hs : starEach [e, f] X.env = (false, eval e X.env) :: starEach [f] X.env := by rfl) (hplain : (backTo cpos (starEach [f] X.env)).any (·.1) = false := by rfl) : CE GI X (.Call (.Attribute o "insert" apos) [e, f] [] cpos) (wMt "list" insR wo wr) :=
  ce_bm PySem.F.plainAttrs_list PySem.F.slot_list_insert PySem.F.type_list_insert mt_insert (fun F H c v d vs ds Qd Q r h1 h2 q k => by
    unfold insR at q
    split at q
    · obtain ⟨u, w, rfl, h3, h4⟩ := h2.inv2
      obtain ⟨es, e1, b0, b1, b2, q2⟩ := q
      obtain ⟨us, g1, k1⟩ := r.lst e1
      exact ⟨_, us, _, w, h1.ref_inv, by rw [h3.int_inv], g1, by rw [k1.length]; exact b0, b1, b2, lst_wr r e1 g1 (((k1.take _).app (.one h4)).app (k1.drop _)) .non q2 k⟩
    · exact q.elim) ho ha hbase hfew hline hs hplain
theorem ce_reverse (ho : CE GI X o wo) (hbase : attributeBase o "reverse" X.env (eval o X.env) = eval o X.env := by rfl) (hline : (apos.endLine == cpos.line) = true := by rfl) : CE GI X (.Call (.Attribute o "reverse" apos) [] [] cpos) (wMt0 "list" revR wo) :=
  ce_bm0 PySem.F.plainAttrs_list PySem.F.slot_list_reverse PySem.F.type_list_reverse mt_reverse (fun F H c v d vs ds Qd Q r h1 h2 q k => by
    unfold revR at q
    split at q
    · cases h2
      obtain ⟨es, e1, q2⟩ := q
      obtain ⟨us, g1, k1⟩ := r.lst e1
      exact ⟨_, us, h1.ref_inv, rfl, g1, lst_wr r e1 g1 k1.rev .non q2 k⟩
    · exact q.elim) ho hbase hline
theorem ce_clear (ho : CE GI X o wo) (hbase : attributeBase o "clear" X.env (eval o X.env) = eval o X.env := by rfl) (hline : (apos.endLine == cpos.line) = true := by rfl) : CE GI X (.Call (.Attribute o "clear" apos) [] [] cpos) (wMt0 "list" clrR wo) :=
  ce_bm0 PySem.F.plainAttrs_list PySem.F.slot_list_clear PySem.F.type_list_clear mt_clear (fun F H c v d vs ds Qd Q r h1 h2 q k => by
    unfold clrR at q
    split at q
    · cases h2
      obtain ⟨es, e1, q2⟩ := q
      obtain ⟨us, g1, k1⟩ := r.lst e1
      exact ⟨_, us, h1.ref_inv, rfl, g1, lst_wr r e1 g1 .nil .non q2 k⟩
    · exact q.elim) ho hbase hline
theorem ce_lindex (ho : CE GI X o wo) (ha : CA GI X [e] wr)
    (hbase : attributeBase o "index" X.env (eval o X.env) = eval o X.env := by rfl)
    (hfew : ((backTo cpos (starEach [e] X.env)).all (fun x => !x.1) && (backToKw cpos (keywordEach [] X.env)).all (fun x => x.1.isSome) && decide (([e] : List Expr).length + ([] : List Keyword).length + (if ([] : List Keyword).isEmpty then 0 else 1) < 30)) = true := by rfl)
    (hline : (apos.endLine == cpos.line) = true := by rfl) (hs : starEach [e] X.env = (false, eval e X.env) :: starEach [] X.env := by rfl) (hplain : (backTo cpos (starEach [] X.env)).any (·.1) = false := by rfl) : CE GI X (.Call (.Attribute o "index" apos) [e] [] cpos) (wMt "list" lixR wo wr) :=
  ce_bm PySem.F.plainAttrs_list PySem.F.slot_list_index PySem.F.type_list_index mt_index (fun F H c v d vs ds Qd Q r h1 h2 q k => by
    unfold lixR at q
    split at q
    · obtain ⟨u, rfl, h3⟩ := h2.inv1
      split at q
      · rename_i e1
        obtain ⟨p, xs, rfl, g1, k1⟩ := res_lst r h1 e1
        obtain ⟨b1, b2, j, e2, b3, q2⟩ := q
        obtain ⟨w, g2, g3⟩ := k1.at _ e2
        refine ⟨p, xs, u, j, w, rfl, rfl, SqL.of g1, flat_V h3 b1, flat_all k1 b2, g2, ?_, ?_, k F c H _ _ Le.rfl' r (.int _) q2⟩
        · rw [flat_eq g3 h3 b1 b1]; simp
        · intro m z hm hz
          obtain ⟨d2, g4, g5⟩ := k1.at' m hz
          rw [flat_eq g5 h3 (List.all_eq_true.mp b2 _ (List.mem_of_getElem? g4)) b1]
          exact decide_eq_false (b3 m d2 hm g4)
      · exact q.elim
    · exact q.elim) ho ha hbase hfew hline hs hplain
theorem ce_split (ho : CE GI X o wo) (ha : CA GI X [e] wr)
    (hbase : attributeBase o "split" X.env (eval o X.env) = eval o X.env := by rfl)
    (hfew : ((backTo cpos (starEach [e] X.env)).all (fun x => !x.1) && (backToKw cpos (keywordEach [] X.env)).all (fun x => x.1.isSome) && decide (([e] : List Expr).length + ([] : List Keyword).length + (if ([] : List Keyword).isEmpty then 0 else 1) < 30)) = true := by rfl)
    (hline : (apos.endLine == cpos.line) = true := by rfl) (hs : starEach [e] X.env = (false, eval e X.env) :: starEach [] X.env := by rfl) (hplain : (backTo cpos (starEach [] X.env)).any (·.1) = false := by rfl) : CE GI X (.Call (.Attribute o "split" apos) [e] [] cpos) (wMt "str" splR wo wr) :=
  ce_bm PySem.F.plainAttrs_str PySem.F.slot_str_split PySem.F.type_str_split mt_split (fun F H c v d vs ds Qd Q r h1 h2 q k => by
    unfold splR at q
    split at q
    · obtain ⟨u, rfl, h3⟩ := h2.inv1
      refine ⟨_, _, h1.str_inv, by rw [h3.str_inv], by simpa using q.1, q.2.1, fun p hp => ?_⟩
      exact newL_snd (m := false) r (DVs.strs (ns := Txt.split _ _)) (by unfold newL; rw [if_neg (by decide)]; exact q.2.2) k p hp
    · exact q.elim) ho ha hbase hfew hline hs hplain
theorem ce_partition (ho : CE GI X o wo) (ha : CA GI X [e] wr)
    (hbase : attributeBase o "partition" X.env (eval o X.env) = eval o X.env := by rfl)
    (hfew : ((backTo cpos (starEach [e] X.env)).all (fun x => !x.1) && (backToKw cpos (keywordEach [] X.env)).all (fun x => x.1.isSome) && decide (([e] : List Expr).length + ([] : List Keyword).length + (if ([] : List Keyword).isEmpty then 0 else 1) < 30)) = true := by rfl)
    (hline : (apos.endLine == cpos.line) = true := by rfl) (hs : starEach [e] X.env = (false, eval e X.env) :: starEach [] X.env := by rfl) (hplain : (backTo cpos (starEach [] X.env)).any (·.1) = false := by rfl) : CE GI X (.Call (.Attribute o "partition" apos) [e] [] cpos) (wMt "str" parR wo wr) :=
  ce_bm PySem.F.plainAttrs_str PySem.F.slot_str_partition PySem.F.type_str_partition mt_partition (fun F H c v d vs ds Qd Q r h1 h2 q k => by
    unfold parR at q
    split at q
    · obtain ⟨u, rfl, h3⟩ := h2.inv1
      refine ⟨_, _, h1.str_inv, by rw [h3.str_inv], by simpa using q.1, q.2.1, fun p hp => ?_⟩
      exact newT_snd r (.cons (.str _) (.cons (.str _) (.one (.str _)))) q.2.2 k p hp
    · exact q.elim) ho ha hbase hfew hline hs hplain
/-! ### s.index(sign) -/
def sixR : RDm := fun c d ds Q => match d, ds with
  | .str a, [.str b] => ∃ k, Txt.index0 a b = some k ∧ Q (.int (k : Nat)) c
  | _, _ => False
end
end DL
/-! the data layer: a text's index, f-strings, dicts of pairs, setdefault -/
namespace DL
open PySem PySem.Spec L2
open PyProof.Rows hiding St

section
variable {GI : Hp → Hp → Prop} {X : Cx} {o e f : Expr} {wo wk wx we : WE} {wr : WA} {apos cpos pos : Pos}
theorem ce_sindex (hc : X.calm = true) (ho : CE GI X o wo) (ha : CA GI X [e] wr)
    (hbase : attributeBase o "index" X.env (eval o X.env) = eval o X.env := by rfl)
    (hfew : ((backTo cpos (starEach [e] X.env)).all (fun x => !x.1) && (backToKw cpos (keywordEach [] X.env)).all (fun x => x.1.isSome) && decide (([e] : List Expr).length + ([] : List Keyword).length + (if ([] : List Keyword).isEmpty then 0 else 1) < 30)) = true := by rfl)
    (hline : (apos.endLine == cpos.line) = true := by rfl) (hs : starEach [e] X.env = (false, eval e X.env) :: starEach [] X.env := by rfl) (hplain : (backTo cpos (starEach [] X.env)).any (·.1) = false := by rfl) : CE GI X (.Call (.Attribute o "index" apos) [e] [] cpos) (wMt "str" sixR wo wr) := fun W x => by
  refine pe_imp (pe_bmS PySem.F.plainAttrs_str PySem.F.slot_str_index PySem.F.type_str_index (mt_indexX hc x.tk) (ho W x) (ha W x) hbase hfew hline hs hplain) ?_
  rintro σ H Q ⟨F, env, c, E, Qd, re, rp, lx, q, k⟩
  refine ⟨F, env, c, E, _, re, rp, lx, q, ?_⟩
  rintro F1 c1 H1 v d l1 r1 h1 ⟨q0, q1⟩
  refine ⟨tyDl_snd r1 h1 q0, F1, env, c1, E, _, re.le l1, r1, lx.le l1, q1, ?_⟩
  intro F2 c2 H2 vs ds l2 r2 h2 q2
  unfold sixR at q2
  split at q2
  · obtain ⟨u, rfl, h3⟩ := h2.inv1
    obtain ⟨j, e1, q3⟩ := q2
    exact ⟨_, _, (h1.le l2).str_inv, by rw [h3.str_inv], fun k' e2 => by rw [e1] at e2; cases e2; exact k F2 c2 H2 _ _ (l1.trans' l2) r2 (.int _) q3, fun e2 => by rw [e1] at e2; cases e2⟩
  · exact q2.elim
/-! ### f-strings -/
def fmtR (d : D) (c : CMap) (Q : DK) : Prop := match d with
  | .str y => y.length ≤ sizeLine ∧ Q (.str y) c
  | .int i => i.natAbs.log2 < 1920 ∧ Q (.str (toString i)) c
  | _ => False
def wFmt (a : WE) : WE := fun E env c Q => a E env c fun d c1 => fmtR d c1 Q
theorem ce_fmt (he : CE GI X e we) : CE GI X (.FormattedValue e (-1) none pos) (wFmt we) := fun W x => by
  refine pe_imp (pe_fmt (he W x)) ?_
  rintro σ H Q ⟨F, env, c, E, Qd, re, rp, lx, q, k⟩
  refine ⟨F, env, c, E, _, re, rp, lx, q, ?_⟩
  intro F1 c1 H1 v1 d1 l1 r1 h1 q1
  unfold fmtR at q1
  split at q1
  · exact .inl ⟨_, h1.str_inv, q1.1, k F1 c1 H1 _ _ l1 r1 (.str _) q1.2⟩
  · exact .inr ⟨_, h1.int_inv, q1.1, k F1 c1 H1 _ _ l1 r1 (.str _) q1.2⟩
  · exact q1.elim
end
inductive CJ (GI : Hp → Hp → Prop) (X : Cx) : List Expr → List WE → Prop where
  | nil : CJ GI X [] []
  | cons {e : Expr} {t : WE} {es : List Expr} {ts : List WE} (h : CE GI X e t) (r : CJ GI X es ts) : CJ GI X (e :: es) (t :: ts)
def asS : D → (Str → Prop) → Prop
  | .str i, k => k i
  | _, _ => False
def wJs : List WE → Str → XD → DEnv → CMap → (Str → CMap → Prop) → Prop
  | [], acc, _, _, c, Q => Q acc c
  | t :: ts, acc, E, env, c, Q => t E env c fun d c1 => asS d fun y => (acc ++ y).length ≤ sizeLine ∧ wJs ts (acc ++ y) E env c1 Q
def wJoined (ts : List WE) : WE := fun E env c Q => wJs ts Str.empty E env c fun y c1 => Q (.str y) c1
section
variable {GI : Hp → Hp → Prop} {X : Cx} {v1 v2 : Expr} {rest : List Expr} {ts : List WE} {pos : Pos}
theorem CJ.pj {W : WX} {es : List Expr} {ts : List WE} (x : XOk X W) (h : CJ GI X es ts) : PJ X es (ts.map (lowE X.K GI W)) := by
  induction h with
  | nil => exact .nil
  | cons h r ih => exact .cons (h W x) ih
theorem low_js {W : WX} : ∀ (ts : List WE) (acc : Str) (σ : L2.St) (F H : Hp) (env : DEnv) (c : CMap) (E : XD) (Qd : Str → CMap → Prop) (Q : Str → Hp → Prop), RepE X.K F env σ → Rep X.K GI F c H → LX X.K GI W F σ E → wJs ts acc E env c Qd →
    (∀ F' c' H' y, Le F F' → Rep X.K GI F' c' H' → Qd y c' → Q y H') → tJs (ts.map (lowE X.K GI W)) acc σ H Q
  | [], acc, σ, F, H, env, c, E, Qd, Q, re, rp, lx, q, k => k F c H acc Le.rfl' rp q
  | t :: ts, acc, σ, F, H, env, c, E, Qd, Q, re, rp, lx, q, k => by
    refine ⟨F, env, c, E, _, re, rp, lx, q, ?_⟩
    intro F1 c1 H1 v1 d1 l1 r1 h1 q1
    cases d1 <;> first | exact False.elim q1 | skip
    exact ⟨_, h1.str_inv, q1.1, low_js ts _ σ F1 H1 env c1 E Qd Q (re.le l1) r1 (lx.le l1) q1.2 fun F' c' H' y l => k F' c' H' y (l1.trans' l)⟩
theorem ce_joined (h : CJ GI X (v1 :: v2 :: rest) ts) : CE GI X (.JoinedStr (v1 :: v2 :: rest) pos) (wJoined ts) := fun W x => by
  refine pe_imp (pe_joined (h.pj x)) ?_
  rintro σ H Q ⟨F, env, c, E, Qd, re, rp, lx, q, k⟩
  exact low_js ts _ σ F H env c E _ _ re rp lx q fun F' c' H' y l r z => k F' c' H' _ _ l r (.str y) z
end
/-! ### dict(pairs), dict(d) -/
def pairD (c : CMap) (d : D) : Option (Key × D) := match res c d with
  | .tup [k, v] => (keyD k).map fun x => (x, v)
  | .kt [k, v] => (keyD k).map fun x => (x, v)
  | _ => none
def pairsD (c : CMap) : List D → Option (List (Key × D))
  | [] => some []
  | d :: ds => match pairD c d, pairsD c ds with
    | some p, some ps => some (p :: ps)
    | _, _ => none
def mergeKD (kvs more : List (Key × D)) : List (Key × D) := more.foldl (fun acc kv => putKD acc kv.1 kv.2) kvs
def dictPR : RDn := fun c ds Q => match ds with
  | [d] => match res c d with
    | .lst es => ∃ ps, pairsD c es = some ps ∧ ∀ p, c p = none → Q (.ref p) (updc c p (.dK (mergeKD [] ps)))
    | .ref a => ∃ kvs, c a = some (.dK kvs) ∧ ∀ p, c p = none → Q (.ref p) (updc c p (.dK kvs))
    | _ => False
  | _ => False
section
variable {K : PySem.W.Frag} {GI : Hp → Hp → Prop} {F H : Hp} {c : CMap}
theorem pairD_snd {v : V} {d : D} {p : Key × D} (r : Rep K GI F c H) (h : DV K F v d) (e : pairD c d = some p) : ∃ a u, v = .ref a ∧ SqT K H a [kV p.1, u] ∧ DV K F u p.2 := by
  unfold pairD at e
  split at e
  · rename_i k x e1
    obtain rfl := res_oth e1 (by intro _ z; cases z)
    obtain ⟨a, xs, rfl, g, kk⟩ := h.tup_inv
    obtain ⟨y, z, rfl, h1, h2⟩ := kk.inv2
    cases e2 : keyD k with
    | none => rw [e2] at e; cases e
    | some x' =>
      rw [e2] at e
      cases e
      exact ⟨a, z, rfl, by rw [← keyD_kV h1 e2]; exact SqT.of (r.sub _ _ g), h2⟩
  · rename_i k x e1
    obtain rfl := res_oth e1 (by intro _ z; cases z)
    obtain ⟨a, xs, rfl, g, kk⟩ := h.kt_inv
    obtain ⟨y, z, rfl, h1, h2⟩ := kk.inv2
    cases e2 : keyD k with
    | none => rw [e2] at e; cases e
    | some x' =>
      rw [e2] at e
      cases e
      exact ⟨a, z, rfl, by rw [← keyD_kV h1 e2]; exact sqT_le r.sub g, h2⟩
  · cases e
theorem pairsD_snd (r : Rep K GI F c H) : ∀ {vs : List V} {ds : List D} {ps : List (Key × D)}, DVs K F vs ds → pairsD c ds = some ps → ∃ (as : List Addr) (us : List (Key × V)), vs = as.map V.ref ∧ Paired (fun p kv => SqT K H p [kV kv.1, kv.2]) as us ∧ KD K F us ps
  | _, _, _, .nil, e => by cases e; exact ⟨[], [], rfl, .nil, .nil⟩
  | _, _, _, .cons (d := d) (ds := ds) h k, e => by
    unfold pairsD at e
    split at e
    · rename_i p ps e1 e2
      cases e
      obtain ⟨a, u, rfl, g1, g2⟩ := pairD_snd r h e1
      obtain ⟨as, us, rfl, g3, g4⟩ := pairsD_snd r k e2
      exact ⟨a :: as, (p.1, u) :: us, rfl, .cons g1 g3, .cons ⟨rfl, g2⟩ g4⟩
    · cases e
theorem KD.merge {us more : List (Key × V)} {es more' : List (Key × D)} (h : KD K F us es) (h2 : KD K F more more') : KD K F (mergeK us more) (mergeKD es more') := by
  unfold KD at h2
  induction h2 generalizing us es with
  | nil => exact h
  | @cons a b l1 l2 q t ih =>
    have h3 : KD K F (putK us a.1 a.2) (putKD es b.1 b.2) := by rw [← q.1]; exact h.put _ q.2
    exact ih h3
end
theorem dictP_snd {GI : Hp → Hp → Prop} {X : Cx} : SndN X.K GI (fun xs H Q => (∃ (a : Addr) (ps : List Addr) (kvs : List (Key × V)), xs = [.ref a] ∧ SqL X.K H a (ps.map V.ref) ∧ Paired (fun p kv => SqT X.K H p [kV kv.1, kv.2]) ps kvs ∧ ∀ p, H p = none → Q (.ref p) (upd H p (.dK (mergeK [] kvs)))) ∨
    ∃ (a : Addr) (kvs : List (Key × V)), xs = [.ref a] ∧ Rd H a (.dK kvs) ∧ ∀ p, H p = none → Q (.ref p) (upd H p (.dK kvs))) dictPR := by
  intro F H c vs ds Qd Q r h q k
  unfold dictPR at q
  split at q
  · obtain ⟨v, rfl, h0⟩ := h.inv1
    split at q
    · rename_i e1
      obtain ⟨p, xs, rfl, g1, k1⟩ := res_lst r h0 e1
      obtain ⟨ps, e2, q2⟩ := q
      obtain ⟨as, us, rfl, g3, g4⟩ := pairsD_snd r k1 e2
      exact .inl ⟨p, as, us, rfl, SqL.of g1, g3, fun p' hp => k F _ _ _ _ Le.rfl' (r.newC (k := .dK _) hp ⟨_, rfl, KD.merge .nil g4⟩) (.ref p') (q2 p' (r.frc hp))⟩
    · rename_i e1
      obtain rfl := res_oth e1 (by intro _ z; cases z)
      obtain ⟨kvs, e2, q2⟩ := q
      obtain ⟨_, o, h1, us, rfl, h2⟩ := r.cel _ _ e2
      exact .inr ⟨_, us, by rw [h0.ref_inv], .inl h1, fun p' hp => k F _ _ _ _ Le.rfl' (r.newC (k := .dK kvs) hp ⟨_, rfl, h2⟩) (.ref p') (q2 p' (r.frc hp))⟩
    · exact q.elim
  · exact q.elim
theorem ce_dictc {GI : Hp → Hp → Prop} {X : Cx} {e : Expr} {wr : WA} {p pos : Pos} (hc : X.calm = true) (hm : X.mg "dict" = none) (ha : CA GI X [e] wr) (hg : Gl X "dict" := by rfl) (he : starEach [e] X.env = (false, eval e X.env) :: starEach [] X.env := by rfl) (hpl : (backTo pos (starEach [] X.env)).any (·.1) = false := by rfl) :
    CE GI X (.Call (.Name "dict" p) [e] [] pos) (wFn dictPR wr) := ce_bcl ((call_dictP hc).or call_dictD) dictP_snd hm ha (hg := hg) (he := he) (hpl := hpl)
end DL
/-! the data layer: the law's call where defs make functions -/
namespace DL
open PySem PySem.Spec L2
open PyProof.Rows hiding St
/-- tables of code objects stand; none of them is known for ever -/
def GIT (T : List (Addr × Str)) : Hp → Hp → Prop := fun F H => LamX.Tabs T H ∧ ∀ b ps, F b ≠ some (.tbl ps)
theorem tabs_upd {T : List (Addr × Str)} {H : Hp} {p : Addr} {o : HO} (t : LamX.Tabs T H) (h1 : ∀ ps, H p ≠ some (.tbl ps)) (h2 : ∀ c q, H p ≠ some (LamX.CodeO c q)) : LamX.Tabs T (upd H p o) := by
  intro x hx
  obtain ⟨ps, e1, e2, e3⟩ := t x hx
  refine ⟨ps, by rw [upd_ne (fun z => h1 ps (by rw [← z]; exact e1))]; exact e1, e2, fun pos cv hc => ?_⟩
  obtain ⟨c, e4, e5⟩ := e3 pos cv hc
  exact ⟨c, e4, by rw [upd_ne (fun z => h2 c x.2 (by rw [← z]; exact e5))]; exact e5⟩
theorem notbl_upd {F : Hp} {p : Addr} {o : HO} (h : ∀ b ps, F b ≠ some (.tbl ps)) (n : ∀ ps, o ≠ .tbl ps) : ∀ b ps, upd F p o b ≠ some (.tbl ps) := by
  intro b ps z
  by_cases e : b = p
  · subst e; rw [upd_same] at z; cases z; exact n ps rfl
  · rw [upd_ne e] at z; exact h b ps z
theorem lamG_git (T : List (Addr × Str)) : LamG (GIT T) T where
  gg := ⟨fun F H p o h n => ⟨tabs_upd h.1 (by rw [n]; intro _ z; cases z) (by rw [n]; intro _ _ z; cases z), h.2⟩,
    fun F H p o h f n nt => ⟨tabs_upd h.1 (by rw [n]; intro _ z; cases z) (by rw [n]; intro _ _ z; cases z), notbl_upd h.2 nt⟩,
    fun F H p o h m => ⟨tabs_upd h.1 (fun ps z => by rw [z] at m; exact m) (fun c q z => by rw [z] at m; exact m), h.2⟩,
    fun F H p o h f e nt => ⟨h.1, notbl_upd h.2 nt⟩⟩
  tabs := fun F H h => h.1
  notbl := fun F H h => h.2
  step := fun F H H1 h e t => ⟨t, h.2⟩
  code := fun F H c q h l e => ⟨h.1, notbl_upd h.2 (fun _ z => by unfold LamX.CodeO at z; cases z)⟩
theorem law_spT {K : PySem.W.Frag} {T : List (Addr × Str)} {H : Hp} {a : Addr} {ns : List Int} (hT : ∀ p ∈ T, H p.1 = some (.tbl #[])) (hl : ns.length ≤ 63) (h : SqL K H a (ns.map V.int)) : lowSp K (GIT T) sp_law [.ref a] H (fun v _ => v = .bl true) fun _ _ _ => False := by
  let F : Hp := fun b => match H b with | some (.tbl _) => none | o => o
  have le : Le F H := fun b o e => by
    show H b = some o
    revert e
    show (match H b with | some (.tbl _) => none | o => o) = some o → _
    split
    · intro z; cases z
    · exact id
  have hF : ∀ b o, H b = some o → (∀ ps, o ≠ .tbl ps) → F b = some o := fun b o e n => by
    show (match H b with | some (.tbl _) => none | o => o) = some o
    rw [e]
    split
    · rename_i z; cases z; exact absurd rfl (n _)
    · rfl
  have hS : SqL K F a (ns.map V.int) := by
    rcases h with (e | ⟨o, e⟩) | e
    · exact .inl (.inl (hF _ _ e (fun _ z => by cases z)))
    · exact .inl (.inr ⟨o, hF _ _ e (fun _ z => by cases z)⟩)
    · exact .inr e
  have nt : ∀ b ps, F b ≠ some (.tbl ps) := fun b ps => by
    show (match H b with | some (.tbl _) => none | o => o) ≠ _
    split
    · intro z; cases z
    · rename_i o hn; intro z; exact hn ps z
  refine ⟨F, [.scr ns], fun _ => none, fun _ _ _ => False, fun d _ => d = .bl true, .one (.scr hS), ⟨le, (fun a k e => by cases e), ⟨fun p hp => LamX.TabS.nil (hT p hp), nt⟩, (lamG_git T).gg⟩, ⟨ns, rfl, hl, fun _ => rfl⟩, ?_, ?_⟩
  · rintro F c H' v d _ _ hd rfl
    exact hd.bl_inv
  · rintro F c H' cls od _ _ q
    exact q
theorem tabB_up {B B' : Heap} {mg : Str → Option Value} {c P : Addr} (t : LamX.TabB B mg c P) (k : ∀ b o, B.get? b = some o → B'.get? b = some o) : LamX.TabB B' mg c P := ⟨t.code.keeps k, t.bm.keeps k, t.gP⟩
theorem hasG_ofC {GI : Hp → Hp → Prop} {P : Program} {w : World} {K : PySem.W.Frag} {mg : Str → Option Value} {base h : Heap} {x qual : Str} {st : Stmt} {f : Addr} {fd : FuncData} {N ps : List Str} {k n : Nat} {sp : DSpec} {ws : WS}
    (X : K.In h) (G : h.Ns mainGlobals mg) (D : DefAt K x qual st f fd) (hb : Binds K fd ps []) (S : FnScope N ps (defScope st)) (hn : ps.length = n) (len : ∀ ds c E Q, sp ds c E Q → ds.length = ps.length)
    (body : ∀ (A : Around) (outer : List Env) (s : Shared) (H : Hp) (E : XK), Room k (A.deeper (envOfC qual (defScope st) s.heap.objs.size f (.ref (He.codeOf K (x, none))))) →
      CSs GI (cxOf (L2.CX P w) P w K mg base N qual (defScope st) f (.ref (He.codeOf K (x, none))) A outer s H E) (defBody st) ws)
    (ok : ∀ ds c (E : XD) (Q : DK), sp ds c E Q → ws (endD E Q) (startE N.length ds) c) : HasG GI P w K mg base (k + 1) x n sp :=
  ⟨f, PySem.W.mg_of X G D.ns, ⟨fd, ps, hn, D.fn.kp, hb, fnok_ofC D.fn D.at_ S len body ok⟩⟩
/-- the makers' tables, each with the name that its functions bear -/
abbrev Mks : Type := List (He.Defn × Str)
def tabsM (K : PySem.W.Frag) (m : Mks) : List (Addr × Str) := m.map fun p => ((He.cT K p.1).2, p.2)
def csM (K : PySem.W.Frag) (m : Mks) : List (Addr × Addr) := m.map fun p => He.cT K p.1
def ndM (m : Mks) (K : PySem.W.Frag) : Bool := decide ((m.map fun p => (He.cT K p.1).2).Nodup)
theorem tabsM_mem {K : PySem.W.Frag} {m : Mks} {p : He.Defn × Str} (h : p ∈ m) : ((He.cT K p.1).2, p.2) ∈ tabsM K m := List.mem_map.mpr ⟨p, h, rfl⟩
theorem csM_mem {K : PySem.W.Frag} {m : Mks} {p : He.Defn × Str} (h : p ∈ m) : He.cT K p.1 ∈ csM K m := List.mem_map.mpr ⟨p, h, rfl⟩
theorem nd_inj {α β : Type} {f : α → β} {l : List α} (h : (l.map f).Nodup) {a b : α} (ha : a ∈ l) (hb : b ∈ l) (e : f a = f b) : a = b := by
  induction l with
  | nil => cases ha
  | cons x l ih =>
    rw [List.map_cons, List.nodup_cons] at h
    by_cases h1 : a = x
    · by_cases h2 : b = x
      · rw [h1, h2]
      · have hb' : b ∈ l := by rcases List.mem_cons.mp hb with z | z; exact absurd z h2; exact z
        exact absurd (List.mem_map.mpr ⟨b, hb', by rw [← e, h1]⟩) h.1
    · have ha' : a ∈ l := by rcases List.mem_cons.mp ha with z | z; exact absurd z h1; exact z
      by_cases h2 : b = x
      · exact absurd (List.mem_map.mpr ⟨a, ha', by rw [e, h2]⟩) h.1
      · exact ih h.2 ha' (by rcases List.mem_cons.mp hb with z | z; exact absurd z h2; exact z)
theorem tabsM_hu {K : PySem.W.Frag} {m : Mks} (nd : ndM m K = true) {p : He.Defn × Str} (h : p ∈ m) : ∀ q ∈ tabsM K m, q.1 = (He.cT K p.1).2 → q.2 = p.2 := by
  intro q hq e
  obtain ⟨r, hr, rfl⟩ := List.mem_map.mp hq
  have := nd_inj (of_decide_eq_true nd) hr h e
  rw [this]
theorem emptyM {K : PySem.W.Frag} {h : Heap} {m : Mks} (c : ∀ p ∈ m.map (·.1), h.get? (He.cT K p).2 = some { cls := .none, data := .fields #[] }) : ∀ p ∈ csM K m, h.get? p.2 = some { cls := .none, data := .fields #[] } := by
  intro p hp
  obtain ⟨r, hr, rfl⟩ := List.mem_map.mp hp
  exact c r.1 (List.mem_map.mpr ⟨r, hr, rfl⟩)
theorem outM {K : PySem.W.Frag} {m : Mks} (c : ∀ p ∈ m.map (·.1), K.lookup (He.cT K p).2 = none) : ∀ p ∈ csM K m, K.lookup p.2 = none := by
  intro p hp
  obtain ⟨r, hr, rfl⟩ := List.mem_map.mp hp
  exact c r.1 (List.mem_map.mpr ⟨r, hr, rfl⟩)
theorem codeM {K : PySem.W.Frag} {h : Heap} {m : Mks} (KX : K.In h) (c : ∀ p ∈ m.map (·.1), PySem.W.codeHdIn K (He.cT K p).1 (He.cT K p).2 = true) : ∀ p ∈ csM K m, PySem.W.CodeHd h p.1 p.2 := by
  intro p hp
  obtain ⟨r, hr, rfl⟩ := List.mem_map.mp hp
  exact PySem.W.codeHd_of_K KX (c r.1 (List.mem_map.mpr ⟨r, hr, rfl⟩))
theorem tblM {K : PySem.W.Frag} {H : Hp} {m : Mks} (c : ∀ p ∈ csM K m, H p.2 = some (.tbl #[])) : ∀ p ∈ tabsM K m, H p.1 = some (.tbl #[]) := by
  intro p hp
  obtain ⟨r, hr, rfl⟩ := List.mem_map.mp hp
  exact c _ (csM_mem hr)
end DL
/-! the data layer: how the further constructs are gone through -/
namespace DL
open PySem PySem.Spec L2
open PyProof.Rows hiding St
section
variable {E : XD} {env env' : DEnv} {c c1 : CMap} {Q : DK} {DD : DEnds} {i j l : Nat} {d e x y : D} {ds es xs : List D} {p f : Addr} {sp : DSpec} {Φ : FEnv}
theorem wCall0_i (h : sp [] c E Q) : wCall0 sp E env c Q := h
theorem wCallV_i {r : WA} (h : getE env i = some (.ref f)) (hf : Φ f = some sp) (q : r E env c fun ds c1 => sp ds c1 E Q) : wCallV Φ i r E env c Q := by
  refine ⟨.ref f, h, ⟨f, sp, rfl, hf⟩, ?_⟩
  have e : (fun (ds : List D) (c1 : CMap) => callF Φ (.ref f) ds c1 E Q) = fun ds c1 => sp ds c1 E Q := by
    funext ds c1
    refine propext ⟨fun ⟨f', sp', e1, e2, q⟩ => ?_, fun q => ⟨f, sp, rfl, hf, q⟩⟩
    cases e1; rw [hf] at e2; cases e2; exact q
  rw [e]; exact q
theorem wCallL_i {S : FEnv → DSpec} {lam : DEnv → DSpec} {r : WA} (q : r E env c fun ds c1 => ∀ f, S (addF Φ f (lam env)) (ds ++ [.ref f]) c1 E Q) : wCallL S Φ lam r E env c Q := q
theorem addF_same {sp : DSpec} : addF Φ f sp f = some sp := by unfold addF; rw [if_pos rfl]
theorem spLam_i {n m : Nat} {we : WE} {cs : DEnv} (h : ds.length = m) (q : we E (startL n ds cs) c (wkQ Q)) : spLam n m we cs ds c E Q := ⟨h, q⟩
theorem wkQ_i (q : Q d c) : wkQ Q d c := ⟨c, SubC.rfl', q⟩
theorem wChain_i {R R' : RD2} {a b t : WE} (q : a E env c fun d c1 => b E env c1 fun e c2 => R c2 d e fun z c3 => asB z c3 fun k c4 => if k = true then t E env c4 fun f c5 => R' c5 e f Q else Q (.bl false) c4) : wChain R R' a b t E env c Q := q
theorem wAug_i {R : RD2} {a : WE} (h : getE env i = some d) (q : a (exE DD env) env c fun e c1 => R c1 d e fun z c2 => DD.nx (env.set i (some z)) c2) : wAug i R a DD env c := ⟨d, h, q⟩
theorem addI_i {a b : Int} (q : Q (.int (a + b)) c) : addI c (.int a) (.int b) Q := q
theorem mulI_i {a b : Int} (h : CMul a b) (q : Q (.int (a * b)) c) : mulI c (.int a) (.int b) Q := ⟨h, q⟩
theorem wPar2_i {r : WA} (q : r (exE DD env) env c fun ds c1 => ∃ u v, ds = [u, v] ∧ DD.nx ((env.set i (some u)).set j (some v)) c1) : wPar2 i j r DD env c := q
theorem wPar3_i {r : WA} (q : r (exE DD env) env c fun ds c1 => ∃ u v w, ds = [u, v, w] ∧ DD.nx (((env.set i (some u)).set j (some v)).set l (some w)) c1) : wPar3 i j l r DD env c := q
theorem ex2_i {A : D → D → Prop} {u v : D} (q : A u v) : ∃ u' v', [u, v] = [u', v'] ∧ A u' v' := ⟨u, v, rfl, q⟩
theorem ex3_i {A : D → D → D → Prop} {u v w : D} (q : A u v w) : ∃ u' v' w', [u, v, w] = [u', v', w'] ∧ A u' v' w' := ⟨u, v, w, rfl, q⟩
theorem wMt0_i {T : String} {R : RDm} {o : WE} (q : o E env c fun d c1 => tyDl T c1 d ∧ R c1 d [] Q) : wMt0 T R o E env c Q := q
theorem wSl3_i {m : Bool} {a : WE} {lo hi st : WO} (q : a E env c fun d c1 => lo E env c1 fun l c2 => hi E env c2 fun h c3 => st E env c3 fun k c4 => sl3R m c4 d l h k Q) : wSl3 m a lo hi st E env c Q := q
theorem sl3_l {m : Bool} {lo hi st : Option Int} (h : st ≠ some 0) (h2 : (pickG ds lo hi st).length ≤ 16777216) (q : newL m c (pickG ds lo hi st) Q) : sl3R m c (.lst ds) lo hi st Q := ⟨h, len_le h2, q⟩
theorem sl3_s {m : Bool} {lo hi : Option Int} {k : Int} {z : Str} (h0 : k ≠ 0) (h1 : k ≠ 1) (h2 : (Builtin.Str.strSliceIndices lo hi k z.length).length ≤ 16777216) (q : Q (.str ⟨((Builtin.Str.strSliceIndices lo hi k z.length).filterMap (z.cps[·]?)).toArray⟩) c) : sl3R m c (.str z) lo hi (some k) Q := ⟨k, rfl, h0, h1, len_le h2, q⟩
theorem wFmt_i {a : WE} (q : a E env c fun d c1 => fmtR d c1 Q) : wFmt a E env c Q := q
theorem fmt_s {y : Str} (h : y.length ≤ 16777216) (q : Q (.str y) c) : fmtR (.str y) c Q := ⟨len_le h, q⟩
theorem fmt_i {k : Int} (h : k.natAbs.log2 < 1920) (q : Q (.str (toString k)) c) : fmtR (.int k) c Q := ⟨h, q⟩
theorem wJoined_i {ts : List WE} (q : wJs ts Str.empty E env c fun y c1 => Q (.str y) c1) : wJoined ts E env c Q := q
theorem wJs_nil {acc : Str} {N : Str → CMap → Prop} (q : N acc c) : wJs [] acc E env c N := q
theorem wJs_cons {t : WE} {ts : List WE} {acc : Str} {N : Str → CMap → Prop} (q : t E env c fun d c1 => asS d fun y => (acc ++ y).length ≤ sizeLine ∧ wJs ts (acc ++ y) E env c1 N) : wJs (t :: ts) acc E env c N := q
theorem asS_i {y : Str} {N : Str → Prop} (q : N y) : asS (.str y) N := q
theorem ext_c {xs : List D} (h : c p = some (.lst es)) (h2 : res c e = .lst xs) (h3 : es.length + xs.length ≤ 16777216) (q : Q .non (updc c p (.lst (es ++ xs)))) : extR c (.ref p) [e] Q := ⟨es, xs, h, h2, len_le h3, q⟩
theorem pop_c (h : c p = some (.lst es)) (h2 : es[es.length - 1]? = some y) (q : Q y (updc c p (.lst es.dropLast))) : popR c (.ref p) [] Q := ⟨es, y, h, h2, q⟩
theorem seqIx {n k : Nat} (h : k < n) : PySem.seqIndex? (k : Int) n = some k := by
  unfold PySem.seqIndex?
  have e : ¬ (k : Int) < 0 := by omega
  simp only [e, if_false]
  rw [if_pos (by simp; omega)]; simp
theorem popAt_c {k : Nat} (h : c p = some (.lst es)) (hi : (k : Int) < 2 ^ 63) (h2 : es[k]? = some y) (q : Q y (updc c p (.lst (es.eraseIdx k)))) : popR c (.ref p) [.int (k : Nat)] Q :=
  ⟨es, k, y, h, by omega, hi, seqIx (List.getElem?_eq_some_iff.mp h2).1, h2, q⟩
theorem ins_c {k : Int} (h : c p = some (.lst es)) (h1 : es.length < 16777216) (h2 : 0 ≤ k) (h3 : k < 2 ^ 63) (q : Q .non (updc c p (.lst (es.take k.toNat ++ [y] ++ es.drop k.toNat)))) : insR c (.ref p) [.int k, y] Q := ⟨es, h, len_lt h1, h2, h3, q⟩
theorem rev_c (h : c p = some (.lst es)) (q : Q .non (updc c p (.lst es.reverse))) : revR c (.ref p) [] Q := ⟨es, h, q⟩
theorem clr_c (h : c p = some (.lst es)) (q : Q .non (updc c p (.lst []))) : clrR c (.ref p) [] Q := ⟨es, h, q⟩
theorem lix_l (h : res c d = .lst es) (h1 : flatD y = true) (h2 : es.all flatD = true) (h3 : es[j]? = some y) (h4 : ∀ m z, m < j → es[m]? = some z → z ≠ y) (q : Q (.int (j : Nat)) c) : lixR c d [y] Q := by
  unfold lixR; dsimp only; rw [h]; exact ⟨h1, h2, j, h3, h4, q⟩
theorem spl_s {a b : Str} (h1 : b.length ≠ 0) (h2 : a.length + 2 ≤ 16777216) (q : Q (.lst ((Txt.split a b).map D.str)) c) : splR c (.str a) [.str b] Q := ⟨h1, len_le h2, q⟩
theorem par_s {a b : Str} (h1 : b.length ≠ 0) (h2 : a.length ≤ 16777216) (q : Q (.tup [.str (Txt.partition a b).1, .str (Txt.partition a b).2.1, .str (Txt.partition a b).2.2]) c) : parR c (.str a) [.str b] Q := ⟨h1, len_le h2, q⟩
theorem six_s {a b : Str} {k : Nat} (h : Txt.index0 a b = some k) (q : Q (.int (k : Nat)) c) : sixR c (.str a) [.str b] Q := ⟨k, h, q⟩
theorem dict_l {ps : List (Key × D)} (h : res c d = .lst es) (h2 : pairsD c es = some ps) (q : ∀ p, c p = none → Q (.ref p) (updc c p (.dK (mergeKD [] ps)))) : dictPR c [d] Q := by
  unfold dictPR; dsimp only; rw [h]; exact ⟨ps, h2, q⟩
theorem dict_d {kvs : List (Key × D)} (h : c p = some (.dK kvs)) (q : ∀ p', c p' = none → Q (.ref p') (updc c p' (.dK kvs))) : dictPR c [.ref p] Q := by
  unfold dictPR; dsimp only; rw [res_K h]; exact ⟨kvs, h, q⟩
theorem ty_l {es : List D} : tyDl "list" c (.lst es) := rfl
theorem min_l {ns : List Int} (h : res c d = .lst ds) (h1 : intsD ds = some ns) (h2 : 0 < ns.length) (q : ∀ m, m ∈ ns → (∀ y, y ∈ ns → m ≤ y) → Q (.int m) c) : minLR c [d] Q := by
  unfold minLR; dsimp only; rw [h]; exact ⟨ns, h1, h2, q⟩
theorem max_l {ns : List Int} (h : res c d = .lst ds) (h1 : intsD ds = some ns) (h2 : 0 < ns.length) (q : ∀ m, m ∈ ns → (∀ y, y ∈ ns → y ≤ m) → Q (.int m) c) : maxLR c [d] Q := by
  unfold maxLR; dsimp only; rw [h]; exact ⟨ns, h1, h2, q⟩
theorem sum_l {ns : List Int} (h : res c d = .lst ds) (h1 : intsD ds = some ns) (q : Q (.int ns.sum) c) : sumR c [d] Q := by
  unfold sumR; dsimp only; rw [h]; exact ⟨ns, h1, q⟩
theorem is_n {n : Bool} (q : Q (.bl (n ^^ decide (d = .non))) c) : isNR n c d .non Q := q
end
end DL
/-! the data layer: defs with defaults -/
namespace DL
open PySem PySem.Spec L2
open PyProof.Rows hiding St
structure DefAtD (K : PySem.W.Frag) (x qual : Str) (st : Stmt) (f : Addr) (fd : FuncData) (dvs : List V) : Prop where
  ns : PySem.W.nsIn K mainGlobals x = some (some (.ref f))
  fn : FunD K x qual (defArgs st) (defBody st) (defScope st) dvs [] f fd
theorem defAtD_of {K : PySem.W.Frag} {fa : List He.Fa} {fn : List He.DefD} {x qual : Str} {st : Stmt} {dl : List He.Dv} (c : He.SaysD fa fn K) (i j : Nat) (h : fn[i]? = some ⟨(x, none), x, qual, defArgs st, defBody st, defScope st, dl, []⟩) (h2 : fa[j]? = some (.glo x)) : ∃ f fd, DefAtD K x qual st f fd (dl.map (He.Dv.v K)) := by
  obtain ⟨fd, F⟩ := c.def_ i h
  exact ⟨He.ga K x, fd, He.eqO_ok (c.fact j h2), F⟩
abbrev HasGD (GI : Hp → Hp → Prop) (P : Program) (w : World) (K : PySem.W.Frag) (mg : Str → Option Value) (base : Heap) (k : Nat) (x : Str) (dds : List D) (sp : DSpec) : Prop :=
  ∃ f, mg x = some (.ref f) ∧ ∃ fd ps ds dvs, PySem.W.keepIn K (.ref f) = true ∧ Binds K fd ps ds ∧ Vals dvs ds ∧ (∀ F, DVs K F dvs dds) ∧ FnOk P w K mg base (L2.CX P w) k f fd ps (lowSp K GI sp)
def wCallD (sp : DSpec) (dds : List D) (r : WA) : WE := fun E env c Q => r E env c fun ds c1 => sp (ds ++ dds) c1 E Q
theorem ce_callD {GI : Hp → Hp → Prop} {X : Cx} {x : Str} {p pos : Pos} {e : Expr} {es : List Expr} {wr : WA} {sp : DSpec} {k : Nat} {dds : List D} (h : HasGD GI X.prog X.w X.K X.mg X.base k x dds sp) (hr : Room k X.A) (ha : CA GI X (e :: es) wr) (hg : Gl X x := by rfl) (hdb : (x == ("__debug__" : Str)) = false := by decide)
    (he : starEach (e :: es) X.env = (false, eval e X.env) :: starEach es X.env := by rfl) (hpl : (backTo pos (starEach es X.env)).any (·.1) = false := by rfl) : CE GI X (.Call (.Name x p) (e :: es) [] pos) (wCallD sp dds wr) := fun W xo => by
  obtain ⟨f, hm, fd, ps, dsv, dvs, kp, b, hv, hd, F⟩ := h
  refine pe_imp (pe_callSD F hr hg hm kp b hv (fun σ => passAt xo.tk σ) (ha W xo) hdb he hpl) ?_
  rintro σ H Q ⟨F, env, c, E, Qd, re, rp, lx, q, k⟩
  refine ⟨F, env, c, E, _, re, rp, lx, q, ?_⟩
  intro F1 c1 H1 vs ds l1 r1 h1 q1
  exact ⟨F1, ds ++ dds, c1, E, Qd, h1.app (hd F1), r1, q1, k.le l1, lx.le l1⟩
section
variable {GI : Hp → Hp → Prop} {P : Program} {w : World} {K : PySem.W.Frag} {mg : Str → Option Value} {base h : Heap} {x qual : Str} {st : Stmt} {f : Addr} {fd : FuncData} {N ps : List Str} {k n j : Nat} {sp : DSpec} {ws : WS} {dvs : List V} {dds : List D}
theorem HasGD.mono {i : Nat} (h : HasGD GI P w K mg base i x dds sp) (l : i ≤ k) : HasGD GI P w K mg base k x dds sp := by
  obtain ⟨f, a, fd, ps, ds, dvs, h1, h2, h3, h4, h5⟩ := h
  exact ⟨f, a, fd, ps, ds, dvs, h1, h2, h3, h4, h5.mono l⟩
theorem hasGD_of (X : K.In h) (G : h.Ns mainGlobals mg) (D : DefAtD K x qual st f fd dvs) (hb : ∃ ds, Vals (dvs.drop j) ds ∧ Binds K fd ps ds) (S : FnScope N ps (defScope st)) (hd : ∀ F, DVs K F (dvs.drop j) dds) (len : ∀ ds c E Q, sp ds c E Q → ds.length = ps.length)
    (body : ∀ (cdv : Value) (A : Around) (outer : List Env) (s : Shared) (H : Hp) (E : XK), Room k (A.deeper (envOfC qual (defScope st) s.heap.objs.size f cdv)) →
      CSs GI (cxOf (L2.CX P w) P w K mg base N qual (defScope st) f cdv A outer s H E) (defBody st) ws)
    (ok : ∀ ds c (E : XD) (Q : DK), sp ds c E Q → ws (endD E Q) (startE N.length ds) c) : HasGD GI P w K mg base (k + 1) x dds sp := by
  obtain ⟨dsv, hv, b⟩ := hb
  refine ⟨f, PySem.W.mg_of X G D.ns, fd, ps, dsv, _, D.fn.kp, b, hv, hd, ?_⟩
  obtain ⟨oc, od, dV, kV, doc, pm, an, cdv, ct, osl, rfl, lk, hcd, _, _⟩ := D.fn.ex
  refine fn_of lk hcd S (fun vs H Q E h => ?_) fun A outer s H vs Q E hr h => ?_
  · obtain ⟨G, ds, c, E', Qd, h1, h2, h3, _⟩ := h
    rw [h1.length, len _ _ _ _ h3]
  · obtain ⟨G, ds, c, E', Qd, h1, h2, h3, h4, h5⟩ := h
    refine ⟨_, body cdv A outer s H E hr (fun cls d _ H => E cls d H) ⟨S.nd, takes_of rfl rfl rfl rfl, PassesOwn.leaving⟩, G, _, c, _, RepE.start h1, h2, ok ds c E' Qd h3, ⟨?_, ?_, ?_, ?_, ?_⟩⟩
    · rintro G' env' c' σ' H' l re r ⟨c2, s2, q⟩
      exact h4 G' c2 H' _ _ l (r.sub' s2) .non q
    · rintro G' c' H' v d l r hd ⟨c2, s2, q⟩
      exact h4 G' c2 H' _ _ l (r.sub' s2) hd q
    · rintro G' env' c' σ' H' l re r q
      exact q
    · rintro G' env' c' σ' H' l re r q
      exact q
    · rintro G' env' c' σ' H' cls od l re r ⟨c2, s2, q⟩
      exact h5 G' c2 H' cls od l (r.sub' s2) q
end
theorem wCallD_i {E : XD} {env : DEnv} {c : CMap} {Q : DK} {sp : DSpec} {dds : List D} {r : WA} (q : r E env c fun ds c1 => sp (ds ++ dds) c1 E Q) : wCallD sp dds r E env c Q := q
theorem eq_bb {c : CMap} {Q : DK} {n a b : Bool} (q : Q (.bl (n ^^ decide (a = b))) c) : eqR n c (.bl a) (.bl b) Q := q
end DL
/-! the data layer: exceptions -/
namespace DL
open PySem PySem.Spec L2
open PyProof.Rows hiding St
/-- a class of errors, as the top leaves it -/
structure ExcD (K : PySem.W.Frag) (mg : Str → Option Value) (x : Str) : Prop where
  g : mg x = some (.ref (He.ga K x))
  q : PySem.W.excIn K (He.ga K x) He.veBase "ValueError.__new__" = true
  k : PySem.W.keepIn K (.ref (He.ga K x)) = true
  b : PySem.W.subIn K (.ref (He.ga K x)) (.type "BaseException") = some true
  t : PySem.W.typeIn K (.ref (He.ga K x)) = some (.type "type")
theorem excD_of {K : PySem.W.Frag} {h : Heap} {fa : List He.Fa} {fn : List He.DefD} {x : Str} (X : K.In h) (c : He.SaysD fa fn K) (i j : Nat) (h1 : fa[i]? = some (.glo x)) (h2 : fa[j]? = some (.exc x)) (mg : Str → Option Value) (G : h.Ns mainGlobals mg) : ExcD K mg x := by
  obtain ⟨a, b, d, e⟩ := He.exc_ok (c.fact j h2)
  exact ⟨He.glo_ok X G (c.fact i h1), a, b, d, e⟩
def excV (K : PySem.W.Frag) (x : Str) : Value := .ref (He.ga K x)
/-- raise X('..') -/
def wRaise (K : PySem.W.Frag) (x : Str) : WS := fun DD env c => DD.ex (excV K x) none env c
/-- try: b except X: s -/
def excM (K : PySem.W.Frag) (y : Str) (cls : Value) : Option Bool := PySem.W.exmOne K cls (.ref (He.ga K y))
def wTry1 (K : PySem.W.Frag) (y : Str) (b s : WS) : WS := fun DD env c => b { DD with ex := fun cls od env' c' => ∃ k, excM K y cls = some k ∧ (k = true → s { DD with ex := fun _ _ _ _ => False } env' c') ∧ (k = false → DD.ex cls od env' c') } env c
section
variable {GI : Hp → Hp → Prop} {X : Cx} {x m : Str} {j : Nat} {p p2 pos pos' cpos np : Pos} {body suite : List Stmt} {b₀ : Stmt} {wb ws : WS}
theorem cs_raise (D : ExcD X.K X.mg x) (hc : X.calm = true) (hg : Gl X x := by rfl) (hdb : (x == ("__debug__" : Str)) = false := by decide) : CS GI X (.Raise (some (.Call (.Name x p) [.Constant (.str m) j p2] [] cpos)) none pos) (wRaise X.K x) := fun W xo => by
  refine ps_imp (ps_raise hc xo.tk (pmk_own PySem.F.excBase_ValueError D.q D.g D.k (raises_own D.b D.t) hg hdb)) ?_
  rintro Dn σ H ⟨F, env, c, DD, re, r, q, l⟩
  exact l.ex F env c σ H _ _ Le.rfl' re r q
theorem cs_try1 (hx : X.mg x = some (.ref (He.ga X.K x))) (hb : ∀ (pn : List (Addr × Obj)) (xe : Value → Shared → Prop), CSs GI (X.tr pn xe) body wb) (hs : ∀ (a : Addr) (oe : Obj) (pn : List (Addr × Obj)), CSs GI (X.suite a ((a, oe) :: pn)) (b₀ :: suite) ws)
    (hst : X.stack = X.env :: X.outer := by rfl) (hf : X.env.frame = some X.env.locals := by rfl) (hg : Gl X x := by rfl) (hdb : (x == ("__debug__" : Str)) = false := by decide) :
    CS GI X (.Try body [.ExceptHandler (some (.Name x np)) none (b₀ :: suite) pos'] [] [] pos) (wTry1 X.K x wb ws) := fun W xo => by
  refine ps_imp (ps_try_only (tb := fun W => lowS X.K GI W wb) (ts := fun a cls d => lowS X.K GI (fun _ _ _ _ => False) ws) hst hf ⟨hg, hdb, .inl hx⟩ xo.tk (fun W pn xe tk own => hb pn xe W ⟨xo.nd, tk, own⟩) fun a oe cls d pn _ _ => hs a oe pn _ ⟨xo.nd, L2.takes0, PassesOwn.never⟩) ?_
  rintro Dn σ H ⟨F, env, c, DD, re, r, q, l⟩
  refine ⟨F, env, c, _, re, r, q, ⟨l.nx, l.rt, l.bk, l.ct, ?_⟩⟩
  rintro F1 env1 c1 σ1 H1 cls od l1 re1 r1 ⟨b, e1, h1, h2⟩
  refine ⟨b, e1, fun hb a na => ?_, fun hb => l.ex F1 env1 c1 σ1 H1 cls od l1 re1 r1 (h2 hb)⟩
  exact ⟨F1, env1, c1, _, re1, r1, h1 hb, ⟨fun F2 e2 c2 s2 H2 l2 => l.nx F2 e2 c2 s2 H2 (l1.trans' l2), fun F2 c2 H2 v d l2 => l.rt F2 c2 H2 v d (l1.trans' l2), fun F2 e2 c2 s2 H2 l2 => l.bk F2 e2 c2 s2 H2 (l1.trans' l2), fun F2 e2 c2 s2 H2 l2 => l.ct F2 e2 c2 s2 H2 (l1.trans' l2), fun _ _ _ _ _ _ _ _ _ _ z => z.elim⟩⟩
end
section
variable {E : XD} {env env' : DEnv} {c c1 : CMap} {Q : DK} {DD : DEnds} {K : PySem.W.Frag} {x y : Str}
theorem wRaise_i (h : DD.ex (excV K x) none env c) : wRaise K x DD env c := h
theorem wTry1_i {b s : WS} (h : b { DD with ex := fun cls od env' c' => ∃ k, excM K y cls = some k ∧ (k = true → s { DD with ex := fun _ _ _ _ => False } env' c') ∧ (k = false → DD.ex cls od env' c') } env c) : wTry1 K y b s DD env c := h
theorem wNever_e {A : Prop} (h : wNever DD env c) : A := h.elim
/-- the clause that takes it -/
theorem exT {cls : Value} {A B : Prop} (h : excM K y cls = some true) (q : A) : ∃ k, excM K y cls = some k ∧ (k = true → A) ∧ (k = false → B) := ⟨true, h, fun _ => q, fun z => by cases z⟩
end
end DL
/-! the data layer: sorting, finding, greatest of data -/
namespace DL
open PySem PySem.Spec L2
open PyProof.Rows hiding St
/-- Python's order of data -/
noncomputable def leD (a b : D) : Bool := PySem.W.dataLe false toPy a b
theorem each_vals : ∀ {out : List Value} {bs : List (V × D)}, PySem.W.EachIs (fun u b => RelV b.1 u) out bs → Vals (bs.map (·.1)) out
  | _, _, .nil => .nil
  | _, _, .cons h t => .cons h (each_vals t)
theorem vals_each : ∀ {xs : List V} {us : List Value} {es : List D}, Vals xs us → xs.length = es.length → PySem.W.EachIs (fun u b => RelV b.1 u) us (xs.zip es)
  | [], _, [], .nil, _ => .nil
  | x :: xs, _, e :: es, .cons h t, hl => .cons h (vals_each t (by simpa using hl))
  | [], _, _ :: _, .nil, hl => by simp at hl
  | _ :: _, _, [], .cons _ _, hl => by simp at hl
theorem reads_each {X : Cx} {pins : List (Addr × Obj)} {σ : L2.St} {H : Hp} {s : Shared} (I : L2.Inv X pins σ H s) : ∀ {xs : List V} {us : List Value} {es : List D}, Vals xs us → DpAll X.K H xs (es.map toPy) → PySem.W.EachIs (fun u b => ∃ as, Reads s.heap u (toPy b.2) as) us (xs.zip es)
  | [], _, [], .nil, _ => .nil
  | x :: xs, _, e :: es, .cons h t, hd => by
    cases hd with
    | cons h1 h2 => exact .cons (Dp.reads I _ _ _ h1 h) (reads_each I t h2)
  | [], _, _ :: _, .nil, hd => by cases hd
  | _ :: _, _, [], .cons _ _, hd => by cases hd
theorem dpAll_len {K : PySem.W.Frag} {H : Hp} : ∀ {xs : List V} {ds : List PyData}, DpAll K H xs ds → xs.length = ds.length
  | _, _, .nil => rfl
  | _, _, .cons _ t => by simp [dpAll_len t]
theorem cr_sortedD {X : Cx} (hu : X.A.units + 64 < cLine) (hd0 : Room 0 X.A) : CallR X (.builtin "sorted") (fun vs H Q => ∃ (a : Addr) (xs : List V) (es : List D), vs = [.ref a] ∧ SqL X.K H a xs ∧ DpAll X.K H xs (es.map toPy) ∧ PySem.W.AllAlike (es.map toPy) ∧ PySem.W.Sortable (es.map toPy) ∧ (∀ e ∈ es, (toPy e).depth ≤ 60) ∧
    ∀ p, H p = none → Q (.ref p) (upd H p (.lst (((xs.zip es).mergeSort fun p q => leD p.2 q.2).map (·.1))))) := by
  intro pins s σ H vs us Q I r h
  obtain ⟨a, xs, es, rfl, hs, hD, hal, hk, hdp, q⟩ := h
  obtain ⟨u, rfl, ru⟩ := vals1 r
  cases (show u = Value.ref a from ru)
  obtain ⟨its, rv, p1, hz⟩ := I.list hs
  have hl : xs.length = es.length := by have := dpAll_len hD; simpa using this
  have hzl : (xs.zip es).length = xs.length := by rw [List.length_zip]; omega
  have em : (xs.zip es).map (fun b : V × D => toPy b.2) = es.map toPy := by
    have : (xs.zip es).map (fun b : V × D => b.2) = es := List.map_snd_zip (by omega)
    exact (List.map_map (l := xs.zip es) (f := fun b : V × D => b.2) (g := toPy)).symm.trans (by rw [this])
  refine PySem.W.sorted_data (β := V × D) (bs := xs.zip es) (enc := fun b => toPy b.2) (R := fun u b => RelV b.1 u) p1.isList (vals_each rv hl) (reads_each I rv hD) (by rw [em]; exact hal) (by rw [em]; exact hk) (by rw [hzl]; exact hz) (fun b hb => ?_) fun out ho he => ?_
  · have hb2 : b.2 ∈ es := (List.of_mem_zip (show (b.1, b.2) ∈ xs.zip es from hb)).2
    have := hdp _ hb2
    omega
  · have hv := each_vals he
    have eo : ((xs.zip es).mergeSort (PySem.W.dataLe false fun b : V × D => toPy b.2)) = (xs.zip es).mergeSort fun p q => leD p.2 q.2 := rfl
    rw [eo] at hv
    have hlen : (((xs.zip es).mergeSort fun p q => leD p.2 q.2).map (·.1)).length ≤ sizeLine := by rw [List.length_map, List.length_mergeSort, hzl]; exact (by simpa using hz)
    obtain ⟨ep, hat⟩ := PyProof.Rows.sortedAll_at s.heap its (List.toArray out)
    exact ⟨.ref (s.heap.objs.size + 1), _, I.laid (t' := s.toks) (o := .lst _) (fun b o e => PyProof.Rows.sortedAll_old e) (Nat.le_succ _) ⟨hlen, out, ep, hv, hat⟩, rfl, q _ (I.hok.fresh (Nat.le_succ _))⟩
def sortDR (m : Bool) : RDn := fun c ds Q => match ds with
  | [d] => match res c d with
    | .lst es => okDs es = true ∧ deps es ≤ 60 ∧ PySem.W.AllAlike (es.map toPy) ∧ PySem.W.Sortable (es.map toPy) ∧ newL m c (es.mergeSort leD) Q
    | _ => False
  | _ => False
theorem okDs_mem : ∀ {es : List D} {e : D}, okDs es = true → e ∈ es → okD e = true ∧ dep e ≤ deps es
  | x :: xs, e, h, hm => by
    simp only [okDs, Bool.and_eq_true] at h
    rcases List.mem_cons.mp hm with rfl | hm
    · exact ⟨h.1, by simp only [deps]; omega⟩
    · have := okDs_mem h.2 hm; exact ⟨this.1, by simp only [deps]; omega⟩
theorem toPys_map : ∀ es : List D, toPys es = es.map toPy
  | [] => rfl
  | e :: r => by simp only [toPys, List.map_cons, toPys_map r]
theorem dvs_zip {K : PySem.W.Frag} {F : Hp} : ∀ {xs : List V} {es : List D}, DVs K F xs es → ∀ p ∈ xs.zip es, DV K F p.1 p.2
  | _, _, .nil, p, h => by cases h
  | _, _, .cons h t, p, hp => by
    rcases List.mem_cons.mp hp with rfl | hp
    · exact h
    · exact dvs_zip t p hp
theorem zip_dvs {K : PySem.W.Frag} {F : Hp} : ∀ {l : List (V × D)}, (∀ p ∈ l, DV K F p.1 p.2) → DVs K F (l.map (·.1)) (l.map (·.2))
  | [], _ => .nil
  | p :: l, h => .cons (h p List.mem_cons_self) (zip_dvs fun q hq => h q (List.mem_cons_of_mem _ hq))
theorem sortD_snd {X : Cx} {GI : Hp → Hp → Prop} (m : Bool) : SndN X.K GI (fun vs H Q => ∃ (a : Addr) (xs : List V) (es : List D), vs = [.ref a] ∧ SqL X.K H a xs ∧ DpAll X.K H xs (es.map toPy) ∧ PySem.W.AllAlike (es.map toPy) ∧ PySem.W.Sortable (es.map toPy) ∧ (∀ e ∈ es, (toPy e).depth ≤ 60) ∧
    ∀ p, H p = none → Q (.ref p) (upd H p (.lst (((xs.zip es).mergeSort fun p q => leD p.2 q.2).map (·.1))))) (sortDR m) := by
  intro F H c vs ds Qd Q r h q k
  unfold sortDR at q
  split at q
  · obtain ⟨v, rfl, h0⟩ := h.inv1
    split at q
    · rename_i es e1
      obtain ⟨p, xs, rfl, g1, k1⟩ := res_lst r h0 e1
      obtain ⟨q1, q2, q3, q4, q5⟩ := q
      have hd := DVs.dp r.sub k1 q1
      rw [toPys_map] at hd
      refine ⟨p, xs, es, rfl, SqL.of g1, hd, q3, q4, fun e he => ?_, ?_⟩
      · obtain ⟨o1, o2⟩ := okDs_mem q1 he
        rw [dep_py e o1]; omega
      · have hz : DVs X.K F (((xs.zip es).mergeSort fun p q => leD p.2 q.2).map (·.1)) (((xs.zip es).mergeSort fun p q => leD p.2 q.2).map (·.2)) := zip_dvs fun p hp => dvs_zip k1 p (List.mem_mergeSort.mp hp)
        have e2 : ((xs.zip es).mergeSort fun p q => leD p.2 q.2).map (·.2) = es.mergeSort leD := by
          rw [List.map_mergeSort (s := leD) (fun _ _ _ _ => rfl), List.map_snd_zip (by have := k1.length; omega)]
        rw [e2] at hz
        exact newL_snd r hz q5 k
    · exact q.elim
  · exact q.elim
theorem ce_sortedD {GI : Hp → Hp → Prop} {X : Cx} {p pos : Pos} {e : Expr} {wr : WA} (m : Bool) (hr : Room 0 X.A) (hm : X.mg "sorted" = none) (ha : CA GI X [e] wr) (hg : Gl X "sorted" := by rfl) (he : starEach [e] X.env = (false, eval e X.env) :: starEach [] X.env := by rfl) (hpl : (backTo pos (starEach [] X.env)).any (·.1) = false := by rfl) :
    CE GI X (.Call (.Name "sorted" p) [e] [] pos) (wFn (sortDR m) wr) := ce_bfn (cr_sortedD hr.units hr) (sortD_snd m) hm ha (hg := hg) (he := he) (hpl := hpl)
/-! ### d in e, data within data -/
def plD (d : D) : Prop := okD d = true ∧ dep d ≤ 60
theorem plain_of {d : D} (h : okD d = true) : (toPy d).plain = true := PySem.PyData.plain_of_canLay0 _ (okD_can d h)
theorem any_dec {d : D} (hd : okD d = true) : ∀ {es : List D}, okDs es = true → (es.map toPy).any (fun y => PyData.eqv y (toPy d)) = decide (d ∈ es)
  | [], _ => by simp
  | e :: es, h => by
    simp only [okDs, Bool.and_eq_true] at h
    rw [List.map_cons, List.any_cons, any_dec hd h.2, eqv_dec h.1 hd]
    by_cases z : e = d
    · simp [z]
    · have z2 : ¬ d = e := fun q => z q.symm
      simp [z, z2]
def inDR (neg : Bool) : RD2 := fun c d e Q => match res c e with
  | .lst ds => okD (res c d) = true ∧ dep (res c d) ≤ 60 ∧ okDs ds = true ∧ deps ds ≤ 60 ∧ Q (.bl (neg ^^ decide (res c d ∈ ds))) c
  | .tup ds => okD (res c d) = true ∧ dep (res c d) ≤ 60 ∧ okDs ds = true ∧ deps ds ≤ 60 ∧ Q (.bl (neg ^^ decide (res c d ∈ ds))) c
  | _ => False
section
variable {GI : Hp → Hp → Prop} {X : Cx} {pos : Pos} {a b : Expr} {wa wb : WE}
def rInD (K : PySem.W.Frag) (neg : Bool) : R2 := fun x y H Q => ∃ (d : PyData) (ds : List PyData), Dp K H x d ∧ (Dp K H y (.list ds) ∨ Dp K H y (.tuple ds)) ∧ d.plain = true ∧ PyData.plainAll ds = true ∧ PyData.depthAll ds ≤ 60 ∧ Q (.bl (neg ^^ ds.any fun y => PyData.eqv y d)) H
theorem op_inDD (hu : X.A.units + 64 < cLine) : OpR X (compareOp .In) (rInD X.K false) := by
  intro pins s σ H x y v u Q I rx ry ⟨d, ds, h1, h2, h3, h4, h5, q⟩
  obtain ⟨as, r1⟩ := Dp.reads I _ _ _ h1 rx
  rw [Bool.false_xor] at q
  rcases h2 with h2 | h2
  · obtain ⟨bs, r2⟩ := Dp.reads I _ _ _ h2 ry
    exact PySem.SeqAt.in_list_data r2 r1 h4 h3 (by omega) ⟨.bl _, H, I, rfl, q⟩
  · obtain ⟨bs, r2⟩ := Dp.reads I _ _ _ h2 ry
    exact PySem.SeqAt.in_tuple_data r2 r1 h4 h3 (by omega) ⟨.bl _, H, I, rfl, q⟩
theorem op_niDD (hu : X.A.units + 64 < cLine) : OpR X (compareOp .NotIn) (rInD X.K true) := by
  intro pins s σ H x y v u Q I rx ry ⟨d, ds, h1, h2, h3, h4, h5, q⟩
  obtain ⟨as, r1⟩ := Dp.reads I _ _ _ h1 rx
  rw [Bool.true_xor] at q
  rcases h2 with h2 | h2
  · obtain ⟨bs, r2⟩ := Dp.reads I _ _ _ h2 ry
    exact PySem.SeqAt.notIn_list_data r2 r1 h4 h3 (by omega) ⟨.bl _, H, I, rfl, q⟩
  · obtain ⟨bs, r2⟩ := Dp.reads I _ _ _ h2 ry
    exact PySem.SeqAt.notIn_tuple_data r2 r1 h4 h3 (by omega) ⟨.bl _, H, I, rfl, q⟩
theorem plainAll_of {es : List D} (h : okDs es = true) : PyData.plainAll (es.map toPy) = true := by
  have := PySem.PyData.plainAll_of_canLay0 _ (okDs_can es h)
  rwa [toPys_map] at this
theorem inD_snd (neg : Bool) : Snd2 X.K GI (rInD X.K neg) (inDR neg) := by
  intro F H c v1 v2 d1 d2 Qd Q r h1 h2 q k
  unfold inDR at q
  split at q
  · rename_i ds e2
    obtain ⟨p, xs, rfl, g1, k1⟩ := res_lst r h2 e2
    obtain ⟨q1, q1', q2, q3, q4⟩ := q
    refine ⟨toPy (res c d1), ds.map toPy, res_dp r h1 rfl q1, .inl (.lst (SqL.of g1) (by have := DVs.dp r.sub k1 q2; rwa [toPys_map] at this)), plain_of q1, plainAll_of q2, by have := deps_py ds q2; rw [toPys_map] at this; omega, ?_⟩
    rw [any_dec q1 q2]
    exact k F c H _ _ Le.rfl' r (.bl _) q4
  · rename_i ds e2
    obtain rfl := res_oth e2 (by intro _ z; cases z)
    obtain ⟨p, xs, rfl, g1, k1⟩ := h2.tup_inv
    obtain ⟨q1, q1', q2, q3, q4⟩ := q
    refine ⟨toPy (res c d1), ds.map toPy, res_dp r h1 rfl q1, .inr (.tup (SqT.of (r.sub _ _ g1)) (by have := DVs.dp r.sub k1 q2; rwa [toPys_map] at this)), plain_of q1, plainAll_of q2, by have := deps_py ds q2; rw [toPys_map] at this; omega, ?_⟩
    rw [any_dec q1 q2]
    exact k F c H _ _ Le.rfl' r (.bl _) q4
  · exact q.elim
theorem ct_inD (hr : Room 0 X.A) (ha : CE GI X a wa) (hb : CE GI X b wb) (hm : behindInMarks .In b = false := by rfl) : CT GI X (.Compare a [.In] [b] pos) (wTst (wOp (inDR false) wa wb)) := ct_cmp (op_inDD hr.units) (inD_snd false) ha hb hm
theorem ct_niD (hr : Room 0 X.A) (ha : CE GI X a wa) (hb : CE GI X b wb) (hm : behindInMarks .NotIn b = false := by rfl) : CT GI X (.Compare a [.NotIn] [b] pos) (wTst (wOp (inDR true) wa wb)) := ct_cmp (op_niDD hr.units) (inD_snd true) ha hb hm
theorem ce_inD (hr : Room 0 X.A) (ha : CE GI X a wa) (hb : CE GI X b wb) (hm : behindInMarks .In b = false := by rfl) : CE GI X (.Compare a [.In] [b] pos) (wOp (inDR false) wa wb) := ce_cmp (op_inDD hr.units) (inD_snd false) ha hb hm
theorem ce_niD (hr : Room 0 X.A) (ha : CE GI X a wa) (hb : CE GI X b wb) (hm : behindInMarks .NotIn b = false := by rfl) : CE GI X (.Compare a [.NotIn] [b] pos) (wOp (inDR true) wa wb) := ce_cmp (op_niDD hr.units) (inD_snd true) ha hb hm
end
/-! ### xs.index(data) -/
def lixDR : RDm := fun c d ds Q => match ds with
  | [y] => match res c d with
    | .lst es => eqOk (res c y) ∧ okDs es = true ∧ deps es ≤ 60 ∧ ∃ j, es[j]? = some (res c y) ∧ (∀ m z, m < j → es[m]? = some z → z ≠ res c y) ∧ Q (.int (j : Nat)) c
    | _ => False
  | _ => False
theorem ce_lindexD {GI : Hp → Hp → Prop} {X : Cx} {o e : Expr} {wo : WE} {wr : WA} {apos cpos : Pos} (hr : Room 0 X.A) (ho : CE GI X o wo) (ha : CA GI X [e] wr)
    (hbase : attributeBase o "index" X.env (eval o X.env) = eval o X.env := by rfl)
    (hfew : ((backTo cpos (starEach [e] X.env)).all (fun x => !x.1) && (backToKw cpos (keywordEach [] X.env)).all (fun x => x.1.isSome) && decide (([e] : List Expr).length + ([] : List Keyword).length + (if ([] : List Keyword).isEmpty then 0 else 1) < 30)) = true := by rfl)
    (hline : (apos.endLine == cpos.line) = true := by rfl) (hs : starEach [e] X.env = (false, eval e X.env) :: starEach [] X.env := by rfl) (hplain : (backTo cpos (starEach [] X.env)).any (·.1) = false := by rfl) : CE GI X (.Call (.Attribute o "index" apos) [e] [] cpos) (wMt "list" lixDR wo wr) :=
  ce_bm PySem.F.plainAttrs_list PySem.F.slot_list_index PySem.F.type_list_index (mt_indexD (by have := hr.un; omega)) (fun F H c v d vs ds Qd Q r h1 h2 q k => by
    unfold lixDR at q
    split at q
    · obtain ⟨u, rfl, h3⟩ := h2.inv1
      split at q
      · rename_i es e1
        obtain ⟨p, xs, rfl, g1, k1⟩ := res_lst r h1 e1
        obtain ⟨b1, b2, b3, j, e2, b4, q2⟩ := q
        have hd := DVs.dp r.sub k1 b2
        rw [toPys_map] at hd
        have hl : eqOk (.lst es) := ⟨b2, by simp only [dep]; omega⟩
        have hsl := shaped_of hl
        simp only [toPy, toPys_map] at hsl
        refine ⟨p, u, toPy (res c _), es.map toPy, j, toPy (res c _), rfl, rfl, .lst (SqL.of g1) hd, res_dp r h3 rfl b1.1, hsl, shaped_of b1, by rw [List.getElem?_map, e2]; rfl, by rw [eqv_dec b1.1 b1.1]; simp, ?_, k F c H _ _ Le.rfl' r (.int _) q2⟩
        intro m z hm hz
        rw [List.getElem?_map] at hz
        cases g : es[m]? with
        | none => rw [g] at hz; cases hz
        | some w =>
          rw [g] at hz
          cases hz
          rw [eqv_dec (okDs_mem b2 (List.mem_of_getElem? g)).1 b1.1]
          exact decide_eq_false (b4 m w hm g)
      · exact q.elim
    · exact q.elim) ho ha hbase hfew hline hs hplain
/-! ### max(xs, default=i), min -/
def maxI (i : Int) (ns : List Int) : Int := match ns with
  | [] => i
  | n :: r => r.foldl max n
def maxDfR : List D → List D → CMap → DK → Prop := fun ds es c Q => match ds, es with
  | [d], [.int i] => match res c d with
    | .lst xs => ∃ ns, intsD xs = some ns ∧ Q (.int (maxI i ns)) c
    | _ => False
  | _, _ => False
def wMaxDf (r : WA) (e : WE) : WE := fun E env c Q => r E env c fun ds c1 => e E env c1 fun d c2 => maxDfR ds [d] c2 Q
theorem dp_ints {K : PySem.W.Frag} {H : Hp} : ∀ ns : List Int, DpAll K H (ns.map V.int) (ns.map .int)
  | [] => .nil
  | n :: r => .cons (.int n) (dp_ints r)
theorem cr_maxDf {X : Cx} (hc : X.calm = true) (hu : X.A.units + 64 < cLine) : CallRK X (.builtin "max") [Str.ofString "default"] (fun vs zs H Q => ∃ (a : Addr) (ns : List Int) (i : Int), vs = [.ref a] ∧ zs = [.int i] ∧ SqL X.K H a (ns.map V.int) ∧ Q (.int (maxI i ns)) H) := by
  intro pins s σ H vs zs us ws Q I r rz h
  obtain ⟨a, ns, i, rfl, rfl, hs, q⟩ := h
  obtain rfl := Vals.ref1 r
  obtain ⟨w1, rfl, e1⟩ := vals1 rz
  obtain ⟨t, rfl⟩ := e1
  obtain ⟨its, rv, p1, hz⟩ := I.list hs
  obtain ⟨as, hr⟩ := Dp.readsAll I _ _ _ (dp_ints ns) rv
  have hal : PySem.W.AlikeAll (ns.map PyData.int) := ⟨fun x hx y hy => by
    obtain ⟨n, _, rfl⟩ := List.mem_map.mp hx
    obtain ⟨m, _, rfl⟩ := List.mem_map.mp hy
    simp [PySem.W.alike], fun x hx => by
    obtain ⟨n, _, rfl⟩ := List.mem_map.mp hx
    intro z; cases z⟩
  refine PySem.W.max_list_default (I.ok.hd hc) p1.isList hr hal (by rw [PySem.W.depth_ints]; omega) (fun e h' tk hk => ?_) (fun y ys j v h' tk bs e ev rd hk => ?_)
  · have e2 : ns = [] := by cases ns with
      | nil => rfl
      | cons _ _ => simp at e
    subst e2
    exact ⟨.int i, H, I.kept (t' := tk) hk, ⟨t, rfl⟩, q⟩
  · cases ns with
    | nil => cases e
    | cons n r =>
      simp only [List.map_cons, List.cons.injEq] at e
      obtain ⟨rfl, rfl⟩ := e
      rw [PySem.W.maxD_ints] at rd
      cases rd
      exact ⟨.int (r.foldl max n), H, I.kept (t' := tk) hk, ⟨_, rfl⟩, q⟩
theorem ce_maxDf {GI : Hp → Hp → Prop} {X : Cx} {p pos kpos : Pos} {e f : Expr} {wr : WA} {we : WE} (hc : X.calm = true) (hr : Room 0 X.A) (hm : X.mg "max" = none) (ha : CA GI X [e] wr) (hf : CE GI X f we) (hg : Gl X "max" := by rfl)
    (he : backTo pos (starEach [e] X.env) = (false, eval e X.env) :: backTo pos (starEach [] X.env) := by rfl) (hpl : (backTo pos (starEach [e] X.env)).any (·.1) = false := by rfl)
    (hall : (backToKw pos (keywordEach [⟨some "default", f, kpos⟩] X.env)).all (·.1.isSome) = true := by rfl) (hnone : (backToKw pos (keywordEach [⟨some "default", f, kpos⟩] X.env)).any (·.1.isNone) = false := by rfl) (hks : (backToKw pos (keywordEach [⟨some "default", f, kpos⟩] X.env)).filterMap (·.1) = [Str.ofString "default"] := by rfl) :
    CE GI X (.Call (.Name "max" p) [e] [⟨some "default", f, kpos⟩] pos) (wMaxDf wr we) := fun W x => by
  refine pe_imp (pe_callBK (cr_maxDf hc hr.units) hg hm (by decide +kernel) (ha W x) (pk_cons (hf W x) pk_nil) (he := he) (hpl := hpl) (hall := hall) (hnone := hnone) (hks := hks)) ?_
  rintro σ H Q ⟨F, env, c, E, Qd, re, rp, lx, q, k⟩
  refine ⟨F, env, c, E, _, re, rp, lx, q, ?_⟩
  intro F1 c1 H1 vs ds l1 r1 h1 q1
  refine ⟨F1, env, c1, E, _, re.le l1, r1, lx.le l1, q1, ?_⟩
  intro F2 c2 H2 v d l2 r2 h2 q2
  match ds, d, q2, h1, h2 with
  | [d0], .int i, q2, h1, h2 =>
    obtain ⟨u, rfl, h3⟩ := h1.inv1
    unfold maxDfR at q2
    dsimp only at q2
    split at q2
    · rename_i e3
      obtain ⟨pp, xs, rfl, g1, k1⟩ := res_lst r2 (h3.le l2) e3
      obtain ⟨ns, e4, q3⟩ := q2
      obtain rfl := ints_V k1 e4
      exact ⟨pp, ns, i, rfl, by rw [h2.int_inv], SqL.of g1, k F2 c2 H2 _ _ (l1.trans' l2) r2 (.int _) q3⟩
    · exact q2.elim
/-! ### x is True -/
def isBR (neg : Bool) : RD2 := fun c d e Q => match e with
  | .bl b => ∃ a, d = .bl a ∧ Q (.bl (neg ^^ decide (a = b))) c
  | _ => False
section
variable {GI : Hp → Hp → Prop} {X : Cx} {pos : Pos} {a b : Expr} {wa wb : WE}
theorem isB_snd : Snd2 X.K GI rIsB (isBR false) := by
  intro F H c v1 v2 d1 d2 Qd Q r h1 h2 q k
  unfold isBR at q
  split at q
  · obtain ⟨x, rfl, q⟩ := q
    rw [Bool.false_xor] at q
    exact ⟨x, _, h1.bl_inv, h2.bl_inv, k F c H _ _ Le.rfl' r (.bl _) q⟩
  · exact q.elim
theorem notB_snd : Snd2 X.K GI rNotB (isBR true) := by
  intro F H c v1 v2 d1 d2 Qd Q r h1 h2 q k
  unfold isBR at q
  split at q
  · obtain ⟨x, rfl, q⟩ := q
    rw [Bool.true_xor] at q
    exact ⟨x, _, h1.bl_inv, h2.bl_inv, k F c H _ _ Le.rfl' r (.bl _) q⟩
  · exact q.elim
theorem ct_isB (ha : CE GI X a wa) (hb : CE GI X b wb) : CT GI X (.Compare a [.Is] [b] pos) (wTst (wOp (isBR false) wa wb)) := ct_cmp op_isBl isB_snd ha hb (nomark _)
theorem ce_isB (ha : CE GI X a wa) (hb : CE GI X b wb) : CE GI X (.Compare a [.Is] [b] pos) (wOp (isBR false) wa wb) := ce_cmp op_isBl isB_snd ha hb (nomark _)
theorem ct_isnotB (ha : CE GI X a wa) (hb : CE GI X b wb) : CT GI X (.Compare a [.IsNot] [b] pos) (wTst (wOp (isBR true) wa wb)) := ct_cmp op_notBl notB_snd ha hb (nomark _)
theorem ce_isnotB (ha : CE GI X a wa) (hb : CE GI X b wb) : CE GI X (.Compare a [.IsNot] [b] pos) (wOp (isBR true) wa wb) := ce_cmp op_notBl notB_snd ha hb (nomark _)
end
section
variable {E : XD} {env : DEnv} {c : CMap} {Q : DK} {d e d' : D} {ds es : List D} {n m : Bool}
theorem sortD_i (h : res c d = .lst es) (h1 : okDs es = true) (h2 : deps es ≤ 60) (h3 : PySem.W.AllAlike (es.map toPy)) (h4 : PySem.W.Sortable (es.map toPy)) (q : newL m c (es.mergeSort leD) Q) : sortDR m c [d] Q := by
  unfold sortDR; dsimp only; rw [h]; exact ⟨h1, h2, h3, h4, q⟩
theorem inD_l (h : res c e = .lst ds) (h0 : res c d = d') (h1 : okD d' = true) (h2 : dep d' ≤ 60) (h3 : okDs ds = true) (h4 : deps ds ≤ 60) (q : Q (.bl (n ^^ decide (d' ∈ ds))) c) : inDR n c d e Q := by
  unfold inDR; rw [h, h0]; exact ⟨h1, h2, h3, h4, q⟩
theorem lixD_l {y : D} {j : Nat} (h : res c d = .lst es) (h0 : res c y = d') (h1 : eqOk d') (h2 : okDs es = true) (h3 : deps es ≤ 60) (h4 : es[j]? = some d') (h5 : ∀ m z, m < j → es[m]? = some z → z ≠ d') (q : Q (.int (j : Nat)) c) : lixDR c d [y] Q := by
  unfold lixDR; dsimp only; rw [h, h0]; exact ⟨h1, h2, h3, j, h4, h5, q⟩
theorem wMaxDf_i {r : WA} {f : WE} (q : r E env c fun ds c1 => f E env c1 fun d c2 => maxDfR ds [d] c2 Q) : wMaxDf r f E env c Q := q
theorem maxDf_i {ns : List Int} {i : Int} (h : res c d = .lst es) (h1 : intsD es = some ns) (q : Q (.int (maxI i ns)) c) : maxDfR [d] [.int i] c Q := by
  unfold maxDfR; dsimp only; rw [h]; exact ⟨ns, h1, q⟩
theorem isB_i {a b : Bool} (q : Q (.bl (n ^^ decide (a = b))) c) : isBR n c (.bl a) (.bl b) Q := ⟨a, rfl, q⟩
end
end DL
/-! the data layer: dicts walked and sorted -/
namespace DL
open PySem PySem.Spec L2
open PyProof.Rows hiding St
/-- the statement runs while the dict at p is locked -/
def wLock (p : Addr) (u : Obj → Cell) (k0 : Cell) (b : WS) : WS := fun DD env c => ∀ od, b { nx := fun env' c' => c' p = some (u od) ∧ DD.nx env' (updc c' p k0), rt := fun d c' => c' p = some (u od) ∧ DD.rt d (updc c' p k0), bk := fun env' c' => c' p = some (u od) ∧ DD.bk env' (updc c' p k0), ct := fun env' c' => c' p = some (u od) ∧ DD.ct env' (updc c' p k0), ex := DD.ex } env (updc c p (u od))
def wLockT (b : WS) : WS := fun DD env c => ∃ p kvs, c p = some (.dT kvs) ∧ ∀ us, wLock p (fun od => .fT od us kvs) (.dT kvs) b DD env c
def wLockK (b : WS) : WS := fun DD env c => ∃ p kvs, c p = some (.dK kvs) ∧ ∀ us, wLock p (fun od => .fK od us kvs) (.dK kvs) b DD env c
section
variable {GI : Hp → Hp → Prop} {X : Cx} {st : Stmt} {wb : WS}
theorem cs_lockT (h : CS GI X st wb) : CS GI X st (wLockT wb) := fun W xo => by
  refine ps_imp (ps_lock (h W xo)) ?_
  rintro Dn σ H ⟨F, env, c, DD, re, r, ⟨p, kvs, hp, q⟩, l⟩
  obtain ⟨f0, o, h0, us, rfl, h1⟩ := r.cel _ _ hp
  refine ⟨p, .dT us, h0, trivial, fun od => ?_⟩
  have un : ∀ {F' : Hp} {c' : CMap} {H' : Hp}, Rep X.K GI F' c' H' → c' p = some (.fT od us kvs) → H' p = some (.frz od (.dT us)) ∧ Rep X.K GI F' (updc c' p (.dT kvs)) (upd H' p (.dT us)) := by
    intro F' c' H' r' e
    obtain ⟨f1, o1, g1, rfl, g2⟩ := r'.cel _ _ e
    exact ⟨g1, r'.unl e (by rw [g1]; trivial) ⟨us, rfl, g2⟩⟩
  refine ⟨F, env, updc c p (.fT od us kvs), _, re, r.wr hp (by rw [h0]; trivial) ⟨rfl, h1⟩, q us od, ⟨?_, ?_, ?_, ?_, ?_⟩⟩
  · rintro F' env' c' σ' H' l' re' r' ⟨e, q'⟩
    obtain ⟨a, b⟩ := un r' e
    exact ⟨a, l.nx _ _ _ _ _ l' re' b q'⟩
  · rintro F' c' H' v d l' r' hd ⟨e, q'⟩
    obtain ⟨a, b⟩ := un r' e
    exact ⟨a, l.rt _ _ _ _ _ l' b hd q'⟩
  · rintro F' env' c' σ' H' l' re' r' ⟨e, q'⟩
    obtain ⟨a, b⟩ := un r' e
    exact ⟨a, l.bk _ _ _ _ _ l' re' b q'⟩
  · rintro F' env' c' σ' H' l' re' r' ⟨e, q'⟩
    obtain ⟨a, b⟩ := un r' e
    exact ⟨a, l.ct _ _ _ _ _ l' re' b q'⟩
  · exact l.ex
theorem cs_lockK (h : CS GI X st wb) : CS GI X st (wLockK wb) := fun W xo => by
  refine ps_imp (ps_lock (h W xo)) ?_
  rintro Dn σ H ⟨F, env, c, DD, re, r, ⟨p, kvs, hp, q⟩, l⟩
  obtain ⟨f0, o, h0, us, rfl, h1⟩ := r.cel _ _ hp
  refine ⟨p, .dK us, h0, trivial, fun od => ?_⟩
  have un : ∀ {F' : Hp} {c' : CMap} {H' : Hp}, Rep X.K GI F' c' H' → c' p = some (.fK od us kvs) → H' p = some (.frz od (.dK us)) ∧ Rep X.K GI F' (updc c' p (.dK kvs)) (upd H' p (.dK us)) := by
    intro F' c' H' r' e
    obtain ⟨f1, o1, g1, rfl, g2⟩ := r'.cel _ _ e
    exact ⟨g1, r'.unl e (by rw [g1]; trivial) ⟨us, rfl, g2⟩⟩
  refine ⟨F, env, updc c p (.fK od us kvs), _, re, r.wr hp (by rw [h0]; trivial) ⟨rfl, h1⟩, q us od, ⟨?_, ?_, ?_, ?_, ?_⟩⟩
  · rintro F' env' c' σ' H' l' re' r' ⟨e, q'⟩
    obtain ⟨a, b⟩ := un r' e
    exact ⟨a, l.nx _ _ _ _ _ l' re' b q'⟩
  · rintro F' c' H' v d l' r' hd ⟨e, q'⟩
    obtain ⟨a, b⟩ := un r' e
    exact ⟨a, l.rt _ _ _ _ _ l' b hd q'⟩
  · rintro F' env' c' σ' H' l' re' r' ⟨e, q'⟩
    obtain ⟨a, b⟩ := un r' e
    exact ⟨a, l.bk _ _ _ _ _ l' re' b q'⟩
  · rintro F' env' c' σ' H' l' re' r' ⟨e, q'⟩
    obtain ⟨a, b⟩ := un r' e
    exact ⟨a, l.ct _ _ _ _ _ l' re' b q'⟩
  · exact l.ex
end
/-! ### for k in d -/
def keyDv : Key → D
  | .inl i => .int i
  | .inr x => .str x
theorem dv_key {K : PySem.W.Frag} {F : Hp} (k : Key) : DV K F (kV k) (keyDv k) := by
  cases k with
  | inl i => exact .int i
  | inr x => exact .str x
theorem dvs_keys {K : PySem.W.Frag} {F : Hp} : ∀ ks : List Key, DVs K F (ks.map kV) (ks.map keyDv)
  | [] => .nil
  | k :: r => .cons (dv_key k) (dvs_keys r)
theorem kd_at {κ : Type} {K : PySem.W.Frag} {F : Hp} {us : List (κ × V)} {kvs : List (κ × D)} (h : KD K F us kvs) : ∀ {i : Nat} {q : κ × D}, kvs[i]? = some q → ∃ v, us[i]? = some (q.1, v) := by
  induction h with
  | nil => intro i q e; simp at e
  | @cons a b l1 l2 z t ih =>
    intro i q e
    cases i with
    | zero => simp at e; subst e; exact ⟨a.2, by simp [← z.1]⟩
    | succ i => obtain ⟨v, e2⟩ := ih (i := i) (by simpa using e); exact ⟨v, by simpa using e2⟩
theorem kd_len {κ : Type} {K : PySem.W.Frag} {F : Hp} {us : List (κ × V)} {kvs : List (κ × D)} (h : KD K F us kvs) : us.length = kvs.length := Paired.length h
def wKeysT (a : WE) : WI := fun E env c N => a E env c fun d c1 => ∃ p w us kvs, d = .ref p ∧ c1 p = some (.fT w us kvs) ∧ N (kvs.map fun q => .tup (q.1.map keyDv)) (fun c => c p = some (.fT w us kvs)) c1
def wKeysK (a : WE) : WI := fun E env c N => a E env c fun d c1 => ∃ p w us kvs, d = .ref p ∧ c1 p = some (.fK w us kvs) ∧ N (kvs.map fun q => keyDv q.1) (fun c => c p = some (.fK w us kvs)) c1
section
variable {GI : Hp → Hp → Prop} {X : Cx} {tg e : Expr} {we : WE}
theorem ci_keysT (he : CE GI X e we) : CI GI X tg e (wKeysT we) := fun W x => by
  refine pi_imp (pi_keys (he W x)) ?_
  rintro σ H R ⟨F, env, c, E, Qd, re, rp, lx, q, k⟩
  refine ⟨F, env, c, E, _, re, rp, lx, q, ?_⟩
  rintro F1 c1 H1 v d l1 r1 h1 ⟨p, w, us, kvs, rfl, e1, q1⟩
  obtain ⟨f0, o, h0, rfl, hk⟩ := r1.cel _ _ e1
  refine ⟨p, w, h1.ref_inv, .inr ⟨us, h0, k F1 c1 H1 _ _ _ l1 r1 ?_ q1⟩⟩
  intro F2 c2 H2 i l2 r2 g
  obtain ⟨f2, o2, h2, rfl, hk2⟩ := r2.cel _ _ g
  refine ⟨fun d hd => ?_, fun hi => ⟨h2, by rw [kd_len hk2]; rw [List.length_map] at hi; exact hi⟩⟩
  rw [List.getElem?_map] at hd
  cases z : kvs[i]? with
  | none => rw [z] at hd; cases hd
  | some kv =>
    rw [z] at hd
    cases hd
    obtain ⟨v0, e0⟩ := kd_at hk2 z
    refine ⟨⟨h2, (List.getElem?_eq_some_iff.mp e0).1⟩, ?_⟩
    rintro x H3 ⟨rfl, kk, vv, qa, e3, rfl, e4⟩
    rw [e0] at e3
    cases e3
    obtain ⟨F3, l3, r3, e5⟩ := r2.tupF e4
    exact ⟨F3, l3, r3, .tup e5 (dvs_keys _)⟩
theorem ci_keysK (he : CE GI X e we) : CI GI X tg e (wKeysK we) := fun W x => by
  refine pi_imp (pi_keys (he W x)) ?_
  rintro σ H R ⟨F, env, c, E, Qd, re, rp, lx, q, k⟩
  refine ⟨F, env, c, E, _, re, rp, lx, q, ?_⟩
  rintro F1 c1 H1 v d l1 r1 h1 ⟨p, w, us, kvs, rfl, e1, q1⟩
  obtain ⟨f0, o, h0, rfl, hk⟩ := r1.cel _ _ e1
  refine ⟨p, w, h1.ref_inv, .inl ⟨us, h0, k F1 c1 H1 _ _ _ l1 r1 ?_ q1⟩⟩
  intro F2 c2 H2 i l2 r2 g
  obtain ⟨f2, o2, h2, rfl, hk2⟩ := r2.cel _ _ g
  refine ⟨fun d hd => ?_, fun hi => ⟨h2, by rw [kd_len hk2]; rw [List.length_map] at hi; exact hi⟩⟩
  rw [List.getElem?_map] at hd
  cases z : kvs[i]? with
  | none => rw [z] at hd; cases hd
  | some kv =>
    rw [z] at hd
    cases hd
    obtain ⟨v0, e0⟩ := kd_at hk2 z
    refine ⟨⟨h2, (List.getElem?_eq_some_iff.mp e0).1⟩, ?_⟩
    rintro x H3 ⟨rfl, kk, vv, e3, rfl⟩
    rw [e0] at e3
    cases e3
    exact ⟨F2, Le.rfl', r2, dv_key _⟩
end
/-! ### sorted(d) of whole numbers -/
def intKeys : List (Key × D) → Option (List Int)
  | [] => some []
  | (.inl i, _) :: r => (intKeys r).map (i :: ·)
  | _ => none
def sortKR (m : Bool) : RDn := fun c ds Q => match ds with
  | [.ref p] => ∃ kvs ks, c p = some (.dK kvs) ∧ intKeys kvs = some ks ∧ ks.length < 64 ∧ ∀ ys : List Int, ys.Perm ks → ys.Pairwise (· ≤ ·) → newL m c (ys.map D.int) Q
  | _ => False
theorem intKeys_map : ∀ {kvs : List (Key × D)} {ks : List Int}, intKeys kvs = some ks → kvs.map (·.1) = ks.map Sum.inl
  | [], ks, h => by cases h; rfl
  | (.inl i, v) :: r, ks, h => by
    simp only [intKeys, Option.map_eq_some_iff] at h
    obtain ⟨t, h1, rfl⟩ := h
    rw [List.map_cons, List.map_cons, intKeys_map h1]
  | (.inr x, v) :: r, ks, h => by simp [intKeys] at h
theorem kd_keys {κ : Type} {K : PySem.W.Frag} {F : Hp} {us : List (κ × V)} {kvs : List (κ × D)} (h : KD K F us kvs) : us.map (·.1) = kvs.map (·.1) := by
  induction h with
  | nil => rfl
  | cons z t ih => rw [List.map_cons, List.map_cons, ih, z.1]
theorem ce_sortedK {GI : Hp → Hp → Prop} {X : Cx} {p pos : Pos} {e : Expr} {wr : WA} (m : Bool) (hc : X.calm = true) (hm : X.mg "sorted" = none) (ha : CA GI X [e] wr) (hg : Gl X "sorted" := by rfl) (he : starEach [e] X.env = (false, eval e X.env) :: starEach [] X.env := by rfl) (hpl : (backTo pos (starEach [] X.env)).any (·.1) = false := by rfl) :
    CE GI X (.Call (.Name "sorted" p) [e] [] pos) (wFn (sortKR m) wr) := ce_bfn (call_sortedDI hc) (fun F H c vs ds Qd Q r h q k => by
  unfold sortKR at q
  split at q
  · obtain ⟨v, rfl, h0⟩ := h.inv1
    obtain ⟨kvs, ks, e1, e2, e3, q1⟩ := q
    obtain ⟨f0, o, g0, us, rfl, g1⟩ := r.cel _ _ e1
    rw [h0.ref_inv]
    exact ⟨_, us, ks, rfl, .inl g0, by rw [kd_keys g1, intKeys_map e2], e3, fun ys p g2 g3 hp => newL_snd r DVs.ints (q1 ys g2 g3) k p hp⟩
  · exact q.elim) hm ha (hg := hg) (he := he) (hpl := hpl)
section
variable {E : XD} {env : DEnv} {c : CMap} {Q : DK} {DD : DEnds} {p : Addr} {kvs : List (Key × D)} {kts : List (List Key × D)} {b : WS}
theorem wLockT_i (hp : c p = some (.dT kts)) (h : ∀ us od, b { nx := fun env' c' => c' p = some (.fT od us kts) ∧ DD.nx env' (updc c' p (.dT kts)), rt := fun d c' => c' p = some (.fT od us kts) ∧ DD.rt d (updc c' p (.dT kts)), bk := fun env' c' => c' p = some (.fT od us kts) ∧ DD.bk env' (updc c' p (.dT kts)), ct := fun env' c' => c' p = some (.fT od us kts) ∧ DD.ct env' (updc c' p (.dT kts)), ex := DD.ex } env (updc c p (.fT od us kts))) : wLockT b DD env c := ⟨p, kts, hp, fun us od => h us od⟩
theorem wLockK_i (hp : c p = some (.dK kvs)) (h : ∀ us od, b { nx := fun env' c' => c' p = some (.fK od us kvs) ∧ DD.nx env' (updc c' p (.dK kvs)), rt := fun d c' => c' p = some (.fK od us kvs) ∧ DD.rt d (updc c' p (.dK kvs)), bk := fun env' c' => c' p = some (.fK od us kvs) ∧ DD.bk env' (updc c' p (.dK kvs)), ct := fun env' c' => c' p = some (.fK od us kvs) ∧ DD.ct env' (updc c' p (.dK kvs)), ex := DD.ex } env (updc c p (.fK od us kvs))) : wLockK b DD env c := ⟨p, kvs, hp, fun us od => h us od⟩
theorem wKeysT_i {a : WE} {N} (h : a E env c fun d c1 => ∃ p w us kvs, d = .ref p ∧ c1 p = some (.fT w us kvs) ∧ N (kvs.map fun q => D.tup (q.1.map keyDv)) (fun c => c p = some (.fT w us kvs)) c1) : wKeysT a E env c N := h
theorem wKeysK_i {a : WE} {N} (h : a E env c fun d c1 => ∃ p w us kvs, d = .ref p ∧ c1 p = some (.fK w us kvs) ∧ N (kvs.map fun q => keyDv q.1) (fun c => c p = some (.fK w us kvs)) c1) : wKeysK a E env c N := h
theorem sortK_i {m : Bool} {ks : List Int} (hp : c p = some (.dK kvs)) (h : intKeys kvs = some ks) (hl : ks.length < 64) (q : ∀ ys : List Int, ys.Perm ks → ys.Pairwise (· ≤ ·) → newL m c (ys.map D.int) Q) : sortKR m c [.ref p] Q := ⟨kvs, ks, hp, h, hl, q⟩
theorem dA_fT {w : Obj} {us : List (List Key × V)} {es : List D} {ks : List Key} {k : Option D → Prop} (h : c p = some (.fT w us kts)) (h2 : keysD es = some ks) (q : k (valD kts ks)) : dictAt c p (.tup es) k := by unfold dictAt; rw [h]; dsimp only; rw [h2]; exact q
theorem res_fT {w : Obj} {us : List (List Key × V)} (h : c p = some (.fT w us kts)) : res c (.ref p) = .ref p := by show resAt (c p) p = _; rw [h]; rfl
theorem in_fT {n : Bool} {w : Obj} {us : List (List Key × V)} {es : List D} {ks : List Key} (h : c p = some (.fT w us kts)) (h2 : keysD es = some ks) (q : Q (.bl (n ^^ (valD kts ks).isSome)) c) : inR n c (.tup es) (.ref p) Q := by
  unfold inR; rw [res_fT h]; exact dA_fT h h2 q
end
end DL
/-! the data layer: a module's constant tuples and dicts -/
namespace DL
open PySem PySem.Spec L2
open PyProof.Rows hiding St
/-- what may stand in them -/
inductive Cv where
  | str (z : Str)
  | int (i : Int)
  | glo (g : Str)
def Cv.d (K : PySem.W.Frag) : Cv → D
  | .str z => .str z
  | .int i => .int i
  | .glo g => .ref (He.ga K g)
def Cv.v (K : PySem.W.Frag) : Cv → V
  | .str z => .str z
  | .int i => .int i
  | .glo g => .ref (He.ga K g)
def cvB (K : PySem.W.Frag) : Cv → Value → Bool
  | .str z, .str y _ => decide (y = z)
  | .int i, .int j _ => decide (j = i)
  | .glo g, .ref a => decide (a = He.ga K g)
  | _, _ => false
theorem cvB_ok {K : PySem.W.Frag} {x : Cv} {u : Value} (h : cvB K x u = true) : RelV (x.v K) u := by
  cases x <;> cases u <;> simp only [cvB, decide_eq_true_eq, Bool.false_eq_true] at h
  · subst h; exact ⟨_, rfl⟩
  · subst h; exact ⟨_, rfl⟩
  · subst h; rfl
theorem cv_dv {K : PySem.W.Frag} {F : Hp} (x : Cv) : DV K F (x.v K) (x.d K) := by
  cases x with
  | str z => exact .str z
  | int i => exact .int i
  | glo g => exact .ref _
def cvsB (K : PySem.W.Frag) : List Cv → List Value → Bool
  | [], [] => true
  | x :: xs, u :: us => cvB K x u && cvsB K xs us
  | _, _ => false
theorem cvsB_ok {K : PySem.W.Frag} : ∀ {xs : List Cv} {us : List Value}, cvsB K xs us = true → Vals (xs.map (Cv.v K)) us
  | [], [], _ => .nil
  | x :: xs, u :: us, h => by
    simp only [cvsB, Bool.and_eq_true] at h
    exact .cons (cvB_ok h.1) (cvsB_ok h.2)
  | [], _ :: _, h => by simp [cvsB] at h
  | _ :: _, [], h => by simp [cvsB] at h
theorem cvs_dv {K : PySem.W.Frag} {F : Hp} : ∀ xs : List Cv, DVs K F (xs.map (Cv.v K)) (xs.map (Cv.d K))
  | [] => .nil
  | x :: xs => .cons (cv_dv x) (cvs_dv xs)
/-- a constant tuple -/
def tupB (K : PySem.W.Frag) (x : Str) (xs : List Cv) : Bool := match K.lookup (He.ga K x) with
  | some ⟨.type c, _, .seq its _, _⟩ => decide (c = "tuple") && (decide (its.size ≤ 1000) && cvsB K xs its.toList)
  | _ => false
theorem tupB_ok {K : PySem.W.Frag} {x : Str} {xs : List Cv} (h : tupB K x xs = true) {H : Hp} : SqT K H (He.ga K x) (xs.map (Cv.v K)) := by
  unfold tupB at h
  split at h
  · rename_i c od its n sl e
    simp only [Bool.and_eq_true, decide_eq_true_eq] at h
    obtain ⟨rfl, h2, h3⟩ := h
    exact .inr ⟨_, its, n, e, rfl, rfl, len_le (by omega), cvsB_ok h3⟩
  · cases h
theorem glD_tup {K : PySem.W.Frag} {h : Heap} {fa : List He.Fa} {fn : List He.DefD} {x : Str} {xs : List Cv} (X : K.In h) (c : He.SaysD fa fn K) (j : Nat) (h2 : fa[j]? = some (.glo x)) (hb : tupB K x xs = true) (mg : Str → Option Value) (G : h.Ns mainGlobals mg) : GlD K mg x (.kt (xs.map (Cv.d K))) :=
  ⟨⟨.ref (He.ga K x), .ref (He.ga K x), PySem.W.mg_of X G (He.eqO_ok (c.fact j h2)), rfl, fun F => .kt (tupB_ok hb) (cvs_dv xs)⟩⟩
/-- a constant dict -/
structure TabD (K : PySem.W.Frag) (w : World) (mg : Str → Option Value) (x : Str) (T : List (Str × Cv)) : Prop where
  g : mg x = some (.ref (He.ga K x))
  at_ : ∀ q ∈ T, KDct K w (He.ga K x) q.1 (q.2.v K)
def dicB (K : PySem.W.Frag) (x : Str) (T : List (Str × Cv)) : Bool := T.all fun q => match PySem.W.nsIn K (He.ga K x) q.1 with
  | some (some u) => cvB K q.2 u
  | _ => false
theorem tabD_of {K : PySem.W.Frag} {w : World} {h : Heap} {fa : List He.Fa} {fn : List He.DefD} {x : Str} {T : List (Str × Cv)} (X : K.In h) (c : He.SaysD fa fn K) (j : Nat) (h2 : fa[j]? = some (.glo x)) (ht : ∃ es n, KDict K w (He.ga K x) es n) (hb : dicB K x T = true) (mg : Str → Option Value) (G : h.Ns mainGlobals mg) : TabD K w mg x T := by
  refine ⟨PySem.W.mg_of X G (He.eqO_ok (c.fact j h2)), fun q hq => ?_⟩
  obtain ⟨es, n, D⟩ := ht
  have h3 := List.all_eq_true.mp hb q hq
  split at h3
  · rename_i u e
    exact ⟨es, n, u, D.at_, D.lit, e, cvB_ok h3⟩
  · cases h3
def tabAt (T : List (Str × Cv)) (z : Str) : Option Cv := (T.find? fun q => decide (q.1 = z)).map (·.2)
def wTab (K : PySem.W.Frag) (T : List (Str × Cv)) (a : WE) : WE := fun E env c Q => a E env c fun d c1 => ∃ z x, d = .str z ∧ tabAt T z = some x ∧ Q (x.d K) c1
theorem ce_tab {GI : Hp → Hp → Prop} {X : Cx} {x : Str} {T : List (Str × Cv)} {np pos : Pos} {b : Expr} {wb : WE} (h : TabD X.K X.w X.mg x T) (hb : CE GI X b wb) (hs : PlainIx b := by exact fun _ _ => rfl) (hg : Gl X x := by rfl) (hd : (x == ("__debug__" : Str)) = false := by decide) :
    CE GI X (.Subscript (.Name x np) b pos) (wTab X.K T wb) := fun W xo => by
  refine pe_imp (pe_ix ix_kdict (pe_glob hg h.g (v := .ref (He.ga X.K x)) rfl hd) (hb W xo) hs) ?_
  rintro σ H Q ⟨F, env, c, E, Qd, re, rp, lx, q, k⟩
  refine ⟨F, env, c, E, _, re, rp, lx, q, ?_⟩
  rintro F1 c1 H1 v d l1 r1 h1 ⟨z, y, rfl, e, q1⟩
  unfold tabAt at e
  obtain ⟨p, e1, rfl⟩ := Option.map_eq_some_iff.mp e
  have e2 := List.find?_some e1
  have e3 : p.1 = z := of_decide_eq_true e2
  subst e3
  exact ⟨_, _, _, rfl, h1.str_inv, h.at_ p (List.mem_of_find?_eq_some e1), k F1 c1 H1 _ _ l1 r1 (cv_dv _) q1⟩
/-! ### str(x) of a whole number or a text -/
def strAR : RDn := fun c ds Q => match ds with
  | [.int i] => i.natAbs.log2 < 1920 ∧ Q (.str (toString i)) c
  | [.str z] => Q (.str z) c
  | _ => False
theorem ce_strA {GI : Hp → Hp → Prop} {X : Cx} {p pos : Pos} {e : Expr} {wr : WA} (hm : X.mg "str" = none) (ha : CA GI X [e] wr) (hg : Gl X "str" := by rfl) (he : starEach [e] X.env = (false, eval e X.env) :: starEach [] X.env := by rfl) (hpl : (backTo pos (starEach [] X.env)).any (·.1) = false := by rfl) :
    CE GI X (.Call (.Name "str" p) [e] [] pos) (wFn strAR wr) := ce_bcl (call_str_int.or SkE.call_str_str) (fun F H c vs ds Qd Q r h q k => by
  unfold strAR at q
  split at q
  · obtain ⟨v, rfl, h0⟩ := h.inv1
    exact .inl ⟨_, by rw [h0.int_inv], q.1, k F c H _ _ Le.rfl' r (.str _) q.2⟩
  · obtain ⟨v, rfl, h0⟩ := h.inv1
    exact .inr ⟨_, by rw [h0.str_inv], k F c H _ _ Le.rfl' r (.str _) q⟩
  · exact q.elim) hm ha (hg := hg) (he := he) (hpl := hpl)
theorem strA_i {c : CMap} {Q : DK} {i : Int} (h : i.natAbs.log2 < 1920) (q : Q (.str (toString i)) c) : strAR c [.int i] Q := ⟨h, q⟩
theorem strA_s {c : CMap} {Q : DK} {z : Str} (q : Q (.str z) c) : strAR c [.str z] Q := q
theorem wTab_i {E : XD} {env : DEnv} {c : CMap} {Q : DK} {K : PySem.W.Frag} {T : List (Str × Cv)} {a : WE} (q : a E env c fun d c1 => ∃ z x, d = .str z ∧ tabAt T z = some x ∧ Q (x.d K) c1) : wTab K T a E env c Q := q
/-! ### a top with text keys: hashing asks the world for one rule; by cases on its word -/
def wset (w : World) (b : Bool) : World := ⟨w.draws, { w.params with followText := fun s => match decide (s = "special-get-raises") with | true => b | false => w.params.followText s }⟩
theorem wset_eq (w : World) : w = wset w (w.params.followText "special-get-raises") := by
  obtain ⟨d, P⟩ := w
  unfold wset
  have e : P.followText = fun s => match decide (s = "special-get-raises") with | true => P.followText "special-get-raises" | false => P.followText s := by
    funext s
    by_cases h : s = "special-get-raises"
    · subst h; simp
    · simp [h]
  show World.mk d P = ⟨d, { P with followText := _ }⟩
  rw [← e]
theorem by_wset {p : World → Prop} (h1 : ∀ w, p (wset w true)) (h2 : ∀ w, p (wset w false)) (w : World) : p w := by
  rw [wset_eq w]
  cases w.params.followText "special-get-raises"
  · exact h2 w
  · exact h1 w
end DL
/-! the data layer: tests of texts that stand there; what a name holds, resolved -/
namespace DL
open PySem PySem.Spec L2
open PyProof.Rows hiding St
theorem lits_flat (ss : List Str) : (ss.map D.str).all flatD = true := by simp [flatD]
theorem lit_mem {x : Str} {ss : List Str} : D.str x ∈ ss.map D.str ↔ x ∈ ss := by simp [List.mem_map]
theorem eq_lit {c : CMap} {Q : DK} {n : Bool} {x y : Str} (r : Bool) (o : (PyData.strOk x && PyData.strOk y) = true) (h : (n ^^ decide (x = y)) = r) (q : Q (.bl r) c) : eqR n c (.str x) (.str y) Q := by
  simp only [Bool.and_eq_true] at o
  refine eq_dd (d' := .str x) (e' := .str y) rfl rfl ⟨o.1, Nat.zero_le _⟩ ⟨o.2, Nat.zero_le _⟩ ?_
  have e : decide (D.str x = D.str y) = decide (x = y) := decide_eq_decide.mpr ⟨fun z => by injection z, fun z => by rw [z]⟩
  rw [e, h]; exact q
theorem in_lit {c : CMap} {Q : DK} {n : Bool} {x : Str} (ys : List Str) (r : Bool) (h : (n ^^ decide (x ∈ ys)) = r) (q : Q (.bl r) c) : inR n c (.str x) (.tup (ys.map D.str)) Q := by
  refine in_t rfl (lits_flat ys) ?_
  have e : decide (D.str x ∈ ys.map D.str) = decide (x ∈ ys) := decide_eq_decide.mpr lit_mem
  rw [e, h]; exact q
theorem in_litk {c : CMap} {Q : DK} {n : Bool} {x : Str} (ys : List Str) (r : Bool) (h : (n ^^ decide (x ∈ ys)) = r) (q : Q (.bl r) c) : inR n c (.str x) (.kt (ys.map D.str)) Q := by
  refine in_k rfl (lits_flat ys) ?_
  have e : decide (D.str x ∈ ys.map D.str) = decide (x ∈ ys) := decide_eq_decide.mpr lit_mem
  rw [e, h]; exact q
theorem join_c {c : CMap} {Q : DK} {a : Str} {ys : List Str} {f : Addr} (hc : c f = some (.lst (ys.map D.str))) (h2 : (ys.map (·.length)).sum + ys.length * a.length ≤ 16777216) (q : Q (.str (Txt.join a ys)) c) : joinR c (.str a) [.ref f] Q := by
  show (match res c (.ref f) with | .lst es => _ | _ => False)
  rw [res_c hc]
  exact ⟨ys, rfl, h2, q⟩

theorem res_ref {c : CMap} {d : D} {ds : List D} (h : res c d = .lst ds) : d = .lst ds ∨ ∃ p, d = .ref p ∧ c p = some (.lst ds) := by
  cases d with
  | ref p =>
    right
    rcases resAt_cases (c p) p with ⟨es, e1, e2⟩ | e2
    · have q : D.lst es = .lst ds := e2.symm.trans h
      injection q with q
      subst q
      exact ⟨p, rfl, e1⟩
    · have q : D.ref p = .lst ds := e2.symm.trans h
      cases q
  | _ => exact .inl h
theorem ix_res {c : CMap} {Q : DK} {d x : D} {ds : List D} {i : Int} (h : res c d = .lst ds) (h2 : atI ds i = some x) (q : Q x c) : idxR c d (.int i) Q := by
  rcases res_ref h with rfl | ⟨p, rfl, e⟩
  · exact ix_l h2 q
  · exact ix_c e h2 q
theorem add_res {c : CMap} {Q : DK} {m : Bool} {d e : D} {a b : List D} (h : res c d = .lst a) (h2 : res c e = .lst b) (l : a.length + b.length ≤ 16777216) (q : newL m c (a ++ b) Q) : addR m c d e Q := by
  unfold addR
  rw [h, h2]
  exact ⟨len_le l, q⟩
end DL
/-! the data layer: a name that holds a def out of a table, called -/
namespace DL
open PySem PySem.Spec L2
open PyProof.Rows hiding St
/-- the defs of a table, each with what it promises -/
def TabF (GI : Hp → Hp → Prop) (P : Program) (w : World) (K : PySem.W.Frag) (mg : Str → Option Value) (base : Heap) (k : Nat) : List (Str × DSpec) → Prop
  | [] => True
  | (x, sp) :: r => ((∃ n, HasG GI P w K mg base k x n sp) ∧ mg x = some (.ref (He.ga K x))) ∧ TabF GI P w K mg base k r
def spAt (T : List (Str × DSpec)) (z : Str) : Option DSpec := (T.find? fun q => decide (q.1 = z)).map (·.2)
theorem tabF_at {GI : Hp → Hp → Prop} {P : Program} {w : World} {K : PySem.W.Frag} {mg : Str → Option Value} {base : Heap} {k : Nat} {z : Str} {sp : DSpec} : ∀ {T : List (Str × DSpec)}, TabF GI P w K mg base k T → spAt T z = some sp → ∃ n, FnD GI P w K mg base k (He.ga K z) n sp
  | [], _, h => by simp [spAt] at h
  | (x, s) :: r, ⟨⟨⟨n, f, h1, h2⟩, h3⟩, hr⟩, h => by
    unfold spAt at h
    rw [List.find?_cons] at h
    by_cases e : x = z
    · subst e
      simp at h
      subst h
      rw [h3] at h1
      cases h1
      exact ⟨n, h2⟩
    · rw [show decide ((x, s).1 = z) = false from decide_eq_false e] at h
      exact tabF_at hr h
theorem DefAt.mgA {K : PySem.W.Frag} {h : Heap} {mg : Str → Option Value} {x qual : Str} {st : Stmt} {f : Addr} {fd : FuncData} (D : DefAt K x qual st f fd) (X : K.In h) (G : h.Ns mainGlobals mg) : mg x = some (.ref (He.ga K x)) := by
  have e : He.ga K x = f := by
    unfold He.ga
    rw [D.ns]
  rw [e]
  exact PySem.W.mg_of X G D.ns
def wCallT (K : PySem.W.Frag) (T : List (Str × DSpec)) (i : Nat) (r : WA) : WE := fun E env c Q => ∃ z sp, getE env i = some (.ref (He.ga K z)) ∧ spAt T z = some sp ∧ r E env c fun ds c1 => sp ds c1 E Q
section
variable {GI : Hp → Hp → Prop} {X : Cx} {x : Str} {p pos : Pos} {e : Expr} {es : List Expr} {wr : WA} {k : Nat} {T : List (Str × DSpec)}
theorem ce_callT (i : Nat) (hT : TabF GI X.prog X.w X.K X.mg X.base k T) (hr : Room k X.A) (ha : CA GI X (e :: es) wr) (hN : X.N[i]? = some x := by rfl) (hv : Vis X.env.scope x := by first | exact Or.inl rfl | exact Or.inr (.inl rfl) | exact Or.inr (.inr rfl))
    (hd : (x == ("__debug__" : Str)) = false := by decide) (hcd : (x == ("__classdict__" : Str)) = false := by decide)
    (he : starEach (e :: es) X.env = (false, eval e X.env) :: starEach es X.env := by rfl) (hpl : (backTo pos (starEach es X.env)).any (·.1) = false := by rfl) : CE GI X (.Call (.Name x p) (e :: es) [] pos) (wCallT X.K T i wr) := fun W xo => by
  refine ⟨fun pins s σ H Q I h => ?_⟩
  obtain ⟨F, env, c, E, Qd, re, rp, lx, q, kk⟩ := h
  obtain ⟨z, sp, hd1, hf, q⟩ := q
  obtain ⟨n, ⟨fd, ps, hl, kp, b, G⟩⟩ := tabF_at hT hf
  obtain ⟨v, hs, hv1⟩ := re.val i (.ref (He.ga X.K z)) (getE_at hd1)
  obtain rfl := hv1.ref_inv
  refine wpAny_Call_Name_kw (thn ((pe_var (pos := p) hN hv hd hcd).run pins s σ H (fun v H1 => v = .ref (He.ga X.K z) ∧ H1 = H) I ⟨.ref (He.ga X.K z), hs, rfl, rfl⟩) fun u s1 ⟨v, H1, I1, r1, q1⟩ => ?_)
  obtain ⟨ev, eH⟩ := q1
  subst ev
  rw [eH] at I1
  obtain rfl : u = Value.ref (He.ga X.K z) := r1
  refine PySem.W.callWith_K (h₀ := X.base) I1.ok.mod.kin kp (thn ((ha W xo).run pos pins s1 σ H (fun vs H2 => ∃ F2 ds c2, Le F F2 ∧ Rep X.K GI F2 c2 H2 ∧ DVs X.K F2 vs ds ∧ sp ds c2 E Qd) I1 ⟨F, env, c, E, _, re, rp, lx, q, fun F' c' H' vs ds l r' h' q' => ⟨F', ds, c', l, r', h', q'⟩⟩) fun us s2 ⟨vs, H2, I2, r, F2, ds, c2, l2, rp2, hds, q2⟩ => ⟨I2.kIn, ?_⟩) he hpl
  exact run_fnS G hr b (passAt xo.tk σ) I2 r ⟨F2, ds, c2, E, Qd, hds, rp2, q2, kk.le l2, fun F' c' H' cls od l' r' hE => lx F' c' H' cls od (l2.trans' l') r' hE⟩
end
theorem wCallT_i {E : XD} {env : DEnv} {c : CMap} {Q : DK} {K : PySem.W.Frag} {T : List (Str × DSpec)} {i : Nat} {r : WA} {z : Str} {sp : DSpec} (h : getE env i = some (.ref (He.ga K z))) (h2 : spAt T z = some sp) (q : r E env c fun ds c1 => sp ds c1 E Q) : wCallT K T i r E env c Q := ⟨z, sp, h, h2, q⟩
end DL
/-! the data layer: objects of the text's own classes -/
namespace DL
open PySem PySem.Spec L2
open PyProof.Rows hiding St
/-- a class of the text: its fields are no names of the class -/
structure ClsD (K : PySem.W.Frag) (mg : Str → Option Value) (x : Str) (fs : List Str) : Prop where
  g : mg x = some (.ref (He.ga K x))
  c : Cls K (He.ga K x)
  n : ∀ f ∈ fs, NoAttr K (He.ga K x) f
def clsB (K : PySem.W.Frag) (x : Str) (fs : List Str) : Bool := (He.Fa.cls x).ok K && fs.all fun f => (He.Fa.noat x f).ok K
theorem clsD_of {K : PySem.W.Frag} {h : Heap} {fa : List He.Fa} {fn : List He.DefD} {x : Str} {fs : List Str} (X : K.In h) (c : He.SaysD fa fn K) (j : Nat) (h2 : fa[j]? = some (.glo x)) (hb : clsB K x fs = true) (mg : Str → Option Value) (G : h.Ns mainGlobals mg) : ClsD K mg x fs := by
  unfold clsB at hb
  simp only [Bool.and_eq_true, List.all_eq_true] at hb
  exact ⟨He.glo_ok X G (c.fact j h2), He.cls_ok hb.1, fun f hf => He.noat_ok (hb.2 f hf)⟩
def putFD (f : Str) (v : D) : List (Str × D) → List (Str × D)
  | [] => [(f, v)]
  | (g, x) :: r => if g = f then (g, v) :: r else (g, x) :: putFD f v r
theorem kd_look {K : PySem.W.Frag} {F : Hp} {f : Str} {d : D} : ∀ {us : List (Str × V)} {fs : List (Str × D)}, KD K F us fs → fs.lookup f = some d → ∃ v, us.lookup f = some v ∧ DV K F v d
  | _, _, .nil, h => by simp at h
  | (u, x) :: us, (g, y) :: fs, .cons h t, e => by
    obtain ⟨h1, h2⟩ := h
    simp only at h1 h2
    subst h1
    rw [List.lookup_cons] at e ⊢
    by_cases z : f = u
    · subst z
      simp at e
      subst e
      exact ⟨x, by simp, h2⟩
    · have zb : (f == u) = false := by simpa using z
      rw [zb] at e ⊢
      exact kd_look t e
theorem kd_putF {K : PySem.W.Frag} {F : Hp} {f : Str} {v : V} {d : D} (hv : DV K F v d) : ∀ {us : List (Str × V)} {fs : List (Str × D)}, KD K F us fs → KD K F (putF f v us) (putFD f d fs)
  | _, _, .nil => .cons ⟨rfl, hv⟩ .nil
  | (u, x) :: us, (g, y) :: fs, .cons h t => by
    obtain ⟨h1, h2⟩ := h
    simp only at h1 h2
    subst h1
    unfold putF putFD
    by_cases z : u = f
    · rw [if_pos z, if_pos z]; exact .cons ⟨rfl, hv⟩ t
    · rw [if_neg z, if_neg z]; exact .cons ⟨rfl, h2⟩ (kd_putF hv t)
def wFld (K : PySem.W.Frag) (x f : Str) (a : WE) : WE := fun E env c Q => a E env c fun d c1 => ∃ p fs v, d = .ref p ∧ c1 p = some (.ins (He.ga K x) fs) ∧ fs.lookup f = some v ∧ Q v c1
def wFldSet (K : PySem.W.Frag) (x f : Str) (o a : WE) : WS := fun DD env c => a (exE DD env) env c fun d c1 => o (exE DD env) env c1 fun y c2 => ∃ p fs, y = .ref p ∧ c2 p = some (.ins (He.ga K x) fs) ∧ fs.length < 900 ∧ DD.nx env (updc c2 p (.ins (He.ga K x) (putFD f d fs)))
def wFldAdd (K : PySem.W.Frag) (x f : Str) (o a : WE) : WS := fun DD env c => o (exE DD env) env c fun y c1 => ∃ p fs i, y = .ref p ∧ c1 p = some (.ins (He.ga K x) fs) ∧ fs.lookup f = some (.int i) ∧
  a (exE DD env) env c1 fun d c2 => ∃ j fs', d = .int j ∧ c2 p = some (.ins (He.ga K x) fs') ∧ fs'.length < 900 ∧ DD.nx env (updc c2 p (.ins (He.ga K x) (putFD f (.int (i + j)) fs')))
def wFldSub (K : PySem.W.Frag) (x f : Str) (o a : WE) : WS := fun DD env c => o (exE DD env) env c fun y c1 => ∃ p fs i, y = .ref p ∧ c1 p = some (.ins (He.ga K x) fs) ∧ fs.lookup f = some (.int i) ∧
  a (exE DD env) env c1 fun d c2 => ∃ j fs', d = .int j ∧ c2 p = some (.ins (He.ga K x) fs') ∧ fs'.length < 900 ∧ DD.nx env (updc c2 p (.ins (He.ga K x) (putFD f (.int (i - j)) fs')))
section
variable {GI : Hp → Hp → Prop} {X : Cx} {x f : Str} {fs : List Str} {e o : Expr} {wa wo : WE} {pos pos' : Pos}
theorem rep_ins {K : PySem.W.Frag} {F H : Hp} {c : CMap} {p C : Addr} {fs : List (Str × D)} (r : Rep K GI F c H) (e : c p = some (.ins C fs)) : ∃ dx us, H p = some (.ins C dx us) ∧ KD K F us fs := by
  obtain ⟨f0, o, h0, dx, us, rfl, k⟩ := r.cel _ _ e
  exact ⟨dx, us, h0, k⟩
theorem ce_fld (h : ClsD X.K X.mg x fs) (ha : CE GI X e wa) (hf : f ∈ fs := by decide) (hb : attributeBase e f X.env (eval e X.env) = eval e X.env := by rfl) : CE GI X (.Attribute e f pos) (wFld X.K x f wa) := fun W xo => by
  refine pe_imp (pe_fld (ha W xo) hb) ?_
  rintro σ H Q ⟨F, env, c, E, Qd, re, rp, lx, q, k⟩
  refine ⟨F, env, c, E, _, re, rp, lx, q, ?_⟩
  rintro F1 c1 H1 v d l1 r1 h1 ⟨p, gs, y, rfl, e1, e2, q1⟩
  obtain ⟨dx, us, h0, kd⟩ := rep_ins r1 e1
  obtain ⟨u, e3, e4⟩ := kd_look kd e2
  exact ⟨p, _, dx, us, u, h1.ref_inv, h0, h.c, h.n f hf, e3, k F1 c1 H1 _ _ l1 r1 e4 q1⟩
theorem KD.len2 {K : PySem.W.Frag} {F : Hp} {us : List (Str × V)} {gs : List (Str × D)} (h : KD K F us gs) : us.length = gs.length := Paired.length h
theorem cs_fldset (h : ClsD X.K X.mg x fs) (ho : CE GI X o wo) (ha : CE GI X e wa) (hf : f ∈ fs := by decide) (hs : swapsWith e (some (.Attribute o f pos')) pos.line X.env = pure false := by rfl) : CS GI X (.Assign [.Attribute o f pos'] e pos) (wFldSet X.K x f wo wa) := fun W xo => by
  refine ps_imp (ps_fld (ho W xo) (ha W xo) hs) ?_
  rintro Dn σ H ⟨F, env, c, DD, re, r, q, l⟩
  refine ⟨F, env, c, _, _, re, r, fun F' c' H' cls od l1 r1 hE => l.ex F' env c' σ H' cls od l1 (re.le l1) r1 hE, q, ?_⟩
  intro F1 c1 H1 v d l1 r1 h1 q1
  refine ⟨F1, env, c1, _, _, re.le l1, r1, fun F' c' H' cls od l2 r2 hE => l.ex F' env c' σ H' cls od (l1.trans' l2) ((re.le l1).le l2) r2 hE, q1, ?_⟩
  rintro F2 c2 H2 u y l2 r2 h2 ⟨p, gs, rfl, e1, e2, q2⟩
  obtain ⟨dx, us, h0, kd⟩ := rep_ins r2 e1
  refine ⟨p, _, dx, us, h2.ref_inv, h0, h.c, h.n f hf, by rw [kd.len2]; omega, ?_⟩
  exact l.nx F2 env _ σ _ (l1.trans' l2) ((re.le l1).le l2) (r2.wr (k := .ins (He.ga X.K x) (putFD f d gs)) e1 (by rw [h0]; exact True.intro) ⟨dx, _, rfl, kd_putF (h1.le l2) kd⟩) q2
theorem cs_fldadd (h : ClsD X.K X.mg x fs) (ho : CE GI X o wo) (ha : CE GI X e wa) (hf : f ∈ fs := by decide) : CS GI X (.AugAssign (.Attribute o f pos') .Add e pos) (wFldAdd X.K x f wo wa) := fun W xo => by
  refine ps_imp (ps_fldaug (ho W xo) (ha W xo) in_add) ?_
  rintro Dn σ H ⟨F, env, c, DD, re, r, q, l⟩
  refine ⟨F, env, c, _, _, re, r, fun F' c' H' cls od l1 r1 hE => l.ex F' env c' σ H' cls od l1 (re.le l1) r1 hE, q, ?_⟩
  rintro F1 c1 H1 u y l1 r1 h1 ⟨p, gs, i, rfl, e1, e2, q1⟩
  obtain ⟨dx, us, h0, kd⟩ := rep_ins r1 e1
  obtain ⟨v0, e3, e4⟩ := kd_look kd e2
  refine ⟨p, _, dx, us, v0, h1.ref_inv, h0, h.c, h.n f hf, e3, ?_⟩
  refine ⟨F1, env, c1, _, _, re.le l1, r1, fun F' c' H' cls od l2 r2 hE => l.ex F' env c' σ H' cls od (l1.trans' l2) ((re.le l1).le l2) r2 hE, q1, ?_⟩
  rintro F2 c2 H2 v d l2 r2 h2 ⟨j, gs', rfl, e5, e6, q2⟩
  obtain ⟨dx', us', h0', kd'⟩ := rep_ins r2 e5
  refine ⟨i, j, e4.int_inv, h2.int_inv, dx', us', h0', by rw [kd'.len2]; omega, ?_⟩
  exact l.nx F2 env _ σ _ (l1.trans' l2) ((re.le l1).le l2) (r2.wr (k := .ins (He.ga X.K x) (putFD f (.int (i + j)) gs')) e5 (by rw [h0']; exact True.intro) ⟨dx', _, rfl, kd_putF (.int _) kd'⟩) q2
theorem cs_fldsub (h : ClsD X.K X.mg x fs) (ho : CE GI X o wo) (ha : CE GI X e wa) (hf : f ∈ fs := by decide) : CS GI X (.AugAssign (.Attribute o f pos') .Sub e pos) (wFldSub X.K x f wo wa) := fun W xo => by
  refine ps_imp (ps_fldaug (ho W xo) (ha W xo) in_sub) ?_
  rintro Dn σ H ⟨F, env, c, DD, re, r, q, l⟩
  refine ⟨F, env, c, _, _, re, r, fun F' c' H' cls od l1 r1 hE => l.ex F' env c' σ H' cls od l1 (re.le l1) r1 hE, q, ?_⟩
  rintro F1 c1 H1 u y l1 r1 h1 ⟨p, gs, i, rfl, e1, e2, q1⟩
  obtain ⟨dx, us, h0, kd⟩ := rep_ins r1 e1
  obtain ⟨v0, e3, e4⟩ := kd_look kd e2
  refine ⟨p, _, dx, us, v0, h1.ref_inv, h0, h.c, h.n f hf, e3, ?_⟩
  refine ⟨F1, env, c1, _, _, re.le l1, r1, fun F' c' H' cls od l2 r2 hE => l.ex F' env c' σ H' cls od (l1.trans' l2) ((re.le l1).le l2) r2 hE, q1, ?_⟩
  rintro F2 c2 H2 v d l2 r2 h2 ⟨j, gs', rfl, e5, e6, q2⟩
  obtain ⟨dx', us', h0', kd'⟩ := rep_ins r2 e5
  refine ⟨i, j, e4.int_inv, h2.int_inv, dx', us', h0', by rw [kd'.len2]; omega, ?_⟩
  exact l.nx F2 env _ σ _ (l1.trans' l2) ((re.le l1).le l2) (r2.wr (k := .ins (He.ga X.K x) (putFD f (.int (i - j)) gs')) e5 (by rw [h0']; exact True.intro) ⟨dx', _, rfl, kd_putF (.int _) kd'⟩) q2
end
/-! ### X(e, ..) -/
/-- a class with an __init__ that keeps its promise -/
structure MkD (GI : Hp → Hp → Prop) (P : Program) (w : World) (K : PySem.W.Frag) (mg : Str → Option Value) (base : Heap) (k : Nat) (x : Str) (n : Nat) (sp : DSpec) : Prop where
  g : mg x = some (.ref (He.ga K x))
  ex : ∃ f, Mk K (He.ga K x) f ∧ FnD GI P w K mg base k f n sp
def wMake (K : PySem.W.Frag) (x : Str) (sp : DSpec) (r : WA) : WE := fun E env c Q => r E env c fun ds c1 => ∀ p, c1 p = none → sp (.ref p :: ds) (updc c1 p (.ins (He.ga K x) [])) E fun d c2 => d = .non ∧ Q (.ref p) c2
section
variable {GI : Hp → Hp → Prop} {X : Cx} {x : Str} {p pos : Pos} {e : Expr} {es : List Expr} {wr : WA} {k n : Nat} {sp : DSpec}
theorem run_makeS {C f : Addr} {fd : FuncData} {ps : List Str} {sp : Sp} {E : St → XK} {pins : List (Addr × Obj)} {σ : St} {H : Hp} {s : Shared} {Q : VK} {us : List Value} {vs : List V} (M : Mk X.K C f) (F : FnOk X.prog X.w X.K X.mg X.base (L2.CX X.prog X.w) k f fd ps sp) (hr : Room (k + 1) X.A) (hb : Binds X.K fd ps [])
    (hx : PassesAt (L2.CX X.prog X.w) X σ (E σ)) (I : Inv X pins σ H s) (r : Vals vs us)
    (h : ∀ x dx, H x = none → H dx = none → dx ≠ x → sp (.ref x :: vs) (upd (upd H dx (.own x)) x (.ins C dx [])) (fun v H2 => v = .non ∧ Q (.ref x) H2) (E σ)) :
    wpAny (model X.prog X.w) X.A (call (.ref C) us) (EP X pins σ Q) X.xe s := by
  have hq := h (s.heap.objs.size + 1) s.heap.objs.size (I.hok.fresh (Nat.le_succ _)) (I.hok.fresh (Nat.le_refl _)) (Nat.ne_of_lt (Nat.lt_succ_self _))
  have I2 := Inv.made (C := C) I
  have r2 : Vals (V.ref (s.heap.objs.size + 1) :: vs) (Value.ref (s.heap.objs.size + 1) :: us) := .cons rfl r
  have hl : (Value.ref (s.heap.objs.size + 1) :: us).length = ps.length := by
    have e := r2.length
    rw [F.len _ _ _ _ hq] at e
    exact e.symm
  have b := hb { s with heap := (s.heap.push PySem.W.emptyDict).push (PySem.W.instObj C s.heap.objs.size) } (Value.ref (s.heap.objs.size + 1) :: us) I2.kIn (by rw [List.append_nil]; exact hl)
  rw [List.append_nil] at b
  refine wpAny_call (make_map (f := f) I.kIn M.makes M.init (beq_iff_eq.mp M.fn) (codeAny_mono (F.run _ X.stack _ _ ⟨Value.ref (s.heap.objs.size + 1) :: us, []⟩ (Value.ref (s.heap.objs.size + 1) :: us) _ _ (E σ) (hr.make C us [])
    (I2.env0.make C us []) b r2 hq) fun r s' hq' => ?_))
  cases r with
  | error e => exact hx pins _ _ e s' I2 hq'
  | ok fl =>
    cases fl with
    | ret u =>
      obtain ⟨v, H', I3, rv, ev, q3⟩ := I2.after hq'
      subst ev
      exact ⟨rv, ⟨V.ref (s.heap.objs.size + 1), H', I3, rfl, q3⟩⟩
    | next => exact False.elim hq'
    | brk => exact False.elim hq'
    | cont => exact False.elim hq'
theorem ce_make (h : MkD GI X.prog X.w X.K X.mg X.base k x n sp) (hr : Room (k + 1) X.A) (ha : CA GI X (e :: es) wr) (hg : Gl X x := by rfl) (hdb : (x == ("__debug__" : Str)) = false := by decide)
    (he : starEach (e :: es) X.env = (false, eval e X.env) :: starEach es X.env := by rfl) (hpl : (backTo pos (starEach es X.env)).any (·.1) = false := by rfl) : CE GI X (.Call (.Name x p) (e :: es) [] pos) (wMake X.K x sp wr) := fun W xo => by
  obtain ⟨f, M, ⟨fd, ps, hl, kp, b, F⟩⟩ := h.ex
  refine ⟨fun pins s σ H Q I hq => ?_⟩
  obtain ⟨F0, env, c, E, Qd, re, rp, lx, q, k'⟩ := hq
  refine wpAny_Call_Name_kw (ld_glob I hg h.g ?_ hdb)
  refine PySem.W.callWith_K (h₀ := X.base) I.ok.mod.kin M.kp (thn ((ha W xo).run pos pins s σ H (fun vs H2 => ∃ F2 ds c2, Le F0 F2 ∧ Rep X.K GI F2 c2 H2 ∧ DVs X.K F2 vs ds ∧ ∀ p, c2 p = none → sp (.ref p :: ds) (updc c2 p (.ins (He.ga X.K x) [])) E fun d c3 => d = .non ∧ Qd (.ref p) c3) I ⟨F0, env, c, E, _, re, rp, lx, q, fun F' c' H' vs ds l r' h' q' => ⟨F', ds, c', l, r', h', q'⟩⟩) fun us s2 ⟨vs, H2, I2, r, F2, ds, c2, l2, rp2, hds, q2⟩ => ⟨I2.kIn, ?_⟩) he hpl
  refine run_makeS (E := fun σ cls d H' => W cls d σ H') M F hr b (passAt xo.tk σ) I2 r fun x1 dx hx1 hdx ne => ?_
  have r1 : Rep X.K GI F2 c2 (upd H2 dx (.own x1)) := rp2.newN hdx
  have r2 : Rep X.K GI F2 (updc c2 x1 (.ins (He.ga X.K x) [])) (upd (upd H2 dx (.own x1)) x1 (.ins (He.ga X.K x) dx [])) := r1.newC (by rw [upd_ne (Ne.symm ne)]; exact hx1) ⟨dx, [], rfl, .nil⟩
  refine ⟨F2, .ref x1 :: ds, _, E, _, .cons (.ref x1) hds, r2, q2 x1 (rp2.frc hx1), ?_, fun F' c' H' cls od l' r' hE => lx F' c' H' cls od (l2.trans' l') r' hE⟩
  rintro F3 c3 H3 v d l3 r3 h3 ⟨rfl, q3⟩
  exact ⟨h3.non_inv, k' F3 c3 H3 _ _ (l2.trans' l3) r3 (.ref x1) q3⟩
end
/-! ### sorted(d) of text keys; d.setdefault(k, e) -/
def strKeys : List (Key × D) → Option (List Str)
  | [] => some []
  | (.inr x, _) :: r => (strKeys r).map (x :: ·)
  | _ => none
theorem strKeys_map : ∀ {kvs : List (Key × D)} {ks : List Str}, strKeys kvs = some ks → kvs.map (·.1) = ks.map Sum.inr
  | [], ks, h => by cases h; rfl
  | (.inr i, v) :: r, ks, h => by
    simp only [strKeys, Option.map_eq_some_iff] at h
    obtain ⟨t, h1, rfl⟩ := h
    rw [List.map_cons, List.map_cons, strKeys_map h1]
  | (.inl x, v) :: r, ks, h => by simp [strKeys] at h
def sortKSR (m : Bool) : RDn := fun c ds Q => match ds with
  | [.ref p] => ∃ kvs ks, c p = some (.dK kvs) ∧ strKeys kvs = some ks ∧ ks.length < 64 ∧ ∀ ys : List Str, ys.Perm ks → PyProof.Rows.sortedS ys = true → newL m c (ys.map D.str) Q
  | _ => False
theorem ce_sortedKS {GI : Hp → Hp → Prop} {X : Cx} {p pos : Pos} {e : Expr} {wr : WA} (m : Bool) (hc : X.calm = true) (hm : X.mg "sorted" = none) (ha : CA GI X [e] wr) (hg : Gl X "sorted" := by rfl) (he : starEach [e] X.env = (false, eval e X.env) :: starEach [] X.env := by rfl) (hpl : (backTo pos (starEach [] X.env)).any (·.1) = false := by rfl) :
    CE GI X (.Call (.Name "sorted" p) [e] [] pos) (wFn (sortKSR m) wr) := ce_bfn (call_sortedD hc) (fun F H c vs ds Qd Q r h q k => by
  unfold sortKSR at q
  split at q
  · obtain ⟨v, rfl, h0⟩ := h.inv1
    obtain ⟨kvs, ks, e1, e2, e3, q1⟩ := q
    obtain ⟨f0, o, g0, us, rfl, g1⟩ := r.cel _ _ e1
    rw [h0.ref_inv]
    exact ⟨_, us, ks, rfl, .inl g0, by rw [kd_keys g1, strKeys_map e2], e3, fun ys p g2 g3 hp => newL_snd r DVs.strs (q1 ys g2 g3) k p hp⟩
  · exact q.elim) hm ha (hg := hg) (he := he) (hpl := hpl)
def wSetDef (o k x : WE) : WE := fun E env c Q => o E env c fun d c1 => ∃ p, d = .ref p ∧ (∃ kvs, c1 p = some (.dK kvs)) ∧ k E env c1 fun y c2 => x E env c2 fun z c3 => ∃ kvs j, c3 p = some (.dK kvs) ∧ keyD y = some j ∧ kvs.length < sizeLine ∧
  (∀ v, valD kvs j = some v → Q v c3) ∧ (valD kvs j = none → Q z (updc c3 p (.dK (putKD kvs j z))))
theorem kd_val {K : PySem.W.Frag} {F : Hp} {k : Key} : ∀ {us : List (Key × V)} {kvs : List (Key × D)}, KD K F us kvs → (∀ v, valV us k = some v → ∃ d, valD kvs k = some d ∧ DV K F v d) ∧ (valV us k = none → valD kvs k = none)
  | _, _, .nil => ⟨fun v h => by simp [valV] at h, fun _ => rfl⟩
  | (u, x) :: us, (g, y) :: fs, .cons h t => by
    obtain ⟨h1, h2⟩ := h
    simp only at h1 h2
    subst h1
    have ih := kd_val (k := k) t
    unfold valV valD at ih ⊢
    rw [List.find?_cons, List.find?_cons]
    by_cases z : u = k
    · simp [z]; exact h2
    · simp [z]; simpa using ih
theorem ce_setdef {GI : Hp → Hp → Prop} {X : Cx} {o e f : Expr} {wo wk wx : WE} {apos cpos : Pos} (ho : CE GI X o wo) (he : CE GI X e wk) (hf : CE GI X f wx) (m : M2 X o "setdefault" apos e f cpos := by exact ⟨rfl, rfl, rfl, rfl⟩) : CE GI X (.Call (.Attribute o "setdefault" apos) [e, f] [] cpos) (wSetDef wo wk wx) := fun W x => by
  refine pe_imp (pe_dsetd (ho W x) (he W x) (hf W x) m) ?_
  rintro σ H Q ⟨F, env, c, E, Qd, re, rp, lx, q, k⟩
  refine ⟨F, env, c, E, _, re, rp, lx, q, ?_⟩
  rintro F1 c1 H1 v d l1 r1 h1 ⟨p, rfl, hd, q1⟩
  refine ⟨p, h1.ref_inv, isD_of r1 (.inl hd), F1, env, c1, E, _, re.le l1, r1, lx.le l1, q1, ?_⟩
  intro F2 c2 H2 v2 d2 l2 r2 h2 q2
  refine ⟨F2, env, c2, E, _, (re.le l1).le l2, r2, (lx.le l1).le l2, q2, ?_⟩
  rintro F3 c3 H3 v3 d3 l3 r3 h3 ⟨kvs, j, e1, e2, e3, q3, q4⟩
  obtain ⟨f0, o, g0, us, rfl, g1⟩ := r3.cel _ _ e1
  refine ⟨us, j, g0, keyD_kV (h2.le l3) e2, by rw [g1.length]; exact e3, fun v4 h4 => ?_, fun h4 => ?_⟩
  · obtain ⟨d4, h5, h6⟩ := (kd_val g1).1 v4 h4
    exact k F3 c3 H3 _ _ ((l1.trans' l2).trans' l3) r3 h6 (q3 d4 h5)
  · exact k F3 _ _ _ _ ((l1.trans' l2).trans' l3) (r3.wr (k := .dK (putKD kvs j d3)) e1 (by rw [g0]; exact True.intro) ⟨_, rfl, KD.put g1 j h3⟩) h3 (q4 ((kd_val g1).2 h4))
section
variable {E : XD} {env : DEnv} {c : CMap} {Q : DK} {DD : DEnds} {K : PySem.W.Frag} {x f : Str} {p : Addr} {fs : List (Str × D)} {v d : D}
theorem wFld_i {a : WE} (h : a E env c fun d c1 => ∃ p fs v, d = .ref p ∧ c1 p = some (.ins (He.ga K x) fs) ∧ fs.lookup f = some v ∧ Q v c1) : wFld K x f a E env c Q := h
theorem fld_i (h : c p = some (.ins (He.ga K x) fs)) (h2 : fs.lookup f = some v) (q : Q v c) : ∃ p' fs' v', D.ref p = .ref p' ∧ c p' = some (.ins (He.ga K x) fs') ∧ fs'.lookup f = some v' ∧ Q v' c := ⟨p, fs, v, rfl, h, h2, q⟩
theorem wFldSet_i {o a : WE} (h : a (exE DD env) env c fun d c1 => o (exE DD env) env c1 fun y c2 => ∃ p fs, y = .ref p ∧ c2 p = some (.ins (He.ga K x) fs) ∧ fs.length < 900 ∧ DD.nx env (updc c2 p (.ins (He.ga K x) (putFD f d fs)))) : wFldSet K x f o a DD env c := h
theorem wFldAdd_i {o a : WE} (h : o (exE DD env) env c fun y c1 => ∃ p fs i, y = .ref p ∧ c1 p = some (.ins (He.ga K x) fs) ∧ fs.lookup f = some (.int i) ∧ a (exE DD env) env c1 fun d c2 => ∃ j fs', d = .int j ∧ c2 p = some (.ins (He.ga K x) fs') ∧ fs'.length < 900 ∧ DD.nx env (updc c2 p (.ins (He.ga K x) (putFD f (.int (i + j)) fs')))) : wFldAdd K x f o a DD env c := h
theorem wFldSub_i {o a : WE} (h : o (exE DD env) env c fun y c1 => ∃ p fs i, y = .ref p ∧ c1 p = some (.ins (He.ga K x) fs) ∧ fs.lookup f = some (.int i) ∧ a (exE DD env) env c1 fun d c2 => ∃ j fs', d = .int j ∧ c2 p = some (.ins (He.ga K x) fs') ∧ fs'.length < 900 ∧ DD.nx env (updc c2 p (.ins (He.ga K x) (putFD f (.int (i - j)) fs')))) : wFldSub K x f o a DD env c := h
theorem wSetDef_i {o k x : WE} (h : o E env c fun d c1 => ∃ p, d = .ref p ∧ (∃ kvs, c1 p = some (.dK kvs)) ∧ k E env c1 fun y c2 => x E env c2 fun z c3 => ∃ kvs j, c3 p = some (.dK kvs) ∧ keyD y = some j ∧ kvs.length < sizeLine ∧ (∀ v, valD kvs j = some v → Q v c3) ∧ (valD kvs j = none → Q z (updc c3 p (.dK (putKD kvs j z))))) : wSetDef o k x E env c Q := h
theorem wMake_i {sp : DSpec} {r : WA} (h : r E env c fun ds c1 => ∀ p, c1 p = none → sp (.ref p :: ds) (updc c1 p (.ins (He.ga K x) [])) E fun d c2 => d = .non ∧ Q (.ref p) c2) : wMake K x sp r E env c Q := h
theorem sortKS_i {m : Bool} {kvs : List (Key × D)} {ks : List Str} (hp : c p = some (.dK kvs)) (h : strKeys kvs = some ks) (hl : ks.length < 64) (q : ∀ ys : List Str, ys.Perm ks → PyProof.Rows.sortedS ys = true → newL m c (ys.map D.str) Q) : sortKSR m c [.ref p] Q := ⟨kvs, ks, hp, h, hl, q⟩
end
/-! ### the methods as the top leaves them -/
def inCls : Stmt → Nat → Stmt
  | .ClassDef _ _ _ body _ _ _ _ _ _ p, j => body.getD j (.Pass p)
  | s, _ => s
structure MethAt (K : PySem.W.Frag) (x m qual : Str) (st : Stmt) (f : Addr) (fd : FuncData) : Prop where
  fn : Fun K m qual st f fd
  at_ : f = He.ma K (He.ga K x) m
theorem methAt_of {K : PySem.W.Frag} {fa : List He.Fa} {fn : List He.DefD} {x m qual : Str} {st : Stmt} (c : He.SaysD fa fn K) (i : Nat) (h : fn[i]? = some ⟨(x, some m), m, qual, defArgs st, defBody st, defScope st, [], []⟩) : ∃ f fd, MethAt K x m qual st f fd := by
  obtain ⟨fd, F⟩ := c.def_ i h
  refine ⟨He.ma K (He.ga K x) m, fd, ?_, rfl⟩
  obtain ⟨oc, od, dV, kV, doc, pm, an, cdv, ct, osl, e, lk, hcd, hD, hK⟩ := F.ex
  rcases hD with ⟨_, z⟩ | ⟨z, _⟩
  · subst z
    exact ⟨⟨oc, od, kV, doc, pm, an, cdv, ct, osl, e, lk, hcd⟩, F.kp⟩
  · exact absurd rfl z
theorem mkD_of {GI : Hp → Hp → Prop} {P : Program} {w : World} {K : PySem.W.Frag} {mg : Str → Option Value} {base : Heap} {x qual : Str} {st : Stmt} {f : Addr} {fd : FuncData} {N ps : List Str} {k n : Nat} {sp : DSpec} {ws : WS}
    (g : mg x = some (.ref (He.ga K x))) (M : Mk K (He.ga K x) (He.ma K (He.ga K x) "__init__")) (D : MethAt K x "__init__" qual st f fd) (hb : Binds K fd ps []) (S : FnScope N ps (defScope st)) (hn : ps.length = n) (len : ∀ ds c E Q, sp ds c E Q → ds.length = ps.length)
    (body : ∀ (cdv : Value) (A : Around) (outer : List Env) (s : Shared) (H : Hp) (E : XK), Room k (A.deeper (envOfC qual (defScope st) s.heap.objs.size f cdv)) →
      CSs GI (cxOf (L2.CX P w) P w K mg base N qual (defScope st) f cdv A outer s H E) (defBody st) ws)
    (ok : ∀ ds c (E : XD) (Q : DK), sp ds c E Q → ws (endD E Q) (startE N.length ds) c) : MkD GI P w K mg base (k + 1) x n sp := by
  refine ⟨g, f, ?_, ⟨fd, ps, hn, D.fn.kp, hb, fnok_of D.fn S len body ok⟩⟩
  rw [D.at_]
  exact M
end DL
/-! the data layer: dict displays, lists taken apart, == all the way down -/
namespace DL
open PySem PySem.Spec L2
open PyProof.Rows hiding St
/-! ### {k: v, ..} -/
def wPairs : List (WE × WE) → XD → DEnv → CMap → (List (D × D) → CMap → Prop) → Prop
  | [], _, _, c, N => N [] c
  | (a, b) :: r, E, env, c, N => a E env c fun d c1 => b E env c1 fun e c2 => wPairs r E env c2 fun ps c3 => N ((d, e) :: ps) c3
def keysP : List (D × D) → Option (List (Key × D))
  | [] => some []
  | (d, v) :: r => match keyD d, keysP r with
    | some k, some ks => some ((k, v) :: ks)
    | _, _ => none
def wDisp (ws : List (WE × WE)) : WE := fun E env c Q => ∀ p, c p = none → wPairs ws E env (updc c p (.dK [])) fun ps c2 => c2 p = some (.dK []) ∧ ∃ ks, keysP ps = some ks ∧ ks.length ≤ 15 ∧ Q (.ref p) (updc c2 p (.dK (mergeKD [] ks)))
def CPs (GI : Hp → Hp → Prop) (X : Cx) (pos : Pos) (keys : List (Option Expr)) (values : List Expr) (ws : List (WE × WE)) : Prop := ∀ W, XOk X W → PPs X pos keys values (ws.map fun p => (lowE X.K GI W p.1, lowE X.K GI W p.2))
section
variable {GI : Hp → Hp → Prop} {X : Cx} {pos : Pos} {k v : Expr} {ks : List (Option Expr)} {vs : List Expr} {wk wv : WE} {ws : List (WE × WE)}
theorem cps_nil : CPs GI X pos [] [] [] := fun W x => pps_nil
theorem cps_cons (hk : CE GI X k wk) (hv : CE GI X v wv) (hr : CPs GI X pos ks vs ws) : CPs GI X pos (some k :: ks) (v :: vs) ((wk, wv) :: ws) := fun W x => pps_cons (hk W x) (hv W x) (hr W x)
theorem low_pairs {W : WX} {σ : St} {E : XD} {env : DEnv} {F0 : Hp} : ∀ {ws : List (WE × WE)} {F : Hp} {c : CMap} {H : Hp} {N : List (D × D) → CMap → Prop} {Q : List (V × V) → Hp → Prop}, Le F0 F → RepE X.K F env σ → Rep X.K GI F c H → LX X.K GI W F σ E → wPairs ws E env c N →
    (∀ F' c' H' ps ds, Le F F' → Rep X.K GI F' c' H' → Paired (fun (p : V × V) (q : D × D) => DV X.K F' p.1 q.1 ∧ DV X.K F' p.2 q.2) ps ds → N ds c' → Q ps H') → tPairs (ws.map fun p => (lowE X.K GI W p.1, lowE X.K GI W p.2)) σ H Q
  | [], F, c, H, N, Q, _, re, r, lx, q, k => k F c H [] [] Le.rfl' r .nil q
  | (a, b) :: ws, F, c, H, N, Q, l0, re, r, lx, q, k => by
    refine ⟨F, env, c, E, _, re, r, lx, q, ?_⟩
    intro F1 c1 H1 v1 d1 l1 r1 h1 q1
    refine ⟨F1, env, c1, E, _, re.le l1, r1, lx.le l1, q1, ?_⟩
    intro F2 c2 H2 v2 d2 l2 r2 h2 q2
    refine low_pairs (F0 := F0) ((l0.trans' l1).trans' l2) ((re.le l1).le l2) r2 ((lx.le l1).le l2) q2 ?_
    intro F3 c3 H3 ps ds l3 r3 hp q3
    exact k F3 c3 H3 _ _ ((l1.trans' l2).trans' l3) r3 (.cons ⟨(h1.le l2).le l3, h2.le l3⟩ hp) q3
theorem keysP_V {K : PySem.W.Frag} {F : Hp} : ∀ {ps : List (V × V)} {ds : List (D × D)} {ks : List (Key × D)}, Paired (fun (p : V × V) (q : D × D) => DV K F p.1 q.1 ∧ DV K F p.2 q.2) ps ds → keysP ds = some ks → ∃ us : List (Key × V), ps = us.map (fun kv => (kV kv.1, kv.2)) ∧ KD K F us ks
  | _, _, ks, .nil, e => by cases e; exact ⟨[], rfl, .nil⟩
  | (v1, v2) :: ps, (d1, d2) :: ds, ks, .cons h t, e => by
    unfold keysP at e
    cases ek : keyD d1 with
    | none => rw [ek] at e; cases e
    | some k =>
      cases er : keysP ds with
      | none => rw [ek, er] at e; cases e
      | some r =>
        rw [ek, er] at e
        cases e
        obtain ⟨us, rfl, hu⟩ := keysP_V t er
        obtain ⟨h1, h2⟩ := h
        have := keyD_kV h1 ek
        simp only at this
        subst this
        exact ⟨(k, v2) :: us, rfl, .cons ⟨rfl, h2⟩ hu⟩
theorem ce_disp {keys : List (Option Expr)} {values : List Expr} (h : CPs GI X pos keys values ws) (hall : keys.all (·.isSome) = true := by rfl) (hl : keys.length = values.length := by rfl) (h0 : keys ≠ [] := by (intro z; cases z)) (h15 : keys.length ≤ 15 := by decide) : CE GI X (.Dict keys values pos) (wDisp ws) := fun W x => by
  refine pe_imp (pe_disp (h W x) hall hl h0 h15) ?_
  rintro σ H Q ⟨F, env, c, E, Qd, re, r, lx, q, k⟩ p hp
  have r1 : Rep X.K GI F (updc c p (.dK [])) (upd H p (.dK [])) := r.newC hp ⟨[], rfl, .nil⟩
  refine low_pairs (F0 := F) Le.rfl' re r1 lx (q p (r.frc hp)) ?_
  rintro F1 c1 H1 ps ds l1 r2 hpd ⟨e1, ks, e2, e3, q1⟩
  obtain ⟨f0, o, h0', us0, rfl, kd0⟩ := r2.cel _ _ e1
  cases kd0
  obtain ⟨us, rfl, hu⟩ := keysP_V hpd e2
  refine ⟨h0', us, rfl, by rw [Paired.length hu]; exact e3, ?_⟩
  exact k F1 _ _ _ _ l1 (r2.wr (k := .dK (mergeKD [] ks)) e1 (by rw [h0']; exact True.intro) ⟨_, rfl, KD.merge .nil hu⟩) (.ref p) q1
end
/-! ### a, b, .. = a list -/
def gLs (n : Nat) (gs : WGs) : WG := fun d env c Q => ∃ ds, res c d = .lst ds ∧ ds.length = n ∧ gs ds env c Q
theorem cg_lst {GI : Hp → Hp → Prop} {X : Cx} {pos : Pos} {vs : List Nat} {es : List Expr} {gs : WGs} (n : Nat) {k : Nat} (hc : X.calm = true) (h : CGs GI X vs es gs) (hn : (assignEach es X.env).length = n := by rfl) (hst : (assignEach es X.env).findIdx? (·.1) = none := by rfl) : CG GI X vs (.Tuple es k pos) (gLs n gs) := fun nd => by
  refine pg_imp (pg_lst hc (h nd) hn hst) ?_
  rintro v σ H Q ⟨F, env, c, d, Qd, re, r, h, ⟨ds, hd, hl, q⟩, kk⟩
  obtain ⟨a, xs, rfl, g1, k1⟩ := res_lst r h hd
  exact ⟨a, xs, rfl, SqL.of g1, by rw [k1.length]; exact hl, F, env, c, ds, Qd, re, r, k1, q, kk⟩
/-! ### == of lists of lists, in cells or not -/
def rsN (c : CMap) : Nat → D → D
  | 0, d => d
  | n + 1, d => match d with
    | .ref p => match c p with
      | some (.lst ds) => .lst (ds.map (rsN c n))
      | _ => .ref p
    | .tup ds => .tup (ds.map (rsN c n))
    | .lst ds => .lst (ds.map (rsN c n))
    | d => d
theorem okDs_all : ∀ {ds : List D}, okDs ds = true → ∀ d ∈ ds, okD d = true
  | d :: r, h, x, hx => by
    simp only [okDs, Bool.and_eq_true] at h
    rcases List.mem_cons.mp hx with rfl | hx
    · exact h.1
    · exact okDs_all h.2 x hx
theorem all_okDs : ∀ {ds : List D}, (∀ d ∈ ds, okD d = true) → okDs ds = true
  | [], _ => rfl
  | d :: r, h => by
    simp only [okDs, Bool.and_eq_true]
    exact ⟨h d List.mem_cons_self, all_okDs fun x hx => h x (List.mem_cons_of_mem _ hx)⟩
theorem rsN_ok {c : CMap} : ∀ (n : Nat) {d : D}, okD d = true → rsN c n d = d
  | 0, _, _ => rfl
  | n + 1, d, h => by
    cases d with
    | ref p => simp [okD] at h
    | tup ds =>
      simp only [okD] at h
      show D.tup (ds.map (rsN c n)) = .tup ds
      rw [List.map_congr_left (f := rsN c n) (g := fun x => x) (l := ds) (fun x hx => rsN_ok n (okDs_all h x hx)), List.map_id']
    | lst ds =>
      simp only [okD] at h
      show D.lst (ds.map (rsN c n)) = .lst ds
      rw [List.map_congr_left (f := rsN c n) (g := fun x => x) (l := ds) (fun x hx => rsN_ok n (okDs_all h x hx)), List.map_id']
    | _ => rfl
theorem dps_map {K : PySem.W.Frag} {F H : Hp} {f : D → D} (hf : ∀ v d, DV K F v d → okD (f d) = true → Dp K H v (toPy (f d))) : ∀ {vs : List V} {ds : List D}, DVs K F vs ds → okDs (ds.map f) = true → DpAll K H vs (toPys (ds.map f))
  | _, _, .nil, _ => .nil
  | _, _, .cons h t, o => by
    rw [List.map_cons] at o ⊢
    simp only [okDs, Bool.and_eq_true] at o
    exact .cons (hf _ _ h o.1) (dps_map hf t o.2)
theorem rsN_dp {K : PySem.W.Frag} {GI : Hp → Hp → Prop} {F H : Hp} {c : CMap} (r : Rep K GI F c H) : ∀ (n : Nat) (v : V) (d : D), DV K F v d → okD (rsN c n d) = true → Dp K H v (toPy (rsN c n d))
  | 0, v, d, h, o => h.dp r.sub o
  | n + 1, v, d, h, o => by
    cases d with
    | ref p =>
      cases e : c p with
      | none =>
        have z : rsN c (n + 1) (.ref p) = .ref p := by unfold rsN; dsimp only; rw [e]
        rw [z] at o; simp [okD] at o
      | some k =>
        cases k with
        | lst ds =>
          have z : rsN c (n + 1) (.ref p) = .lst (ds.map (rsN c n)) := by unfold rsN; dsimp only; rw [e]
          rw [z] at o ⊢
          simp only [okD] at o
          obtain ⟨vs, h1, h2⟩ := r.lst e
          rw [h.ref_inv]
          exact .lst (SqL.of h1) (dps_map (rsN_dp r n) h2 o)
        | _ =>
          have z : rsN c (n + 1) (.ref p) = .ref p := by unfold rsN; dsimp only; rw [e]
          rw [z] at o; simp [okD] at o
    | tup ds =>
      obtain ⟨a, xs, rfl, g, k⟩ := h.tup_inv
      have o2 : okDs (ds.map (rsN c n)) = true := o
      exact .tup (SqT.of (r.sub _ _ g)) (dps_map (rsN_dp r n) k o2)
    | lst ds =>
      have o2 : okDs (ds.map (rsN c n)) = true := o
      obtain ⟨a, xs, rfl, h1, h2⟩ := res_lst (c := c) (d := .lst ds) r h rfl
      exact .lst (SqL.of h1) (dps_map (rsN_dp r n) h2 o2)
    | _ => exact h.dp r.sub o
def eqDR (neg : Bool) : RD2 := fun c d e Q => ∃ n, eqOk (rsN c n d) ∧ eqOk (rsN c n e) ∧ Q (.bl (neg ^^ decide (rsN c n d = rsN c n e))) c
section
variable {GI : Hp → Hp → Prop} {X : Cx} {pos : Pos} {a b : Expr} {wa wb : WE}
theorem eqDR_snd : Snd2 X.K GI (fun x y H Q => rEq x y H Q ∨ rEqD X.K x y H Q) (eqDR false) := by
  rintro F H c v1 v2 d1 d2 Qd Q r h1 h2 ⟨n, o1, o2, q⟩ k
  refine .inr ⟨_, _, rsN_dp r n _ _ h1 o1.1, rsN_dp r n _ _ h2 o2.1, shaped_of o1, shaped_of o2, ?_⟩
  rw [eqv_dec o1.1 o2.1]
  rw [Bool.false_xor] at q
  exact k F c H _ _ Le.rfl' r (.bl _) q
theorem neDR_snd : Snd2 X.K GI (fun x y H Q => rNe x y H Q ∨ rNeD X.K x y H Q) (eqDR true) := by
  rintro F H c v1 v2 d1 d2 Qd Q r h1 h2 ⟨n, o1, o2, q⟩ k
  refine .inr ⟨_, _, rsN_dp r n _ _ h1 o1.1, rsN_dp r n _ _ h2 o2.1, shaped_of o1, shaped_of o2, ?_⟩
  rw [eqv_dec o1.1 o2.1]
  rw [Bool.true_xor] at q
  exact k F c H _ _ Le.rfl' r (.bl _) q
theorem ce_eqN (hr : Room 0 X.A) (ha : CE GI X a wa) (hb : CE GI X b wb) : CE GI X (.Compare a [.Eq] [b] pos) (wOp (eqDR false) wa wb) := ce_cmp (op_eqA hr.units) eqDR_snd ha hb (nomark _)
theorem ct_eqN (hr : Room 0 X.A) (ha : CE GI X a wa) (hb : CE GI X b wb) : CT GI X (.Compare a [.Eq] [b] pos) (wTst (wOp (eqDR false) wa wb)) := ct_cmp (op_eqA hr.units) eqDR_snd ha hb (nomark _)
theorem ce_neN (hr : Room 0 X.A) (ha : CE GI X a wa) (hb : CE GI X b wb) : CE GI X (.Compare a [.NotEq] [b] pos) (wOp (eqDR true) wa wb) := ce_cmp (op_neA hr.units) neDR_snd ha hb (nomark _)
theorem ct_neN (hr : Room 0 X.A) (ha : CE GI X a wa) (hb : CE GI X b wb) : CT GI X (.Compare a [.NotEq] [b] pos) (wTst (wOp (eqDR true) wa wb)) := ct_cmp (op_neA hr.units) neDR_snd ha hb (nomark _)
end
section
variable {E : XD} {env : DEnv} {c : CMap} {Q : DK} {d e x : D}
theorem wDisp_i {ws : List (WE × WE)} (h : ∀ p, c p = none → wPairs ws E env (updc c p (.dK [])) fun ps c2 => c2 p = some (.dK []) ∧ ∃ ks, keysP ps = some ks ∧ ks.length ≤ 15 ∧ Q (.ref p) (updc c2 p (.dK (mergeKD [] ks)))) : wDisp ws E env c Q := h
theorem pairs_c {a b : WE} {r : List (WE × WE)} {N : List (D × D) → CMap → Prop} (h : a E env c fun d c1 => b E env c1 fun e c2 => wPairs r E env c2 fun ps c3 => N ((d, e) :: ps) c3) : wPairs ((a, b) :: r) E env c N := h
theorem pairs_n {N : List (D × D) → CMap → Prop} (h : N [] c) : wPairs [] E env c N := h
theorem gLs_i {n : Nat} {gs : WGs} {ds : List D} {N : DEnv → CMap → Prop} (h : res c d = .lst ds) (hl : ds.length = n) (q : gs ds env c N) : gLs n gs d env c N := ⟨ds, h, hl, q⟩
theorem eqN_i {neg : Bool} {d' e' : D} (n : Nat) (h1 : rsN c n d = d') (h2 : rsN c n e = e') (o1 : eqOk d') (o2 : eqOk e') (q : Q (.bl (neg ^^ decide (d' = e'))) c) : eqDR neg c d e Q := ⟨n, by rw [h1]; exact o1, by rw [h2]; exact o2, by rw [h1, h2]; exact q⟩
end
end DL
/-! the data layer: len(set(xs)) of a list of texts -/
namespace L2
open PySem PySem.Spec PyProof.Rows
section
variable {prog : Program} {w : World} {K : Type} [DecidableEq K]
/-- the unlike ones of the first i keys -/
def gather (key : Nat → K) : Nat → List K
  | 0 => []
  | i + 1 => if key i ∈ gather key i then gather key i else gather key i ++ [key i]
theorem gather_le (key : Nat → K) : ∀ i : Nat, (gather key i).length ≤ i
  | 0 => Nat.le_refl _
  | i + 1 => by
    have h := gather_le key i
    unfold gather
    split
    · omega
    · rw [List.length_append]; simp only [List.length_cons, List.length_nil]; omega
theorem gather_mem (key : Nat → K) (i : Nat) (k : K) : (decide (k ∈ gather key i) || decide (k = key i)) = decide (k ∈ gather key (i + 1)) := by
  rw [show gather key (i + 1) = if key i ∈ gather key i then gather key i else gather key i ++ [key i] from rfl]
  by_cases h : key i ∈ gather key i
  · rw [if_pos h]
    by_cases e : k = key i
    · subst e; simp [h]
    · simp [e]
  · rw [if_neg h]
    by_cases e : k = key i <;> simp [e]
theorem gather_len (key : Nat → K) (i : Nat) : (if decide (key i ∈ gather key i) then (gather key i).length else (gather key i).length + 1) = (gather key (i + 1)).length := by
  rw [show gather key (i + 1) = if key i ∈ gather key i then gather key i else gather key i ++ [key i] from rfl]
  by_cases h : key i ∈ gather key i <;> simp [h]
theorem setOf_eq {knd : KeyKind prog w K} {h : Heap} {a : Addr} {f g : K → Bool} {n m : Nat} (x : h.SetOf knd a f n) (e1 : ∀ k, f k = g k) (e2 : n = m) : h.SetOf knd a g m := by
  rw [← e2, ← funext e1]; exact x
variable {A : Around} {R : Result → Shared → Prop} {I : Addr} {fp wr : List Addr} {G : Array GenState → Array GenState → Prop} {n : Nat} {P : Nat → Value → Prop} {St : Nat → Shared → Prop}
theorem set_loopK {knd : KeyKind prog w K} (W : WalksS prog w A.in1 I fp wr G n P St) {S : Addr} (off : S ∉ fp) (key : Nat → K) (hv : ∀ i v, P i v → knd.is (key i) v = true ∧ v.scannable = true) (hb : n + 1 < scanBound) :
    ∀ (left i : Nat) (s : Shared), i + left = n → St i s → s.heap.SetOf knd S (fun k => decide (k ∈ gather key i)) (gather key i).length →
      (∀ t, Moved (S :: wr) G s t → t.heap.SetOf knd S (fun k => decide (k ∈ gather key n)) (gather key n).length → R (.ok (.ret .none)) t) →
      codeAny (model prog w) A (.builtin "set.update.loop" ⟨[.ref S, .ref I], []⟩) R s := by
  have offW : S ∉ wr := fun z => off (W.sub S z)
  have wide : ∀ b ∈ wr, b ∈ S :: wr := fun b z => .tail _ z
  have carry : ∀ {f : K → Bool} {m : Nat} {s s' : Shared}, Moved wr G s s' → s.heap.SetOf knd S f m → s'.heap.SetOf knd S f m := by
    rintro f m s s' mv ⟨o, es, ep, tb, e, rest⟩
    exact ⟨o, es, ep, tb, mv.heap S _ offW e, rest⟩
  intro left
  induction left with
  | zero =>
    intro i s e st x out
    obtain rfl : i = n := by omega
    refine codeAny_builtin F.entry_set_update_loop (by
      rw [Around.under_plainId F.plain_set_update_loop _]
      show wpAny _ A.in1 (pyNext (.ref I) >>= _) _ _ s
      refine wpAny_bind (W.done s _ _ st fun s' mv => ?_)
      exact (show wpAny _ A.in1 (ret Value.none) _ _ s' from wpAny_pure (out s' (mv.mono wide) (carry mv x))))
  | succ left ih =>
    intro i s e st x out
    refine codeAny_builtin F.entry_set_update_loop (by
      rw [Around.under_plainId F.plain_set_update_loop _]
      show wpAny _ A.in1 (pyNext (.ref I) >>= _) _ _ s
      refine wpAny_bind (W.item i s _ _ (by omega) st fun v s' p st' mv => ?_)
      obtain ⟨isK, sc⟩ := hv i v p
      show wpAny _ A.in1 (holding [v] (setAdd S v) >>= _) _ _ s'
      refine wpAny_bind (wpAny_holding ?_)
      unfold setAdd
      refine wpAny_holding (wpAny_bind (knd.pyHash isK ?_))
      have room := gather_le key i
      have x1 := carry mv x
      refine wpAny_setAddHashed_of (s := { s' with toks := s'.toks + 1 }) isK sc x1 (by omega) fun h' same x2 => ?_
      have far : ∀ b ∉ [S], ∀ o, s'.heap.get? b = some o → h'.get? b = some o := fun b hb o eo => by
        rw [same.2 b (fun z => hb (z ▸ List.mem_cons_self))]; exact eo
      refine wpAny_pure ⟨plainId_quiet F.plain_set_update_loop _, ih (i + 1) _ (by omega) (W.frame _ s' _ _ st' (Nat.le_succ _) fun b hb o eo => far b (fun z => off (List.mem_singleton.mp z ▸ hb)) o eo) (setOf_eq x2 (gather_mem key i) (gather_len key i)) fun t mt xt => ?_⟩
      exact out t (Moved.trans W.gtrans ((mv.mono wide).then_heap (Nat.le_succ _) fun b o hb eo => far b (fun z => hb (List.mem_singleton.mp z ▸ List.mem_cons_self)) o eo) mt) xt)
end
section
variable {prog : Program} {w : World} {K : Type} [DecidableEq K] {A : Around} {E : Value → Shared → Prop} {s : Shared}
abbrev newSet (led : Bool) : Obj := { cls := .type "set", dict := none, data := .set #[] 0 (.fresh 0 0 led) }
set_option maxHeartbeats 8000000 in
theorem call_setK (knd : KeyKind prog w K) {l : Addr} {items : Array Value} (key : Nat → K) {Q : Value → Shared → Prop} (hh : A.handled = none) (hl : s.heap.IsList l items)
    (hv : ∀ i v, items[i]? = some v → knd.is (key i) v = true ∧ v.scannable = true) (hb : items.size + 1 < scanBound)
    (q : ∀ (h' : Heap) (tk : Nat), h'.SetOf knd s.heap.objs.size (fun k => decide (k ∈ gather key items.size)) (gather key items.size).length →
      (∀ b o, b < s.heap.objs.size → s.heap.get? b = some o → h'.get? b = some o) → Q (.ref s.heap.objs.size) { s with heap := h', toks := tk }) :
    wpAny (model prog w) A (call (.type "set") [.ref l]) Q E s := by
  obtain ⟨c, tl, hmro⟩ := PySem.F.called_set.mro
  have m1 := PySem.F.called_set.made
  have m2 := PySem.F.called_set.sub
  have m3 := PySem.F.called_set.notType
  have m4 := PySem.F.called_set.canCreate
  have m5 := PySem.F.typeCall_set_1 (.ref l)
  refine wpAny_call (codeAny_of_tree (by
    show wpAny _ _ (callAny (.type "set") _) _ _ _
    refine wpAny_pure ⟨Code.quiet_builtin _ (by decide +kernel), codeAny_builtin PySem.F.entry_type_call ?_⟩
    rw [Around.under_plain (weight_type_call_type "set" [.ref l] []) rfl]
    repeat (any_goals (first | assumption | wp_step))
    refine codeAny_mono (code_set_new_1 (.ref l) (E := E) (Q₁ := fun u t => ∃ led : Bool, u = .ref s.heap.objs.size ∧ t = { s with heap := s.heap.push (newSet led) }) fun led => ⟨led, rfl, rfl⟩) fun r t hr => ?_
    cases r with
    | error e => exact hr
    | ok fl =>
      cases fl with
      | next => exact hr.elim
      | brk => exact hr.elim
      | cont => exact hr.elim
      | ret u =>
        obtain ⟨led, rfl, rfl⟩ := hr
        have new : (s.heap.push (newSet led)).get? s.heap.objs.size = some (newSet led) := Heap.get?_push_size _ rfl
        have newT : Shared.TypeIs { s with heap := s.heap.push (newSet led) } (.ref s.heap.objs.size) "set" := ⟨_, new, rfl⟩
        have i1 := PySem.F.called_set.init.lookup
        have i2 := PySem.F.called_set.init.bind (.ref s.heap.objs.size)
        repeat (any_goals (first | assumption | wp_step))
        refine codeAny_mono (codeAny_call_builtin (R := wants (fun u t => u = .none ∧ ∃ h' tk, t = { s with heap := h', toks := tk } ∧
          h'.SetOf knd s.heap.objs.size (fun k => decide (k ∈ gather key items.size)) (gather key items.size).length ∧
          (∀ b o, b < s.heap.objs.size → s.heap.get? b = some o → h'.get? b = some o)) E) PySem.F.called_set.init.plain PySem.F.entry_set_init (check_set_init_1 newT ?_)) fun r2 t2 hr2 => ?_
        · obtain ⟨⟨lc, ld, lo, ls⟩, el, ec, ln, eo⟩ := hl
          simp only at ec eo
          subst ec; subst eo
          have ltS : l < s.heap.objs.size := Heap.lt_size el
          have el2 : (s.heap.push (newSet led)).get? l = some { cls := .type "list", dict := ld, data := .seq items ln, slots := ls } := Heap.get?_push_of_some _ el
          have s1 := PySem.F.sub_list_set
          have s2 := PySem.F.sub_list_frozenset
          have s3 : (Value.type "list" == Value.type "dict") = false := by decide
          have isL : (s.heap.push (newSet led)).IsList l items := ⟨_, el2, rfl, ln, rfl⟩
          unfold Builtin.«set.__init__» noKeywords Builtin.Frozenset.updateFrom
          generalize hPI : pyIter = PI
          wp_walk
          subst hPI
          refine wpAny_pyIter_list isL (wpAny_bind (wpAny_runValue ?_))
          have sz : (s.heap.push (newSet led)).objs.size = s.heap.objs.size + 1 := Heap.size_push _ _
          have h3 : A.in1.in1.in1.handled = none := by simp [hh]
          refine set_loopK ((Walks.list h3 _ l (by rw [sz]; exact Nat.ne_of_lt (Nat.lt_succ_of_lt ltS)) items).toS) (S := s.heap.objs.size) (by rw [sz]; simp only [List.mem_cons, List.not_mem_nil, or_false, not_or]; exact ⟨Nat.ne_of_lt (Nat.lt_succ_self _), Nat.ne_of_gt ltS⟩) key (fun i v e => hv i v e) hb items.size 0 _ (by omega) ⟨⟨_, Heap.get?_push_size _ rfl, rfl, rfl⟩, isL.push _⟩ ?_ ?_
          · exact setOf_eq ((setObjOf_fresh (knd := knd) led).setOf (Heap.get?_push_of_some _ new) (by unfold scanBound; omega)) (fun k => rfl) rfl
          · rintro ⟨h', g', d', tk', os'⟩ mv x
            obtain rfl : g' = s.gens := mv.gens
            obtain rfl : d' = s.drawn := mv.drawn
            obtain rfl : os' = s.os := mv.os
            refine (show wpAny _ _ _ _ _ _ from wpAny_pure ?_)
            exact (show wpAny _ _ (ret Value.none) _ _ _ from wpAny_pure ⟨rfl, h', tk', rfl, x, fun b o lt e => mv.heap b o (by rw [sz]; simp only [List.mem_cons, List.not_mem_nil, or_false, not_or]; exact ⟨Nat.ne_of_lt lt, Nat.ne_of_lt (Nat.lt_succ_of_lt lt)⟩) (Heap.get?_push_of_some _ (Heap.get?_push_of_some _ e))⟩)
        · cases r2 with
          | error e => exact hr2
          | ok fl =>
            cases fl with
            | next => exact hr2.elim
            | brk => exact hr2.elim
            | cont => exact hr2.elim
            | ret u =>
              obtain ⟨rfl, h', tk, rfl, x, keep⟩ := hr2
              repeat (any_goals (first | assumption | wp_step))
              exact q _ _ x keep))
end
end L2
namespace DL
open PySem PySem.Spec L2
open PyProof.Rows hiding St
def keyS (xs : List Str) (i : Nat) : Str := xs.getD i Str.empty
/-- how many unlike texts there are -/
def unlike (xs : List Str) : Nat := (gather (keyS xs) xs.length).length
def tLenSetS (K : PySem.W.Frag) (ta : TE) : TE := fun σ H Q => ta σ H fun x H1 => ∃ (l : Addr) (xs : List Str), x = V.ref l ∧ SqL K H1 l (xs.map V.str) ∧ xs.length < 64 ∧ Q (.int (unlike xs : Nat)) H1
theorem strs_vals : ∀ {xs : List Str} {its : List Value}, Vals (xs.map V.str) its → ∀ (i : Nat) (v : Value), its[i]? = some v → ∃ t, v = .str (keyS xs i) t
  | [], _, .nil, i, v, h => by simp at h
  | x :: xs, _, .cons r t, 0, v, h => by
    obtain ⟨k, rfl⟩ := r
    simp at h
    exact ⟨k, h.symm⟩
  | x :: xs, _, .cons r t, i + 1, v, h => by
    obtain ⟨k, e⟩ := strs_vals t i v (by simpa using h)
    exact ⟨k, by rw [e]; rfl⟩
theorem pe_lenSetS {X : Cx} {a : Expr} {ta : TE} {p p2 q pos : Pos} (hc : X.calm = true) (hm : X.mg "len" = none) (hm2 : X.mg "set" = none) (ha : PE X a ta) (hg : Gl X "len" := by rfl) (hg2 : Gl X "set" := by rfl)
    (na : starEach [a] X.env = (false, eval a X.env) :: starEach [] X.env := by rfl) : PE X (.Call (.Name "len" p) [.Call (.Name "set" p2) [a] [] q] [] pos) (tLenSetS X.K ta) := by
  refine ⟨fun pins s σ H Q I h => ?_⟩
  have b1 : bootBuiltins ("len" : Str) = some (.builtin "len") := by decide +kernel
  have b2 : bootBuiltins ("set" : Str) = some (.type "set") := by decide +kernel
  refine Call_ (ld_blt I hg hm b1 (PyProof.Rows.callWith_builtin1 (PyProof.Rows.args_cons ?_ rfl) rfl rfl))
  refine Call_ (ld_blt I hg2 hm2 b2 (PyProof.Rows.callWith_type1 (PyProof.Rows.args_cons (thn (ha.run pins s σ H _ I h) fun v s1 ⟨x, H1, I1, r1, q1⟩ => PyProof.Rows.args_nil ?_) na) na rfl))
  obtain ⟨l, xs, rfl, hq, hl, q1⟩ := q1
  cases r1
  obtain ⟨its, r, pl, hz⟩ := I1.list hq
  have el : its.toArray.size = xs.length := by rw [List.size_toArray, ← r.length, List.length_map]
  have ge := gather_le (keyS xs) xs.length
  refine call_setK (PySem.strKind X.prog X.w) (keyS xs) (I1.ok.hd hc) pl.isList (fun i v e => ?_) (by rw [el]; unfold scanBound; omega) fun h' tk hS hk => PyProof.Rows.args_nil ?_
  · obtain ⟨t, rfl⟩ := strs_vals r i v (by simpa using e)
    exact ⟨PySem.strKind_is _ _ _ _, rfl⟩
  · rw [el] at hS
    obtain ⟨o, es, ep, t, ho, hex, hd, _, _, _, hf, hn⟩ := hS
    have I2 : Inv X pins σ H1 { s1 with heap := h', toks := tk } := I1.kept fun b o e => hk b o (Heap.lt_size e) e
    have e0 : es.size = unlike xs := hn
    exact call_len_set ho hex hd hf (by rw [hn]; omega) ⟨.int (unlike xs : Nat), H1, I2.tok _, ⟨_, by rw [e0]⟩, q1⟩
def wLenSet (a : WE) : WE := fun E env c Q => a E env c fun d c1 => ∃ xs : List Str, res c1 d = .lst (xs.map D.str) ∧ xs.length < 64 ∧ Q (.int (unlike xs : Nat)) c1
theorem ce_lenSet {GI : Hp → Hp → Prop} {X : Cx} {a : Expr} {wa : WE} {p p2 q pos : Pos} (hc : X.calm = true) (hm : X.mg "len" = none) (hm2 : X.mg "set" = none) (ha : CE GI X a wa) (hg : Gl X "len" := by rfl) (hg2 : Gl X "set" := by rfl)
    (na : starEach [a] X.env = (false, eval a X.env) :: starEach [] X.env := by rfl) : CE GI X (.Call (.Name "len" p) [.Call (.Name "set" p2) [a] [] q] [] pos) (wLenSet wa) := fun W x => by
  refine pe_imp (pe_lenSetS hc hm hm2 (ha W x) (hg := hg) (hg2 := hg2) (na := na)) ?_
  rintro σ H Q ⟨F, env, c, E, Qd, re, rp, lx, q, k⟩
  refine ⟨F, env, c, E, _, re, rp, lx, q, ?_⟩
  rintro F1 c1 H1 v d l1 r1 h1 ⟨xs, e1, e2, q1⟩
  obtain ⟨l, vs, rfl, g1, k1⟩ := res_lst r1 h1 e1
  obtain rfl : vs = xs.map V.str := strs_V k1
  exact ⟨l, xs, rfl, SqL.of g1, e2, k F1 c1 H1 _ _ l1 r1 (.int _) q1⟩
theorem wLenSet_i {E : XD} {env : DEnv} {c : CMap} {Q : DK} {a : WE} (h : a E env c fun d c1 => ∃ xs : List Str, res c1 d = .lst (xs.map D.str) ∧ xs.length < 64 ∧ Q (.int (unlike xs : Nat)) c1) : wLenSet a E env c Q := h
end DL
namespace DL
open PySem PySem.Spec L2
open PyProof.Rows hiding St
def topS (i : Nat) : Stmt := PySem.Challenge.pw_manyfaces_k24_just_three_hundred.main.body.getD i (.Pass ⟨0, 0, 0, 0⟩)
abbrev t_law_reel : Stmt := topS 28
abbrev t_law_draw : Stmt := topS 29
abbrev t_law_loop : Stmt := topS 31
abbrev t_law_filled : Stmt := topS 32
abbrev t_come_to : Stmt := topS 11
abbrev t_added : Stmt := topS 4
abbrev t_lessened : Stmt := topS 5
abbrev t_multiplied : Stmt := topS 6
abbrev t_number_of : Stmt := topS 8
abbrev t_is_so : Stmt := topS 9
abbrev t_do_while : Stmt := topS 21
abbrev t_do_let : Stmt := topS 12
abbrev t_do_say : Stmt := topS 13
abbrev t_do_add : Stmt := topS 14
abbrev t_do_drop : Stmt := topS 15
abbrev t_do_count : Stmt := topS 16
abbrev t_do_if : Stmt := topS 17
abbrev t_do_each : Stmt := topS 18
abbrev t_do_part : Stmt := topS 19
abbrev t_do_stop : Stmt := topS 20
abbrev t_do_rows : Stmt := topS 23
abbrev t_boxes_told : Stmt := topS 24
abbrev t_tables_told : Stmt := topS 25
abbrev t_Going_init : Stmt := inCls (topS 10) 0
abbrev t_plain_run : Stmt := topS 26
abbrev t_law_alike : Stmt := topS 30
abbrev t_law_counted : Stmt := topS 33
abbrev t_law_within : Stmt := topS 34
abbrev t_law : Stmt := topS 35
def mksH : Mks := []
def fnH : List He.DefD := [⟨("_law_reel", none), "_law_reel", "_law_reel", defArgs t_law_reel, defBody t_law_reel, defScope t_law_reel, [], []⟩, ⟨("_law_draw", none), "_law_draw", "_law_draw", defArgs t_law_draw, defBody t_law_draw, defScope t_law_draw, [], []⟩, ⟨("_law_loop", none), "_law_loop", "_law_loop", defArgs t_law_loop, defBody t_law_loop, defScope t_law_loop, [], []⟩, ⟨("_law_filled", none), "_law_filled", "_law_filled", defArgs t_law_filled, defBody t_law_filled, defScope t_law_filled, [], []⟩, ⟨("come_to", none), "come_to", "come_to", defArgs t_come_to, defBody t_come_to, defScope t_come_to, [], []⟩, ⟨("added", none), "added", "added", defArgs t_added, defBody t_added, defScope t_added, [], []⟩, ⟨("lessened", none), "lessened", "lessened", defArgs t_lessened, defBody t_lessened, defScope t_lessened, [], []⟩, ⟨("multiplied", none), "multiplied", "multiplied", defArgs t_multiplied, defBody t_multiplied, defScope t_multiplied, [], []⟩, ⟨("number_of", none), "number_of", "number_of", defArgs t_number_of, defBody t_number_of, defScope t_number_of, [], []⟩, ⟨("is_so", none), "is_so", "is_so", defArgs t_is_so, defBody t_is_so, defScope t_is_so, [], []⟩, ⟨("do_while", none), "do_while", "do_while", defArgs t_do_while, defBody t_do_while, defScope t_do_while, [], []⟩, ⟨("do_let", none), "do_let", "do_let", defArgs t_do_let, defBody t_do_let, defScope t_do_let, [], []⟩, ⟨("do_say", none), "do_say", "do_say", defArgs t_do_say, defBody t_do_say, defScope t_do_say, [], []⟩, ⟨("do_add", none), "do_add", "do_add", defArgs t_do_add, defBody t_do_add, defScope t_do_add, [], []⟩, ⟨("do_drop", none), "do_drop", "do_drop", defArgs t_do_drop, defBody t_do_drop, defScope t_do_drop, [], []⟩, ⟨("do_count", none), "do_count", "do_count", defArgs t_do_count, defBody t_do_count, defScope t_do_count, [], []⟩, ⟨("do_if", none), "do_if", "do_if", defArgs t_do_if, defBody t_do_if, defScope t_do_if, [], []⟩, ⟨("do_each", none), "do_each", "do_each", defArgs t_do_each, defBody t_do_each, defScope t_do_each, [], []⟩, ⟨("do_part", none), "do_part", "do_part", defArgs t_do_part, defBody t_do_part, defScope t_do_part, [], []⟩, ⟨("do_stop", none), "do_stop", "do_stop", defArgs t_do_stop, defBody t_do_stop, defScope t_do_stop, [], []⟩, ⟨("do_rows", none), "do_rows", "do_rows", defArgs t_do_rows, defBody t_do_rows, defScope t_do_rows, [], []⟩, ⟨("boxes_told", none), "boxes_told", "boxes_told", defArgs t_boxes_told, defBody t_boxes_told, defScope t_boxes_told, [], []⟩, ⟨("tables_told", none), "tables_told", "tables_told", defArgs t_tables_told, defBody t_tables_told, defScope t_tables_told, [], []⟩, ⟨("Going", some "__init__"), "__init__", "Going.__init__", defArgs t_Going_init, defBody t_Going_init, defScope t_Going_init, [], []⟩, ⟨("plain_run", none), "plain_run", "plain_run", defArgs t_plain_run, defBody t_plain_run, defScope t_plain_run, [], []⟩, ⟨("_law_alike", none), "_law_alike", "_law_alike", defArgs t_law_alike, defBody t_law_alike, defScope t_law_alike, [], []⟩, ⟨("_law_counted", none), "_law_counted", "_law_counted", defArgs t_law_counted, defBody t_law_counted, defScope t_law_counted, [], []⟩, ⟨("_law_within", none), "_law_within", "_law_within", defArgs t_law_within, defBody t_law_within, defScope t_law_within, [], []⟩, ⟨("law", none), "law", "law", defArgs t_law, defBody t_law, defScope t_law, [], []⟩]
def faH : List He.Fa := [.glo "_law_reel", .glo "_law_draw", .glo "_law_loop", .glo "_law_filled", .glo "come_to", .glo "added", .glo "lessened", .glo "multiplied", .glo "number_of", .glo "is_so", .glo "do_while", .glo "do_let", .glo "do_say", .glo "do_add", .glo "do_drop", .glo "do_count", .glo "do_if", .glo "do_each", .glo "do_part", .glo "do_stop", .glo "do_rows", .glo "boxes_told", .glo "tables_told", .glo "Going", .glo "plain_run", .glo "_law_alike", .glo "_law_counted", .glo "_law_within", .glo "law", .free "all", .free "bool", .free "dict", .free "int", .free "isinstance", .free "len", .free "list", .free "max", .free "min", .free "range", .free "set", .free "sorted", .free "str", .free "tuple", .free "zip", .int "MOST_COUNTED" 300, .int "MOST_WITHIN" 20, .int "ROUND" 1000, .glo "DEEDS", .glo "SUMS", .glo "Going"]
def exH (K : PySem.W.Frag) : Bool := ndM mksH K && (dicB K "DEEDS" [("let", .glo "do_let"), ("say", .glo "do_say"), ("add", .glo "do_add"), ("drop", .glo "do_drop"), ("count", .glo "do_count"), ("if", .glo "do_if"), ("each", .glo "do_each"), ("do", .glo "do_part"), ("stop", .glo "do_stop")] && (dicB K "SUMS" [("+", .glo "added"), ("-", .glo "lessened"), ("*", .glo "multiplied")] && (clsB K "Going" ["named", "listed", "spoken", "ended", "counted", "within", "bodies"] && ((He.Fa.mkr "Going").ok K))))
theorem exH_ok {K : PySem.W.Frag} (h : exH K = true) : ndM mksH K = true ∧ dicB K "DEEDS" [("let", .glo "do_let"), ("say", .glo "do_say"), ("add", .glo "do_add"), ("drop", .glo "do_drop"), ("count", .glo "do_count"), ("if", .glo "do_if"), ("each", .glo "do_each"), ("do", .glo "do_part"), ("stop", .glo "do_stop")] = true ∧ dicB K "SUMS" [("+", .glo "added"), ("-", .glo "lessened"), ("*", .glo "multiplied")] = true ∧ clsB K "Going" ["named", "listed", "spoken", "ended", "counted", "within", "bodies"] = true ∧ (He.Fa.mkr "Going").ok K = true := by
  unfold exH at h
  simp only [Bool.and_eq_true] at h
  exact h
abbrev RH : PySem.W.OpenRow := PySem.W.OpenLaw.row PySem.Challenge.rw_manyfaces_k24_just_three_hundred
abbrev hkH : PySem.W.Hook := He.hookX 4 faH fnH [((fun K => He.ga K "DEEDS"), ["let", "say", "add", "drop", "count", "if", "each", "do", "stop"]), ((fun K => He.ga K "SUMS"), ["+", "-", "*"])] (mksH.map (·.1)) exH
def obH (s : PySem.W.SharedT) : He.AlX := He.obsX 4 faH fnH [((fun K => He.ga K "DEEDS"), ["let", "say", "add", "drop", "count", "if", "each", "do", "stop"]), ((fun K => He.ga K "SUMS"), ["+", "-", "*"])] (mksH.map (·.1)) exH (HandSHeadRun.getT s)
theorem obH_eq (s : PySem.W.SharedT) : obH s = hkH.obs s.abs := He.obsX_eq (HandSHeadRun.getT_eq s)
def looseH : List Str := [("MOST_COUNTED" : Str), ("MOST_WITHIN" : Str), ("ROUND" : Str), ("added" : Str), ("lessened" : Str), ("multiplied" : Str), ("SUMS" : Str), ("number_of" : Str), ("is_so" : Str), ("Going" : Str), ("come_to" : Str), ("do_let" : Str), ("do_say" : Str), ("do_add" : Str), ("do_drop" : Str), ("do_count" : Str), ("do_if" : Str), ("do_each" : Str), ("do_part" : Str), ("do_stop" : Str), ("do_while" : Str), ("DEEDS" : Str), ("do_rows" : Str), ("boxes_told" : Str), ("tables_told" : Str), ("plain_run" : Str), ("_law_reel" : Str), ("_law_draw" : Str), ("_law_alike" : Str), ("_law_loop" : Str), ("_law_filled" : Str), ("_law_counted" : Str), ("_law_within" : Str)]
set_option maxHeartbeats 0 in
theorem runH1 (w : World) : HandSHeadRun.RunEq RH (PySem.W.view RH.prog [35]) hkH obH 4000 looseH (wset w true) := by
  intro os
  kernel_rfl
set_option maxHeartbeats 0 in
theorem runH2 (w : World) : HandSHeadRun.RunEq RH (PySem.W.view RH.prog [35]) hkH obH 4000 looseH (wset w false) := by
  intro os
  kernel_rfl
theorem runH (w : World) : HandSHeadRun.RunEq RH (PySem.W.view RH.prog [35]) hkH obH 4000 looseH w := by
  exact by_wset (p := fun w => HandSHeadRun.RunEq RH (PySem.W.view RH.prog [35]) hkH obH 4000 looseH w) runH1 runH2 w
def b_law_reel : WS :=
  (wSeq (wAsg 1 (wOp (powR) (wC (.int 3)) (wC (.int 60))))
  (wSeq (wFor (wIt (wSl false (wVar 0) wNo (wSome (wC (.int 63))))) (gNm 2) (wAsg 1 (wOp (modR) (wOp (addR false) (wOp (addR false) (wOp (mulR false) (wVar 1) (wVar 1)) (wOp (modR) (wVar 2) (wC (.int 1000000000000000003)))) (wC (.int 11))) (wOp (subR) (wOp (mulR false) (wOp (powR) (wC (.int 2)) (wC (.int 64))) (wOp (powR) (wC (.int 2)) (wC (.int 63)))) (wC (.int 1))))))
  (wSeq (wAsg 3 (wComp false (wIt (wSl false (wVar 0) wNo (wSome (wC (.int 63))))) (gNm 2) (wTst (wOp (geA) (wVar 2) (wOp (powR) (wC (.int 10)) (wC (.int 18))))) (wOp (subR) (wVar 2) (wOp (powR) (wC (.int 10)) (wC (.int 18)))) [2]))
  (wRet (wLst true (wCons (wVar 3) (wCons (wOp (addR false) (wComp false (wIt (wSl false (wVar 0) wNo (wSome (wC (.int 63))))) (gNm 2) wYes (wOp (modR) (wVar 2) (wC (.int 1000003))) [2]) (wLst false (wCons (wC (.int 41)) wNil))) (wCons (wC (.int 0)) (wCons (wVar 1) wNil)))))))))

def b_law_draw : WS :=
  (wSeq (wIf (wTst (wOp (eqR true) (wOp idxR (wVar 0) (wC (.int 0))) (wLst false wNil))) (wSeq (wAsg 2 (wOp idxR (wOp idxR (wVar 0) (wC (.int 0))) (wC (.int 0))))
  (wSeq (wSet (wVar 0) (wC (.int 0)) (wOp (addR false) (wOp (mulR false) (wLst false (wCons (wOp (fdivR) (wVar 2) (wVar 1)) wNil)) (wFn intR (wCons (wOp (geA) (wVar 2) (wVar 1)) wNil))) (wSl false (wOp idxR (wVar 0) (wC (.int 0))) (wSome (wC (.int 1))) wNo)))
  (wRet (wOp (modR) (wVar 2) (wVar 1))))) wSkip)
  (wSeq (wSet (wVar 0) (wC (.int 2)) (wOp (addR false) (wOp idxR (wVar 0) (wC (.int 2))) (wC (.int 1))))
  (wSeq (wAsg 3 (wOp idxR (wOp idxR (wVar 0) (wC (.int 1))) (wOp (modR) (wOp idxR (wVar 0) (wC (.int 2))) (wFn lenR (wCons (wOp idxR (wVar 0) (wC (.int 1))) wNil)))))
  (wSeq (wAsg 4 (wOp (addR false) (wOp (addR false) (wOp (mulR false) (wOp idxR (wVar 0) (wC (.int 3))) (wOp idxR (wVar 0) (wC (.int 3)))) (wOp (mulR false) (wOp (addR false) (wVar 3) (wC (.int 7))) (wC (.int 69621)))) (wOp (mulR false) (wOp idxR (wVar 0) (wC (.int 2))) (wC (.int 1000003)))))
  (wSeq (wSet (wVar 0) (wC (.int 3)) (wOp (modR) (wVar 4) (wOp (subR) (wOp (mulR false) (wOp (powR) (wC (.int 2)) (wC (.int 64))) (wOp (powR) (wC (.int 2)) (wC (.int 63)))) (wC (.int 1)))))
  (wRet (wOp (modR) (wOp (fdivR) (wOp idxR (wVar 0) (wC (.int 3))) (wOp (powR) (wC (.int 2)) (wC (.int 40)))) (wVar 1))))))))

def b_law_loop : WS :=
  (wSeq (wAsg 2 (wTup (wCons (wC (.str "let")) (wCons (wC (.str "a")) (wCons (wTup (wCons (wC (.str "+")) (wCons (wTup (wCons (wC (.str "name")) (wCons (wC (.str "a")) wNil))) (wCons (wTup (wCons (wC (.str "number")) (wCons (wC (.int 1)) wNil))) wNil)))) wNil)))))
  (wSeq (wAsg 3 (wComp false (wRg1 (wCons (wVar 1) wNil)) (gNm 4) wYes (wTup (wCons (wC (.str "say")) (wCons (wTup (wCons (wC (.str "number")) (wCons (wOp (addR false) (wC (.int 1)) (wVar 4)) wNil))) wNil))) [4]))
  (wSeq (wAsg 5 (wLst false (wCons (wTup (wCons (wC (.str "let")) (wCons (wC (.str "a")) (wCons (wTup (wCons (wC (.str "number")) (wCons (wC (.int 0)) wNil))) wNil)))) (wCons (wTup (wCons (wC (.str "while")) (wCons (wC (.str "<")) (wCons (wTup (wCons (wC (.str "name")) (wCons (wC (.str "a")) wNil))) (wCons (wTup (wCons (wC (.str "number")) (wCons (wVar 0) wNil))) (wCons (wOp (addR false) (wLst false (wCons (wVar 2) wNil)) (wVar 3)) wNil)))))) wNil))))
  (wSeq (wAsg 6 (wLst false (wCons (wC (.int 0)) wNil)))
  (wSeq (wFor (wRg1 (wCons (wVar 0) wNil)) (gNm 7) (wAsg 6 (wOp (addR false) (wOp (addR false) (wVar 6) (wLst false (wCons (wC (.int 0)) (wCons (wNeg (wC (.int 1))) wNil)))) (wComp false (wRg1 (wCons (wVar 1) wNil)) (gNm 4) wYes (wOp (addR false) (wC (.int 1)) (wVar 4)) [4]))))
  (wRet (wTup (wCons (wVar 5) (wCons (wOp (addR false) (wVar 6) (wLst false (wCons (wC (.int 0)) wNil))) wNil)))))))))

def b_law_filled : WS :=
  (wSeq (wAsg 0 (wFn (listR true) (wCons (wVar 0) wNil)))
  (wSeq (wAsg 1 (wFn (listR false) (wCons (wVar 1) wNil)))
  (wSeq (wAsg 3 (wOp (subR) (wVar 2) (wFn lenR (wCons (wVar 1) wNil))))
  (wSeq (wWhile (wTst (wOp (gtA) (wVar 3) (wC (.int 40)))) (wSeq (wAsg 4 (wFn min2R (wCons (wC (.int 5)) (wCons (wOp (fdivR) (wOp (subR) (wVar 3) (wC (.int 1))) (wC (.int 40))) wNil))))
  (wSeq (wAsg 5 (wComp false (wRg1 (wCons (wVar 4) wNil)) (gNm 6) wYes (wTup (wCons (wC (.str "say")) (wCons (wTup (wCons (wC (.str "number")) (wCons (wOp (addR false) (wC (.int 11)) (wVar 6)) wNil))) wNil))) [6]))
  (wSeq (wDrop (wMt "list" appR (wVar 0) (wCons (wTup (wCons (wC (.str "each")) (wCons (wC (.str "t")) (wCons (wC (.str "x")) (wCons (wC (.str "x")) (wCons (wVar 5) wNil)))))) wNil)))
  (wSeq (wAsg 1 (wOp (addR false) (wOp (addR false) (wVar 1) (wLst false (wCons (wC (.int 0)) wNil))) (wOp (mulR false) (wComp false (wRg1 (wCons (wVar 4) wNil)) (gNm 6) wYes (wOp (addR false) (wC (.int 11)) (wVar 6)) [6]) (wC (.int 40)))))
  (wAsg 3 (wOp (subR) (wVar 2) (wFn lenR (wCons (wVar 1) wNil)))))))))
  (wSeq (wAsg 0 (wOp (addR true) (wVar 0) (wOp (mulR false) (wLst false (wCons (wTup (wCons (wC (.str "say")) (wCons (wTup (wCons (wC (.str "number")) (wCons (wC (.int 30)) wNil))) wNil))) wNil)) (wFn max2R (wCons (wC (.int 0)) (wCons (wVar 3) wNil))))))
  (wRet (wTup (wCons (wFrz (wVar 0)) (wCons (wOp (addR false) (wVar 1) (wOp (mulR false) (wLst false (wCons (wC (.int 30)) wNil)) (wFn max2R (wCons (wC (.int 0)) (wCons (wVar 3) wNil))))) wNil)))))))))

def b_come_to (K : PySem.W.Frag) : WS :=
  (wSeq (wIf (wTst (wOp (eqR false) (wFld K "Going" "counted" (wVar 0)) (wC (.int 300)))) (wSeq (wFldSet K "Going" "ended" (wVar 0) (wC (.int 2)))
  (wRet (wC (.bl false)))) wSkip)
  (wSeq (wFldAdd K "Going" "counted" (wVar 0) (wC (.int 1)))
  (wRet (wC (.bl true)))))

def b_added : WS :=
  (wRet (wOp (addR false) (wVar 0) (wVar 1)))

def b_lessened : WS :=
  (wRet (wOp (subR) (wVar 0) (wVar 1)))

def b_multiplied : WS :=
  (wRet (wOp (mulR false) (wVar 0) (wVar 1)))

def b_number_of (K : PySem.W.Frag) (s_number_of s_added s_lessened s_multiplied : DSpec) : WS :=
  (wSeq (wIf (wTst (wOp (eqR false) (wOp idxR (wVar 0) (wC (.int 0))) (wC (.str "number")))) (wRet (wOp idxR (wVar 0) (wC (.int 1)))) wSkip)
  (wSeq (wIf (wTst (wOp (eqR false) (wOp idxR (wVar 0) (wC (.int 0))) (wC (.str "name")))) (wRet (wGet2 (wVar 1) (wOp idxR (wVar 0) (wC (.int 1))) (wC (.int 0)))) wSkip)
  (wSeq (wAsg 2 (wTab K [("+", .glo "added"), ("-", .glo "lessened"), ("*", .glo "multiplied")] (wOp idxR (wVar 0) (wC (.int 0)))))
  (wRet (wOp (modR) (wCallT K [("added", s_added), ("lessened", s_lessened), ("multiplied", s_multiplied)] 2 (wCons (wCall s_number_of (wCons (wOp idxR (wVar 0) (wC (.int 1))) (wCons (wVar 1) wNil))) (wCons (wCall s_number_of (wCons (wOp idxR (wVar 0) (wC (.int 2))) (wCons (wVar 1) wNil))) wNil))) (wC (.int 1000)))))))

def b_is_so (s_number_of : DSpec) : WS :=
  (wSeq (wAsg 2 (wCall s_number_of (wCons (wOp idxR (wVar 0) (wC (.int 2))) (wCons (wVar 1) wNil))))
  (wSeq (wAsg 3 (wCall s_number_of (wCons (wOp idxR (wVar 0) (wC (.int 3))) (wCons (wVar 1) wNil))))
  (wSeq (wIf (wTst (wOp (eqR false) (wOp idxR (wVar 0) (wC (.int 1))) (wC (.str "<")))) (wRet (wOp (ltA) (wVar 2) (wVar 3))) wSkip)
  (wRet (wOp (eqR false) (wVar 2) (wVar 3))))))

def b_do_while (K : PySem.W.Frag) (s_come_to s_is_so s_do_rows : DSpec) : WS :=
  (wWhile (wAnd (wTst (wOp (eqR false) (wFld K "Going" "ended" (wVar 0)) (wC (.int 0)))) (wAnd (wTst (wCall s_come_to (wCons (wVar 0) wNil))) (wTst (wCall s_is_so (wCons (wVar 1) (wCons (wFld K "Going" "named" (wVar 0)) wNil)))))) (wDrop (wCall s_do_rows (wCons (wVar 0) (wCons (wOp idxR (wVar 1) (wC (.int 4))) wNil)))))

def b_do_let (K : PySem.W.Frag) (s_number_of : DSpec) : WS :=
  (wSet (wFld K "Going" "named" (wVar 0)) (wOp idxR (wVar 1) (wC (.int 1))) (wCall s_number_of (wCons (wOp idxR (wVar 1) (wC (.int 2))) (wCons (wFld K "Going" "named" (wVar 0)) wNil))))

def b_do_say (K : PySem.W.Frag) (s_number_of : DSpec) : WS :=
  (wDrop (wMt "list" appR (wFld K "Going" "spoken" (wVar 0)) (wCons (wCall s_number_of (wCons (wOp idxR (wVar 1) (wC (.int 1))) (wCons (wFld K "Going" "named" (wVar 0)) wNil))) wNil)))

def b_do_add (K : PySem.W.Frag) (s_number_of : DSpec) : WS :=
  (wSeq (wAsg 2 (wTup (wCons (wCall s_number_of (wCons (wOp idxR (wVar 1) (wC (.int 2))) (wCons (wFld K "Going" "named" (wVar 0)) wNil))) (wCons (wCall s_number_of (wCons (wOp idxR (wVar 1) (wC (.int 3))) (wCons (wFld K "Going" "named" (wVar 0)) wNil))) wNil))))
  (wDrop (wMt "list" appR (wSetDef (wFld K "Going" "listed" (wVar 0)) (wOp idxR (wVar 1) (wC (.int 1))) (wLst true wNil)) (wCons (wVar 2) wNil))))

def b_do_drop (K : PySem.W.Frag) (s_number_of : DSpec) : WS :=
  (wSeq (wAsg 2 (wCall s_number_of (wCons (wOp idxR (wVar 1) (wC (.int 2))) (wCons (wFld K "Going" "named" (wVar 0)) wNil))))
  (wSeq (wAsg 3 (wComp true (wIt (wGet2 (wFld K "Going" "listed" (wVar 0)) (wOp idxR (wVar 1) (wC (.int 1))) (wLst false wNil))) (gNm 4) (wTst (wOp (eqR true) (wOp idxR (wVar 4) (wC (.int 0))) (wVar 2))) (wVar 4) [4]))
  (wSet (wFld K "Going" "listed" (wVar 0)) (wOp idxR (wVar 1) (wC (.int 1))) (wVar 3))))

def b_do_count (K : PySem.W.Frag) : WS :=
  (wSet (wFld K "Going" "named" (wVar 0)) (wOp idxR (wVar 1) (wC (.int 1))) (wOp (modR) (wFn lenR (wCons (wGet2 (wFld K "Going" "listed" (wVar 0)) (wOp idxR (wVar 1) (wC (.int 2))) (wLst false wNil)) wNil)) (wC (.int 1000))))

def b_do_if (K : PySem.W.Frag) (s_is_so s_do_rows : DSpec) : WS :=
  (wIf (wTst (wCall s_is_so (wCons (wVar 1) (wCons (wFld K "Going" "named" (wVar 0)) wNil)))) (wDrop (wCall s_do_rows (wCons (wVar 0) (wCons (wOp idxR (wVar 1) (wC (.int 4))) wNil)))) (wDrop (wCall s_do_rows (wCons (wVar 0) (wCons (wOp idxR (wVar 1) (wC (.int 5))) wNil)))))

def b_do_each (K : PySem.W.Frag) (s_do_rows : DSpec) : WS :=
  (wFor (wIt (wFn (listR false) (wCons (wGet2 (wFld K "Going" "listed" (wVar 0)) (wOp idxR (wVar 1) (wC (.int 1))) (wLst false wNil)) wNil))) (gTp 2 (gCn (gNm 2) (gCn (gNm 3) gNl))) (wIf (wTst (wOp (eqR false) (wFld K "Going" "ended" (wVar 0)) (wC (.int 0)))) (wSeq (wSet (wFld K "Going" "named" (wVar 0)) (wOp idxR (wVar 1) (wC (.int 2))) (wVar 2))
  (wSeq (wSet (wFld K "Going" "named" (wVar 0)) (wOp idxR (wVar 1) (wC (.int 3))) (wVar 3))
  (wDrop (wCall s_do_rows (wCons (wVar 0) (wCons (wOp idxR (wVar 1) (wC (.int 4))) wNil)))))) wSkip))

def b_do_part (K : PySem.W.Frag) (s_do_rows : DSpec) : WS :=
  (wSeq (wIf (wTst (wOp (eqR false) (wFld K "Going" "within" (wVar 0)) (wC (.int 20)))) (wSeq (wFldSet K "Going" "ended" (wVar 0) (wC (.int 2)))
  wRetN) wSkip)
  (wSeq (wFldAdd K "Going" "within" (wVar 0) (wC (.int 1)))
  (wSeq (wDrop (wCall s_do_rows (wCons (wVar 0) (wCons (wOp idxR (wFld K "Going" "bodies" (wVar 0)) (wOp idxR (wVar 1) (wC (.int 1)))) wNil))))
  (wFldSub K "Going" "within" (wVar 0) (wC (.int 1))))))

def b_do_stop (K : PySem.W.Frag) : WS :=
  (wFldSet K "Going" "ended" (wVar 0) (wC (.int 1)))

def b_do_rows (K : PySem.W.Frag) (s_do_while s_come_to s_do_let s_do_say s_do_add s_do_drop s_do_count s_do_if s_do_each s_do_part s_do_stop : DSpec) : WS :=
  (wFor (wIt (wVar 1)) (gNm 2) (wIf (wAnd (wTst (wOp (eqR false) (wFld K "Going" "ended" (wVar 0)) (wC (.int 0)))) (wTst (wOp (eqR false) (wOp idxR (wVar 2) (wC (.int 0))) (wC (.str "while"))))) (wDrop (wCall s_do_while (wCons (wVar 0) (wCons (wVar 2) wNil)))) (wIf (wAnd (wTst (wOp (eqR false) (wFld K "Going" "ended" (wVar 0)) (wC (.int 0)))) (wTst (wCall s_come_to (wCons (wVar 0) wNil)))) (wSeq (wAsg 3 (wTab K [("let", .glo "do_let"), ("say", .glo "do_say"), ("add", .glo "do_add"), ("drop", .glo "do_drop"), ("count", .glo "do_count"), ("if", .glo "do_if"), ("each", .glo "do_each"), ("do", .glo "do_part"), ("stop", .glo "do_stop")] (wOp idxR (wVar 2) (wC (.int 0)))))
  (wDrop (wCallT K [("do_let", s_do_let), ("do_say", s_do_say), ("do_add", s_do_add), ("do_drop", s_do_drop), ("do_count", s_do_count), ("do_if", s_do_if), ("do_each", s_do_each), ("do_part", s_do_part), ("do_stop", s_do_stop)] 3 (wCons (wVar 0) (wCons (wVar 2) wNil))))) wSkip)))

def b_boxes_told : WS :=
  (wRet (wComp true (wIt (wFn (sortKSR false) (wCons (wVar 0) wNil))) (gNm 1) (wTst (wOp (eqR true) (wOp idxR (wVar 0) (wVar 1)) (wC (.int 0)))) (wTup (wCons (wVar 1) (wCons (wOp idxR (wVar 0) (wVar 1)) wNil))) [1]))

def b_tables_told : WS :=
  (wRet (wComp true (wIt (wFn (sortKSR false) (wCons (wVar 0) wNil))) (gNm 1) (wTst (wOp (eqR true) (wOp idxR (wVar 0) (wVar 1)) (wLst false wNil))) (wTup (wCons (wVar 1) (wCons (wOp idxR (wVar 0) (wVar 1)) wNil))) [1]))

def b_Going_init (K : PySem.W.Frag) : WS :=
  (wSeq (wFldSet K "Going" "named" (wVar 0) (wFn dictPR (wCons (wVar 2) wNil)))
  (wSeq (wFldSet K "Going" "listed" (wVar 0) (wDict false))
  (wSeq (wFor (wIt (wVar 3)) (gTp 2 (gCn (gNm 4) (gCn (gNm 5) gNl))) (wSet (wFld K "Going" "listed" (wVar 0)) (wVar 4) (wFn (listR true) (wCons (wVar 5) wNil))))
  (wSeq (wFldSet K "Going" "spoken" (wVar 0) (wLst true wNil))
  (wSeq (wFldSet K "Going" "ended" (wVar 0) (wC (.int 0)))
  (wSeq (wFldSet K "Going" "counted" (wVar 0) (wC (.int 0)))
  (wSeq (wFldSet K "Going" "within" (wVar 0) (wC (.int 0)))
  (wFldSet K "Going" "bodies" (wVar 0) (wFn dictPR (wCons (wVar 1) wNil))))))))))

def b_plain_run (K : PySem.W.Frag) (s_do_rows s_boxes_told s_tables_told s_Going_init : DSpec) : WS :=
  (wSeq (wAsg 3 (wMake K "Going" s_Going_init (wCons (wOp idxR (wVar 0) (wC (.int 1))) (wCons (wVar 1) (wCons (wVar 2) wNil)))))
  (wSeq (wDrop (wCall s_do_rows (wCons (wVar 3) (wCons (wOp idxR (wVar 0) (wC (.int 0))) wNil))))
  (wRet (wTup (wCons (wCall s_boxes_told (wCons (wFld K "Going" "named" (wVar 3)) wNil)) (wCons (wCall s_tables_told (wCons (wFld K "Going" "listed" (wVar 3)) wNil)) (wCons (wFld K "Going" "spoken" (wVar 3)) (wCons (wFld K "Going" "ended" (wVar 3)) wNil))))))))

def b_law_alike (s_law_alike : DSpec) : WS :=
  (wSeq (wIf (wOr (wTst (wFn isiR (wCons (wVar 1) (wCons (wC (.ty "tuple")) wNil)))) (wTst (wFn isiR (wCons (wVar 1) (wCons (wC (.ty "list")) wNil))))) (wSeq (wIf (wOr (wTst (wOp (eqR true) (wFn isiR (wCons (wVar 0) (wCons (wC (.ty "tuple")) wNil))) (wFn isiR (wCons (wVar 1) (wCons (wC (.ty "tuple")) wNil))))) (wTst (wOp (eqR true) (wFn isiR (wCons (wVar 0) (wCons (wC (.ty "list")) wNil))) (wFn isiR (wCons (wVar 1) (wCons (wC (.ty "list")) wNil)))))) (wRet (wC (.bl false))) wSkip)
  (wSeq (wIf (wTst (wOp (eqR true) (wFn lenR (wCons (wVar 0) wNil)) (wFn lenR (wCons (wVar 1) wNil)))) (wRet (wC (.bl false))) wSkip)
  (wRet (wFn allR (wCons (wComp false (wZip (wCons (wVar 0) (wCons (wVar 1) wNil))) (gTp 2 (gCn (gNm 2) (gCn (gNm 3) gNl))) wYes (wCall s_law_alike (wCons (wVar 2) (wCons (wVar 3) wNil))) [2, 3]) wNil))))) wSkip)
  (wSeq (wIf (wTst (wOp (isNR false) (wVar 1) (wC .non))) (wRet (wOp (isNR false) (wVar 0) (wC .non))) wSkip)
  (wSeq (wIf (wOr (wTst (wFn isiR (wCons (wVar 1) (wCons (wC (.ty "bool")) wNil)))) (wTst (wFn isiR (wCons (wVar 1) (wCons (wC (.ty "str")) wNil))))) (wRet (wAndV (wOp (eqR false) (wFn isiR (wCons (wVar 0) (wCons (wC (.ty "bool")) wNil))) (wFn isiR (wCons (wVar 1) (wCons (wC (.ty "bool")) wNil)))) (wOp (eqR false) (wVar 0) (wVar 1)))) wSkip)
  (wRet (wAndV (wFn isiR (wCons (wVar 0) (wCons (wC (.ty "int")) wNil))) (wAndV (wNotV (wFn isiR (wCons (wVar 0) (wCons (wC (.ty "bool")) wNil)))) (wOp (eqR false) (wVar 0) (wVar 1))))))))

def b_law_counted_10 (s_law_draw s_law_loop s_law_filled s_plain_run s_law_alike : DSpec) : WS :=
  (wSeq (wAsg 11 (wIfE (wTst (wOp (gtA) (wFn lenR (wCons (wVar 3) wNil)) (wC (.int 300)))) (wC (.int 2)) (wVar 5)))
  (wSeq (wAsg 12 (wTup (wCons (wVar 10) (wCons (wVar 6) (wCons (wComp false (wIt (wVar 7)) (gNm 9) (wTst (wOp (gtA) (wVar 9) (wC (.int 0)))) (wVar 9) [9]) (wCons (wVar 11) wNil))))))
  (wRet (wCall s_law_alike (wCons (wCall s_plain_run (wCons (wTup (wCons (wVar 4) (wCons (wLst false wNil) wNil))) (wCons (wLst false wNil) (wCons (wLst false (wCons (wTup (wCons (wC (.str "t")) (wCons (wOp (mulR false) (wLst false (wCons (wTup (wCons (wC (.int 0)) (wCons (wC (.int 0)) wNil))) wNil)) (wC (.int 40))) wNil))) wNil)) wNil)))) (wCons (wVar 12) wNil))))))
def b_law_counted_4 (s_law_draw s_law_loop s_law_filled s_plain_run s_law_alike : DSpec) : WS :=
  (wSeq (wAsg 4 (wOp (addR false) (wVar 4) (wOp (mulR false) (wLst false (wCons (wTup (wCons (wC (.str "stop")) wNil)) wNil)) (wVar 5))))
  (wSeq (wAsg 3 (wOp (addR false) (wVar 3) (wOp (mulR false) (wLst false (wCons (wC (.int 0)) wNil)) (wVar 5))))
  (wSeq (wAsg 6 (wLst false (wCons (wTup (wCons (wC (.str "t")) (wCons (wOp (mulR false) (wLst false (wCons (wTup (wCons (wC (.int 0)) (wCons (wC (.int 0)) wNil))) wNil)) (wC (.int 40))) wNil))) wNil)))
  (wSeq (wAsg 7 (wSl false (wVar 3) wNo (wSome (wC (.int 300)))))
  (wSeq (wAsg 8 (wFn lenR (wCons (wComp false (wIt (wVar 7)) (gNm 9) (wTst (wOp (eqR false) (wVar 9) (wNeg (wC (.int 1))))) (wVar 9) [9]) wNil)))
  (wSeq (wAsg 10 (wOp (mulR false) (wLst false (wCons (wTup (wCons (wC (.str "a")) (wCons (wVar 8) wNil))) wNil)) (wFn min2R (wCons (wC (.int 1)) (wCons (wVar 8) wNil)))))
  (b_law_counted_10 s_law_draw s_law_loop s_law_filled s_plain_run s_law_alike)))))))
def b_law_counted (s_law_draw s_law_loop s_law_filled s_plain_run s_law_alike : DSpec) : WS :=
  (wSeq (wAsg 1 (wOp idxR (wLst false (wCons (wCall s_law_draw (wCons (wVar 0) (wCons (wC (.int 71)) wNil))) (wCons (wOp (addR false) (wC (.int 48)) (wCall s_law_draw (wCons (wVar 0) (wCons (wC (.int 6)) wNil)))) wNil))) (wCall s_law_draw (wCons (wVar 0) (wCons (wC (.int 2)) wNil)))))
  (wSeq (wAsgG (gTp 2 (gCn (gNm 2) (gCn (gNm 3) gNl))) (wCall s_law_loop (wCons (wVar 1) (wCons (wCall s_law_draw (wCons (wVar 0) (wCons (wC (.int 5)) wNil))) wNil))))
  (wSeq (wAsgG (gTp 2 (gCn (gNm 4) (gCn (gNm 3) gNl))) (wCall s_law_filled (wCons (wVar 2) (wCons (wVar 3) (wCons (wOp (addR false) (wC (.int 295)) (wCall s_law_draw (wCons (wVar 0) (wCons (wC (.int 10)) wNil)))) wNil)))))
  (wSeq (wAsg 5 (wFn intR (wCons (wOp (eqR false) (wCall s_law_draw (wCons (wVar 0) (wCons (wC (.int 3)) wNil))) (wC (.int 0))) wNil)))
  (b_law_counted_4 s_law_draw s_law_loop s_law_filled s_plain_run s_law_alike)))))

def b_law_within_8 (s_law_draw s_plain_run s_law_alike : DSpec) : WS :=
  (wSeq (wAsg 9 (wCall s_plain_run (wCons (wTup (wCons (wOp (mulR false) (wLst false (wCons (wTup (wCons (wC (.str "do")) (wCons (wC (.str "p")) wNil))) wNil)) (wVar 1)) (wCons (wLst false (wCons (wTup (wCons (wC (.str "p")) (wCons (wLst false (wCons (wVar 3) wNil)) wNil))) wNil)) wNil))) (wCons (wLst false wNil) (wCons (wLst false wNil) wNil)))))
  (wRet (wAndV (wCall s_law_alike (wCons (wVar 7) (wCons (wVar 8) wNil))) (wCall s_law_alike (wCons (wVar 9) (wCons (wTup (wCons (wLst false (wCons (wTup (wCons (wC (.str "a")) (wCons (wVar 1) wNil))) wNil)) (wCons (wLst false wNil) (wCons (wLst false wNil) (wCons (wC (.int 0)) wNil))))) wNil))))))
def b_law_within (s_law_draw s_plain_run s_law_alike : DSpec) : WS :=
  (wSeq (wAsg 1 (wOp (addR false) (wC (.int 15)) (wCall s_law_draw (wCons (wVar 0) (wCons (wC (.int 11)) wNil)))))
  (wSeq (wAsg 2 (wOp idxR (wLst false (wCons (wLst false (wCons (wC (.str "p")) (wCons (wC (.str "p")) wNil))) (wCons (wLst false (wCons (wC (.str "p")) (wCons (wC (.str "q")) wNil))) wNil))) (wCall s_law_draw (wCons (wVar 0) (wCons (wC (.int 2)) wNil)))))
  (wSeq (wAsg 3 (wTup (wCons (wC (.str "let")) (wCons (wC (.str "a")) (wCons (wTup (wCons (wC (.str "+")) (wCons (wTup (wCons (wC (.str "name")) (wCons (wC (.str "a")) wNil))) (wCons (wTup (wCons (wC (.str "number")) (wCons (wC (.int 1)) wNil))) wNil)))) wNil)))))
  (wSeq (wAsg 4 (wLst true wNil))
  (wSeq (wFor (wRg1 (wCons (wLenSet (wVar 2)) wNil)) (gNm 5) (wSeq (wAsg 6 (wTup (wCons (wC (.str "if")) (wCons (wC (.str "<")) (wCons (wTup (wCons (wC (.str "name")) (wCons (wC (.str "a")) wNil))) (wCons (wTup (wCons (wC (.str "number")) (wCons (wVar 1) wNil))) (wCons (wLst false (wCons (wTup (wCons (wC (.str "do")) (wCons (wOp idxR (wVar 2) (wOp (subR) (wC (.int 1)) (wVar 5))) wNil))) wNil)) (wCons (wLst false wNil) wNil))))))))
  (wDrop (wMt "list" appR (wVar 4) (wCons (wTup (wCons (wOp idxR (wVar 2) (wVar 5)) (wCons (wLst false (wCons (wVar 3) (wCons (wVar 6) (wCons (wTup (wCons (wC (.str "say")) (wCons (wTup (wCons (wC (.str "number")) (wCons (wC (.int 5)) wNil))) wNil))) wNil)))) wNil))) wNil)))))
  (wSeq (wAsg 7 (wCall s_plain_run (wCons (wTup (wCons (wLst false (wCons (wTup (wCons (wC (.str "do")) (wCons (wC (.str "p")) wNil))) wNil)) (wCons (wFrz (wVar 4)) wNil))) (wCons (wLst false wNil) (wCons (wLst false wNil) wNil)))))
  (wSeq (wAsg 8 (wTup (wCons (wLst false (wCons (wTup (wCons (wC (.str "a")) (wCons (wVar 1) wNil))) wNil)) (wCons (wLst false wNil) (wCons (wOp (mulR false) (wLst false (wCons (wC (.int 5)) wNil)) (wVar 1)) (wCons (wC (.int 0)) wNil))))))
  (wSeq (wIf (wTst (wOp (gtA) (wVar 1) (wC (.int 20)))) (wAsg 8 (wTup (wCons (wLst false (wCons (wTup (wCons (wC (.str "a")) (wCons (wC (.int 20)) wNil))) wNil)) (wCons (wLst false wNil) (wCons (wLst false wNil) (wCons (wC (.int 2)) wNil)))))) wSkip)
  (b_law_within_8 s_law_draw s_plain_run s_law_alike)))))))))

def b_law (s_law_reel s_law_counted s_law_within : DSpec) : WS :=
  (wSeq (wAsg 1 (wCall s_law_reel (wCons (wVar 0) wNil)))
  (wSeq (wFor (wRg1 (wCons (wOp (addR false) (wC (.int 1)) (wFn min2R (wCons (wFn lenR (wCons (wVar 0) wNil)) (wCons (wC (.int 12)) wNil)))) wNil)) (gNm 2) (wIf (wOr (wNot (wTst (wCall s_law_counted (wCons (wVar 1) wNil)))) (wNot (wTst (wCall s_law_within (wCons (wVar 1) wNil))))) (wRet (wC (.bl false))) wSkip))
  (wRet (wC (.bl true)))))
local macro_rules | `(tactic| walk_at "ne") => `(tactic| first | exact ne_none_some (by assumption) (by assumption) | fail)
local macro_rules | `(tactic| walk_at "ne") => `(tactic| first | exact ne_some_none (by assumption) (by assumption) | fail)
local macro_rules | `(tactic| walk_at "ne") => `(tactic| first | (apply Ne.symm; assumption) | fail)
local macro_rules | `(tactic| walk_at "ne") => `(tactic| first | assumption | fail)
local macro_rules | `(tactic| walk_at "clr") => `(tactic| first | with_reducible exact delc_ne' (by walk_at "ne") (by walk_at "clr") | fail)
local macro_rules | `(tactic| walk_at "clr") => `(tactic| first | with_reducible exact updc_ne' (by walk_at "ne") (by walk_at "clr") | fail)
local macro_rules | `(tactic| walk_at "clr") => `(tactic| first | with_reducible assumption | fail)
local macro_rules | `(tactic| walk_at "clr") => `(tactic| first | with_reducible exact updc_same | fail)
local macro_rules | `(tactic| walk_at "cl0") => `(tactic| first | exact delc_ne' (by walk_at "ne") (by walk_at "cl0") | fail)
local macro_rules | `(tactic| walk_at "cl0") => `(tactic| first | exact updc_ne' (by walk_at "ne") (by walk_at "cl0") | fail)
local macro_rules | `(tactic| walk_at "cl0") => `(tactic| first | assumption | fail)
local macro_rules | `(tactic| walk_at "cl0") => `(tactic| first | exact updc_same | fail)
local macro_rules | `(tactic| walk_at "cl") => `(tactic| first | walk_at "cl0" | fail)
local macro_rules | `(tactic| walk_at "cl") => `(tactic| first | walk_at "clr" | fail)
local macro_rules | `(tactic| walk_at "cnr") => `(tactic| first | with_reducible exact delc_ne' (by walk_at "ne") (by walk_at "cnr") | fail)
local macro_rules | `(tactic| walk_at "cnr") => `(tactic| first | with_reducible exact updc_ne' (by walk_at "ne") (by walk_at "cnr") | fail)
local macro_rules | `(tactic| walk_at "cnr") => `(tactic| first | with_reducible assumption | fail)
local macro_rules | `(tactic| walk_at "cn0") => `(tactic| first | exact delc_ne' (by walk_at "ne") (by walk_at "cn0") | fail)
local macro_rules | `(tactic| walk_at "cn0") => `(tactic| first | exact updc_ne' (by walk_at "ne") (by walk_at "cn0") | fail)
local macro_rules | `(tactic| walk_at "cn0") => `(tactic| first | assumption | fail)
local macro_rules | `(tactic| walk_at "cn") => `(tactic| first | walk_at "cn0" | fail)
local macro_rules | `(tactic| walk_at "cn") => `(tactic| first | walk_at "cnr" | fail)
local macro_rules | `(tactic| walk_at "sbr") => `(tactic| first | with_reducible exact SubC.del (by walk_at "sbr") (by walk_at "cnr") | fail)
local macro_rules | `(tactic| walk_at "sbr") => `(tactic| first | with_reducible exact SubC.newr (by walk_at "sbr") (by walk_at "cnr") | fail)
local macro_rules | `(tactic| walk_at "sbr") => `(tactic| first | with_reducible exact sub_p (by walk_at "sbr") | fail)
local macro_rules | `(tactic| walk_at "sbr") => `(tactic| first | with_reducible exact SubC.rfl' | fail)
local macro_rules | `(tactic| walk_at "sbr") => `(tactic| first | with_reducible assumption | fail)
local macro_rules | `(tactic| walk_at "sb0") => `(tactic| first | exact SubC.del (by walk_at "sb0") (by walk_at "cn0") | fail)
local macro_rules | `(tactic| walk_at "sb0") => `(tactic| first | exact SubC.newr (by walk_at "sb0") (by walk_at "cn0") | fail)
local macro_rules | `(tactic| walk_at "sb0") => `(tactic| first | exact sub_p (by walk_at "sb0") | fail)
local macro_rules | `(tactic| walk_at "sb0") => `(tactic| first | exact SubC.rfl' | fail)
local macro_rules | `(tactic| walk_at "sb0") => `(tactic| first | assumption | fail)
local macro_rules | `(tactic| walk_at "sb") => `(tactic| first | walk_at "sb0" | fail)
local macro_rules | `(tactic| walk_at "sb") => `(tactic| first | walk_at "sbr" | fail)
local macro_rules | `(tactic| walk_at "at") => `(tactic| first | assumption | fail)
local macro_rules | `(tactic| walk_at "at") => `(tactic| first | exact at1 _ _ _ | fail)
local macro_rules | `(tactic| walk_at "at") => `(tactic| first | exact at0 _ _ | fail)
local macro_rules | `(tactic| walk_at "at") => `(tactic| first | rfl | fail)
local macro_rules | `(tactic| walk_at "st") => `(tactic| ((with_reducible show rgR2 [.int _, .int _] _ _); refine rg2_i (by omega) (by omega) (by omega) (by omega) ?_))
local macro_rules | `(tactic| walk_at "st") => `(tactic| ((with_reducible show rgR1 [.int _] _ _); refine rg1_i (by omega) (by omega) ?_))
local macro_rules | `(tactic| walk_at "st") => `(tactic| ((with_reducible show frzR (.ref _) _ _); refine frzQ (by walk_at "cl") ?_))
local macro_rules | `(tactic| walk_at "st") => `(tactic| ((with_reducible show listR _ _ [.ref _] _); refine lst_c (by walk_at "cl") ?_))
local macro_rules | `(tactic| walk_at "st") => `(tactic| ((with_reducible show sliceR _ _ (.ref _) _ _ _); refine sl_c (by walk_at "cl") ?_))
local macro_rules | `(tactic| walk_at "st") => `(tactic| ((with_reducible show lenR _ [.ref _] _); refine len_c (by walk_at "cl") ?_))
local macro_rules | `(tactic| walk_at "st") => `(tactic| ((with_reducible show isiR _ [_, .ty _] _); refine isi_i (b := false) (by rfl) (by rfl) ?_))
local macro_rules | `(tactic| walk_at "st") => `(tactic| ((with_reducible show isiR _ [_, .ty _] _); refine isi_i (b := true) (by rfl) (by rfl) ?_))
local macro_rules | `(tactic| walk_at "st") => `(tactic| ((with_reducible show powR _ (.int _) (.int _) _); refine pow_ii (by exact ⟨by decide, by decide, by decide⟩) (by (conv => lhs; simp only [Int.reduceToNat, Int.reducePow])) ?_))
local macro_rules | `(tactic| walk_at "st") => `(tactic| ((with_reducible show mulR _ _ (.int _) (.int _) _); refine mul_ii (by first | assumption | exact .inl (.inl ⟨by omega, by omega⟩) | exact .inl (.inr ⟨by omega, by omega⟩)) ?_))
local macro_rules | `(tactic| walk_at "st") => `(tactic| ((with_reducible show fdivR _ (.int _) (.int _) _); refine fdiv_ii (by first | assumption | exact .inl ⟨by omega, by omega⟩) ?_))
local macro_rules | `(tactic| walk_at "st") => `(tactic| ((with_reducible show setR _ (.ref _) (.int _) _ _); refine set_l (by walk_at "cl") (by rfl) ?_))
local macro_rules | `(tactic| walk_at "st") => `(tactic| ((with_reducible show idxR _ (.tup _) (.int _) _); refine ix_t (by walk_at "at") ?_))
local macro_rules | `(tactic| walk_at "st") => `(tactic| ((with_reducible show idxR _ (.lst _) (.int _) _); refine ix_l (by walk_at "at") ?_))
local macro_rules | `(tactic| walk_at "st") => `(tactic| ((with_reducible show idxR _ (.ref _) (.int _) _); refine ix_c (by walk_at "cl") (by walk_at "at") ?_))
local macro_rules | `(tactic| walk_at "st") => `(tactic| ((with_reducible show modR _ (.int _) (.int _) _); refine mod_ii (by omega) ?_))
local macro_rules | `(tactic| walk_at "st") => `(tactic| ((with_reducible show zipR [.ref _, .lst _] _ _); refine zip_cl (by walk_at "cl") ?_))
local macro_rules | `(tactic| walk_at "st") => `(tactic| ((with_reducible show isiR _ [_, .tup _] _); refine isi_t (b := false) (by rfl) (by rfl) (by rfl) ?_))
local macro_rules | `(tactic| walk_at "st") => `(tactic| ((with_reducible show isiR _ [_, .tup _] _); refine isi_t (b := true) (by rfl) (by rfl) (by rfl) ?_))
local macro_rules | `(tactic| walk_at "st") => `(tactic| ((with_reducible show itR _ _ _); refine itQ (by rfl) ?_))
local macro_rules | `(tactic| walk_at "st") => `(tactic| ((with_reducible show itR (.ref _) _ _); refine itC (by walk_at "cl") ?_))
local macro_rules | `(tactic| walk_at "st") => `(tactic| ((with_reducible show gTp _ _ (.kt _) _ _ _); refine gTp_k (by rfl) ?_))
local macro_rules | `(tactic| walk_at "st") => `(tactic| ((with_reducible show gTp _ _ (.tup _) _ _ _); refine gTp_i (by rfl) ?_))
local macro_rules | `(tactic| walk_at "st") => `(tactic| ((with_reducible show _ ≤ sizeLine ∧ _); refine lenQ (by rfl) ?_))
local macro_rules | `(tactic| walk_at "st") => `(tactic| ((with_reducible show wAug _ _ _ _ _ _); refine wAug_i (by rfl) ?_))
local macro_rules | `(tactic| walk_at "st") => `(tactic| ((with_reducible show wCallV _ _ _ _ _ _ _); refine wCallV_i (by rfl) (by assumption) ?_))
local macro_rules | `(tactic| walk_at "st") => `(tactic| ((with_reducible show wVar _ _ _ _ _); refine wVar_i (by rfl) ?_))
local macro_rules | `(tactic| walk_at "st") => `(tactic| with_reducible refine wFldSub_i ?_)
local macro_rules | `(tactic| walk_at "st") => `(tactic| with_reducible refine wFldAdd_i ?_)
local macro_rules | `(tactic| walk_at "st") => `(tactic| with_reducible refine wMake_i ?_)
local macro_rules | `(tactic| walk_at "st") => `(tactic| with_reducible refine wFldSet_i ?_)
local macro_rules | `(tactic| walk_at "st") => `(tactic| with_reducible refine wFld_i ?_)
local macro_rules | `(tactic| walk_at "st") => `(tactic| with_reducible refine is_n ?_)
local macro_rules | `(tactic| walk_at "st") => `(tactic| with_reducible refine asS_i ?_)
local macro_rules | `(tactic| walk_at "st") => `(tactic| with_reducible refine wJs_cons ?_)
local macro_rules | `(tactic| walk_at "st") => `(tactic| with_reducible refine wJs_nil ?_)
local macro_rules | `(tactic| walk_at "st") => `(tactic| with_reducible refine wJoined_i ?_)
local macro_rules | `(tactic| walk_at "st") => `(tactic| with_reducible refine wFmt_i ?_)
local macro_rules | `(tactic| walk_at "st") => `(tactic| with_reducible refine wSl3_i ?_)
local macro_rules | `(tactic| walk_at "st") => `(tactic| with_reducible refine wMt0_i ?_)
local macro_rules | `(tactic| walk_at "st") => `(tactic| with_reducible refine ex3_i ?_)
local macro_rules | `(tactic| walk_at "st") => `(tactic| with_reducible refine ex2_i ?_)
local macro_rules | `(tactic| walk_at "st") => `(tactic| with_reducible refine wPar3_i ?_)
local macro_rules | `(tactic| walk_at "st") => `(tactic| with_reducible refine wPar2_i ?_)
local macro_rules | `(tactic| walk_at "st") => `(tactic| with_reducible refine addI_i ?_)
local macro_rules | `(tactic| walk_at "st") => `(tactic| with_reducible refine wChain_i ?_)
local macro_rules | `(tactic| walk_at "st") => `(tactic| with_reducible refine wCallL_i ?_)
local macro_rules | `(tactic| walk_at "st") => `(tactic| with_reducible refine wCallD_i ?_)
local macro_rules | `(tactic| walk_at "st") => `(tactic| with_reducible refine wCall0_i ?_)
local macro_rules | `(tactic| walk_at "st") => `(tactic| with_reducible refine tup_t ?_)
local macro_rules | `(tactic| walk_at "st") => `(tactic| with_reducible refine tup_l ?_)
local macro_rules | `(tactic| walk_at "st") => `(tactic| with_reducible refine lst_s ?_)
local macro_rules | `(tactic| walk_at "st") => `(tactic| with_reducible refine lst_l ?_)
local macro_rules | `(tactic| walk_at "st") => `(tactic| with_reducible refine ite_n ?_)
local macro_rules | `(tactic| walk_at "st") => `(tactic| with_reducible refine ite_bf ?_)
local macro_rules | `(tactic| walk_at "st") => `(tactic| with_reducible refine ite_bt ?_)
local macro_rules | `(tactic| walk_at "st") => `(tactic| with_reducible refine len_r ?_)
local macro_rules | `(tactic| walk_at "st") => `(tactic| with_reducible refine len_k ?_)
local macro_rules | `(tactic| walk_at "st") => `(tactic| with_reducible refine len_t ?_)
local macro_rules | `(tactic| walk_at "st") => `(tactic| with_reducible refine len_l ?_)
local macro_rules | `(tactic| walk_at "st") => `(tactic| with_reducible refine sl_r ?_)
local macro_rules | `(tactic| walk_at "st") => `(tactic| with_reducible refine sl_l ?_)
local macro_rules | `(tactic| walk_at "st") => `(tactic| with_reducible refine min2_i ?_)
local macro_rules | `(tactic| walk_at "st") => `(tactic| with_reducible refine max2_i ?_)
local macro_rules | `(tactic| walk_at "st") => `(tactic| with_reducible refine int_b ?_)
local macro_rules | `(tactic| walk_at "st") => `(tactic| with_reducible refine int_i ?_)
local macro_rules | `(tactic| walk_at "st") => `(tactic| with_reducible refine abs_i ?_)
local macro_rules | `(tactic| walk_at "st") => `(tactic| with_reducible refine eq_bb ?_)
local macro_rules | `(tactic| walk_at "st") => `(tactic| with_reducible refine eq_ii ?_)
local macro_rules | `(tactic| walk_at "st") => `(tactic| with_reducible refine ltI_ii ?_)
local macro_rules | `(tactic| walk_at "st") => `(tactic| with_reducible refine lt_ii ?_)
local macro_rules | `(tactic| walk_at "st") => `(tactic| with_reducible refine sub_ii ?_)
local macro_rules | `(tactic| walk_at "st") => `(tactic| with_reducible refine add_ii ?_)
local macro_rules | `(tactic| walk_at "st") => `(tactic| with_reducible refine enum_i ?_)
local macro_rules | `(tactic| walk_at "st") => `(tactic| with_reducible refine zip_t ?_)
local macro_rules | `(tactic| walk_at "st") => `(tactic| with_reducible refine zip_i ?_)
local macro_rules | `(tactic| walk_at "st") => `(tactic| with_reducible refine wEnum_i ?_)
local macro_rules | `(tactic| walk_at "st") => `(tactic| with_reducible refine wZip_i ?_)
local macro_rules | `(tactic| walk_at "st") => `(tactic| with_reducible refine wRg2_i ?_)
local macro_rules | `(tactic| walk_at "st") => `(tactic| with_reducible refine wRg1_i ?_)
local macro_rules | `(tactic| walk_at "st") => `(tactic| with_reducible refine neg_i ?_)
local macro_rules | `(tactic| walk_at "st") => `(tactic| with_reducible refine wNeg_i ?_)
local macro_rules | `(tactic| walk_at "st") => `(tactic| with_reducible refine wWk_i ?_)
local macro_rules | `(tactic| walk_at "st") => `(tactic| with_reducible refine wGet2_i ?_)
local macro_rules | `(tactic| walk_at "st") => `(tactic| with_reducible refine wDict_i ?_)
local macro_rules | `(tactic| walk_at "st") => `(tactic| with_reducible refine wFrz_i ?_)
local macro_rules | `(tactic| walk_at "st") => `(tactic| with_reducible refine wRetN_i ?_)
local macro_rules | `(tactic| walk_at "st") => `(tactic| with_reducible refine forS_i ?_)
local macro_rules | `(tactic| walk_at "st") => `(tactic| with_reducible refine compS_i ?_)
local macro_rules | `(tactic| walk_at "st") => `(tactic| with_reducible refine wComp_i ?_)
local macro_rules | `(tactic| walk_at "st") => `(tactic| with_reducible refine wFor_i ?_)
local macro_rules | `(tactic| walk_at "st") => `(tactic| with_reducible refine wIt_i ?_)
local macro_rules | `(tactic| walk_at "st") => `(tactic| with_reducible refine wMt_i ?_)
local macro_rules | `(tactic| walk_at "st") => `(tactic| with_reducible refine wYes_i ?_)
local macro_rules | `(tactic| walk_at "st") => `(tactic| with_reducible refine wIfE_i ?_)
local macro_rules | `(tactic| walk_at "st") => `(tactic| with_reducible refine wNotV_i ?_)
local macro_rules | `(tactic| walk_at "st") => `(tactic| with_reducible refine wOrV_i ?_)
local macro_rules | `(tactic| walk_at "st") => `(tactic| with_reducible refine wAndV_i ?_)
local macro_rules | `(tactic| walk_at "st") => `(tactic| with_reducible refine wOr_i ?_)
local macro_rules | `(tactic| walk_at "st") => `(tactic| with_reducible refine wAnd_i ?_)
local macro_rules | `(tactic| walk_at "st") => `(tactic| with_reducible refine wNot_i ?_)
local macro_rules | `(tactic| walk_at "st") => `(tactic| with_reducible refine wSome_i ?_)
local macro_rules | `(tactic| walk_at "st") => `(tactic| with_reducible refine wNo_i ?_)
local macro_rules | `(tactic| walk_at "st") => `(tactic| with_reducible refine wSl_i ?_)
local macro_rules | `(tactic| walk_at "st") => `(tactic| with_reducible refine gNl_i ?_)
local macro_rules | `(tactic| walk_at "st") => `(tactic| with_reducible refine gCn_i ?_)
local macro_rules | `(tactic| walk_at "st") => `(tactic| with_reducible refine gNm_i ?_)
local macro_rules | `(tactic| walk_at "st") => `(tactic| with_reducible refine wAsgG_i ?_)
local macro_rules | `(tactic| walk_at "st") => `(tactic| with_reducible refine newL_f ?_)
local macro_rules | `(tactic| walk_at "st") => `(tactic| with_reducible refine wLst_i ?_)
local macro_rules | `(tactic| walk_at "st") => `(tactic| with_reducible refine wTup_i ?_)
local macro_rules | `(tactic| walk_at "st") => `(tactic| with_reducible refine wDrop_i ?_)
local macro_rules | `(tactic| walk_at "st") => `(tactic| with_reducible refine wSet_i ?_)
local macro_rules | `(tactic| walk_at "st") => `(tactic| with_reducible refine asI_i ?_)
local macro_rules | `(tactic| walk_at "st") => `(tactic| with_reducible refine asB_i ?_)
local macro_rules | `(tactic| walk_at "st") => `(tactic| with_reducible refine wTst_i ?_)
local macro_rules | `(tactic| walk_at "st") => `(tactic| with_reducible refine wSkip_i ?_)
local macro_rules | `(tactic| walk_at "st") => `(tactic| with_reducible refine wRet_i ?_)
local macro_rules | `(tactic| walk_at "st") => `(tactic| with_reducible refine wIf_i ?_)
local macro_rules | `(tactic| walk_at "st") => `(tactic| with_reducible refine wCall_i ?_)
local macro_rules | `(tactic| walk_at "st") => `(tactic| with_reducible refine wFn_i ?_)
local macro_rules | `(tactic| walk_at "st") => `(tactic| with_reducible refine wNil_i ?_)
local macro_rules | `(tactic| walk_at "st") => `(tactic| with_reducible refine wCons_i ?_)
local macro_rules | `(tactic| walk_at "st") => `(tactic| with_reducible refine wC_i ?_)
local macro_rules | `(tactic| walk_at "st") => `(tactic| with_reducible refine wOp_i ?_)
local macro_rules | `(tactic| walk_at "st") => `(tactic| with_reducible refine wAsg_i ?_)
local macro_rules | `(tactic| walk_at "st") => `(tactic| with_reducible refine wSeq_i ?_)
local macro_rules | `(tactic| walk_at "go") => `(tactic| repeat walk_at "st")
local macro_rules | `(tactic| walk_at "lr") => `(tactic| (walk_at "go"; refine rng_1 fun p0 hp0 => ?_; walk_at "go"; refine lst_g (by walk_at "cl") (by decide) (by decide) (by omega) (by omega) (by omega) ?_; walk_at "go"; refine wk_i (SubC.new hp0) ?_; clear hp0 p0; walk_at "go"))
local macro_rules | `(tactic| walk_at "el") => `(tactic| first | refine eq_lit false (by decide +kernel) (by decide +kernel) ?_ | fail)
local macro_rules | `(tactic| walk_at "el") => `(tactic| first | refine eq_lit true (by decide +kernel) (by decide +kernel) ?_ | fail)
/-! worths -/
inductive Wo where
  | num (n : Int)
  | face (m : Int) (s u : Wo)
  deriving DecidableEq
def Wo.d : Wo → D
  | .num n => .int n
  | .face m s u => .tup [.str "face", .int m, s.d, u.d]
theorem Wo.d_inj : ∀ {a b : Wo}, a.d = b.d → a = b
  | .num n, .num k, h => by simp only [Wo.d, D.int.injEq] at h; rw [h]
  | .num n, .face .., h => by simp only [Wo.d] at h; cases h
  | .face .., .num k, h => by simp only [Wo.d] at h; cases h
  | .face m s u, .face m' s' u', h => by
    simp only [Wo.d, D.tup.injEq, List.cons.injEq, D.int.injEq, and_true, true_and] at h
    rw [h.1, Wo.d_inj h.2.1, Wo.d_inj h.2.2]
theorem Wo.d_iff {a b : Wo} : a.d = b.d ↔ a = b := ⟨Wo.d_inj, fun h => by rw [h]⟩
def Wo.deep : Wo → Nat
  | .num _ => 0
  | .face _ s u => max s.deep u.deep + 1
theorem face_ok : PyData.strOk (Str.ofString "face") = true := by decide +kernel
theorem Wo.okD : ∀ a : Wo, DL.okD a.d = true
  | .num _ => rfl
  | .face m s u => by
    simp only [Wo.d, DL.okD, okDs, Wo.okD s, Wo.okD u, Bool.and_true, Bool.true_and]
    exact face_ok
theorem Wo.dep : ∀ a : Wo, DL.dep a.d = a.deep
  | .num _ => rfl
  | .face m s u => by
    simp only [Wo.d, DL.dep, deps, Wo.dep s, Wo.dep u, Wo.deep]
    omega
theorem Wo.eqOk {a : Wo} (h : a.deep ≤ 64) : DL.eqOk a.d := ⟨a.okD, by rw [a.dep]; exact h⟩
theorem Wo.res {c : CMap} : ∀ {a : Wo}, DL.res c a.d = a.d
  | .num _ => rfl
  | .face .. => rfl
/-- the marks rise from k on, below 6; both faces unlike; numbers from 0 to 999 -/
def Wo.ok : Nat → Wo → Prop
  | _, .num n => 0 ≤ n ∧ n < 1000
  | k, .face m s u => (k : Int) ≤ m ∧ m < 6 ∧ s ≠ u ∧ s.ok (m.toNat + 1) ∧ u.ok (m.toNat + 1)
theorem Wo.ok_mono : ∀ {a : Wo} {j k : Nat}, j ≤ k → a.ok k → a.ok j
  | .num _, _, _, _, h => h
  | .face m s u, j, k, l, h => ⟨Int.le_trans (Int.ofNat_le.mpr l) h.1, h.2⟩
theorem Wo.ok_deep : ∀ {a : Wo} {k : Nat}, a.ok k → k ≤ 6 → a.deep + k ≤ 6
  | .num _, _, _, l => by simpa [Wo.deep] using l
  | .face m s u, k, h, l => by
    obtain ⟨h1, h2, _, h3, h4⟩ := h
    have a1 := Wo.ok_deep h3 (by omega)
    have a2 := Wo.ok_deep h4 (by omega)
    simp only [Wo.deep]
    omega
def Wo.seen : Wo → List Int → Int
  | .num n, _ => n
  | .face m s u, v => if m ∈ v then s.seen v else u.seen v
/-- ints as data -/
theorem int_mem {n : Int} {ns : List Int} : D.int n ∈ ns.map D.int ↔ n ∈ ns := by
  simp [List.mem_map]
theorem ints_flat (ns : List Int) : (ns.map D.int).all flatD = true := by
  simp [List.all_eq_true, flatD]
theorem ints_ok : ∀ ns : List Int, okDs (ns.map D.int) = true
  | [] => rfl
  | n :: r => by simp only [List.map_cons, okDs, DL.okD, ints_ok r, Bool.and_true]
theorem ints_dep : ∀ ns : List Int, deps (ns.map D.int) = 0
  | [] => rfl
  | n :: r => by simp [deps, DL.dep, ints_dep r]
theorem ints_eqOk (ns : List Int) : DL.eqOk (.lst (ns.map D.int)) := ⟨ints_ok ns, by simp [DL.dep, ints_dep]⟩
theorem ints_inj {a b : List Int} : D.lst (a.map D.int) = .lst (b.map D.int) ↔ a = b := by
  refine ⟨fun h => ?_, fun h => by rw [h]⟩
  have h1 : intsD (a.map D.int) = intsD (b.map D.int) := by injection h with h; rw [h]
  rw [intsD_map, intsD_map] at h1
  exact Option.some.inj h1
/-! cuts -/
theorem cut_to {α : Type} (xs : List α) (k : Nat) : cutG xs none (some (k : Int)) = xs.take k := by
  unfold cutG
  rw [show HT.sIx xs.length 0 none = 0 from rfl, HT.sIx_nat, List.drop_zero, Nat.sub_zero]
  rw [List.take_eq_take_iff]; omega
theorem cut_from {α : Type} (xs : List α) (k : Nat) : cutG xs (some (k : Int)) none = xs.drop k := by
  unfold cutG
  rw [show HT.sIx xs.length xs.length none = xs.length from rfl, HT.sIx_nat]
  by_cases h : k ≤ xs.length
  · rw [Nat.min_eq_left h]
    exact List.take_of_length_le (by rw [List.length_drop]; omega)
  · rw [Nat.min_eq_right (by omega), List.drop_of_length_le (Nat.le_refl _), List.drop_of_length_le (by omega)]; simp
theorem mem_map_at {α β : Type} {f : α → β} {xs : List α} {i : Nat} {y : β} (e : (xs.map f)[i]? = some y) : ∃ x, xs[i]? = some x ∧ y = f x := by
  rw [List.getElem?_map] at e
  cases z : xs[i]? with
  | none => rw [z] at e; cases e
  | some x => rw [z] at e; exact ⟨x, rfl, (Option.some.inj e).symm⟩
theorem at_nat {α : Type} {xs : List α} {j : Nat} {v : α} (h : xs[j]? = some v) : atI xs (j : Int) = some v := atI_nat h
theorem fnil {α : Type} (xs : List α) : xs = [] ∨ ∃ a r, xs = a :: r := by
  cases xs with
  | nil => exact .inl rfl
  | cons a r => exact .inr ⟨a, r, rfl⟩
theorem upto_len (a : Int) (n : Nat) : (upto a n).length = n := by simp [upto]
theorem upto_at {a : Int} {n i : Nat} {x : Int} (h : (upto a n)[i]? = some x) : i < n ∧ x = a + i := by
  unfold upto at h
  obtain ⟨y, h1, h2⟩ := mem_map_at h
  obtain ⟨h3, h4⟩ := List.getElem?_eq_some_iff.mp h1
  rw [List.getElem_range] at h4
  subst h4
  exact ⟨by simpa using h3, h2⟩
/-! comprehensions with draws, with truths -/
theorem updc_self {c : CMap} {p : Addr} {k : Cell} (h : c p = some k) : updc c p k = c := by
  funext x; unfold updc
  by_cases e : x = p
  · subst e; rw [if_pos rfl, h]
  · rw [if_neg e]
theorem comp_draws {G : CMap → Prop} [FreeG G] {step : D → CMap → (Option D → CMap → Prop) → Prop} {c : CMap} {A p : Addr} {ds : List D} {Q : DK} {k : Cell} (ok : Cell → Prop) (g : Int → D) (m : Int) (hA : c A = none) (hl : ds.length < 16777216) (hp : c p = some k) (hk : ok k)
    (hs : ∀ (d : D) (c' : CMap) (K : Option D → CMap → Prop) (k1 : Cell), d ∈ ds → c' p = some k1 → ok k1 → (∀ b x, c b = some x → b ≠ p → c' b = some x) → (∀ (v : Int) k', 0 ≤ v → v < m → ok k' → K (some (g v)) (updc c' p k')) → step d c' K)
    (q : ∀ (fs : List Int) k', fs.length = ds.length → (∀ x ∈ fs, 0 ≤ x ∧ x < m) → ok k' → Q (.lst (fs.map g)) (updc c p k')) : CompP false step A ds G c Q := by
  refine comp_inv hA (fun i acc c' => ∃ (fs : List Int) (k' : Cell), c' = updc c p k' ∧ ok k' ∧ acc = fs.map g ∧ fs.length = i ∧ ∀ x ∈ fs, 0 ≤ x ∧ x < m) hl ⟨[], k, (updc_self hp).symm, hk, rfl, rfl, fun _ h => by cases h⟩ ?_ ?_
  · rintro i d acc c' K e ⟨fs, k', rfl, hk', rfl, rfl, hb⟩ hA' k1 k2
    have hpA : p ≠ A := ne_some_none (c := updc c p k') updc_same hA'
    refine hs d _ K k' (List.mem_of_getElem? e) (by rw [updc_ne hpA, updc_same]) hk' (fun b x h hb => by rw [updc_ne (ne_some_none h hA), updc_ne hb]; exact h) fun v k3 v0 v1 hk3 => ?_
    rw [updc_comm (Ne.symm hpA), updc_updc]
    refine k1 (g v) _ (by rw [updc_ne (Ne.symm hpA)]; exact hA) ⟨fs ++ [v], k3, rfl, hk3, by simp, by simp, fun x hx => ?_⟩
    rcases List.mem_append.mp hx with h | h
    · exact hb x h
    · simp only [List.mem_singleton] at h; subst h; exact ⟨v0, v1⟩
  · rintro out c2 ⟨fs, k', rfl, hk', rfl, e, hb⟩ _
    rw [if_neg (by decide)]
    exact q fs k' e hb hk'
theorem comp_bools {G : CMap → Prop} [FreeG G] {step : D → CMap → (Option D → CMap → Prop) → Prop} {c : CMap} {A : Addr} {ds : List D} {Q : DK} (hA : c A = none) (hl : ds.length < 16777216)
    (hs : ∀ (d : D) (c' : CMap) (K : Option D → CMap → Prop), d ∈ ds → (∀ b x, c b = some x → c' b = some x) → (∀ b : Bool, K (some (.bl b)) c') → step d c' K) (q : ∀ bs : List Bool, Q (.lst (bs.map D.bl)) c) : CompP false step A ds G c Q := by
  refine comp_inv hA (fun i acc c' => c' = c ∧ ∃ bs : List Bool, acc = bs.map D.bl) hl ⟨rfl, [], rfl⟩ ?_ ?_
  · rintro i d acc c' K e ⟨rfl, bs, rfl⟩ hA' k1 k2
    exact hs d _ K (List.mem_of_getElem? e) (fun b x h => by rw [updc_ne (ne_some_none h hA')]; exact h) fun b => k1 _ _ hA' ⟨rfl, bs ++ [b], by simp⟩
  · rintro out c2 ⟨rfl, bs, rfl⟩ _
    rw [if_neg (by decide)]
    exact q bs
theorem menu {xs : List D} {v : Int} (h0 : 0 ≤ v) (h1 : v < (xs.length : Int)) : ∃ x ∈ xs, atI xs v = some x := by
  obtain ⟨n, rfl⟩ : ∃ n : Nat, v = (n : Int) := ⟨v.toNat, by omega⟩
  have h : n < xs.length := by omega
  exact ⟨xs[n], List.getElem_mem h, atI_nat (List.getElem?_eq_getElem h)⟩
theorem sort_1 {m : Bool} {c : CMap} {Q : DK} {ns : List Int} (q : ∀ ns' : List Int, ns'.Perm ns → ns'.Pairwise (· ≤ ·) → newL m c (ns'.map D.int) Q) : sortR m c [.lst (ns.map D.int)] Q := sort_i rfl (intsD_map ns) q
/-! short texts -/
def SOk (n : Nat) (x : Str) : Prop := x.length ≤ n ∧ PyData.strOk x = true
theorem SOk.chr {k : Nat} (h : k < 0x110000) : SOk 1 ⟨#[k]⟩ := ⟨Nat.le_refl _, by simp [PyData.strOk, h]⟩
theorem SOk.mono {m n : Nat} {x : Str} (h : SOk m x) (l : m ≤ n) : SOk n x := ⟨Nat.le_trans h.1 l, h.2⟩
theorem SOk.app {m n : Nat} {x y : Str} (h : SOk m x) (h' : SOk n y) : SOk (m + n) (x ++ y) := by
  obtain ⟨a, b⟩ := h
  obtain ⟨a', b'⟩ := h'
  refine ⟨?_, ?_⟩
  · show (x.cps ++ y.cps).size ≤ _
    rw [Array.size_append]
    exact Nat.add_le_add a a'
  · show (x.cps ++ y.cps).all _ = true
    rw [Array.all_append]
    simp only [Bool.and_eq_true]
    exact ⟨b, b'⟩
theorem SOk.list {x : Str} {n : Nat} (h : SOk n x) : ∀ k ∈ x.cps.toList, k < 0x110000 := by
  intro k hk
  have := h.2
  unfold PyData.strOk at this
  rw [Array.all_eq_true_iff_forall_mem] at this
  simpa using this k (Array.mem_def.mpr hk)
theorem SOk.of_list {n : Nat} {l : List Nat} (h : l.length ≤ n) (h' : ∀ k ∈ l, k < 0x110000) : SOk n ⟨l.toArray⟩ := by
  refine ⟨by simpa [Str.length] using h, ?_⟩
  unfold PyData.strOk
  rw [Array.all_eq_true_iff_forall_mem]
  intro k hk
  simpa using h' k (by simpa using hk)
theorem SOk.cut {n : Nat} {x : Str} (h : SOk n x) (lo hi : Option Int) : SOk n (cutS x lo hi) := by
  unfold cutS
  refine .of_list ?_ fun k hk => h.list k (List.mem_of_mem_drop (List.mem_of_mem_take hk))
  rw [List.length_take, List.length_drop]
  have : x.cps.toList.length = x.length := by simp [Str.length]
  have := h.1
  omega
theorem SOk.join0 : ∀ {ys : List Str}, (∀ y ∈ ys, SOk 1 y) → SOk ys.length (Txt.join "" ys)
  | [], _ => by rw [TL.join_eq]; exact ⟨Nat.le_refl _, by decide +kernel⟩
  | [x], h => by rw [TL.join_eq]; exact h x (by simp)
  | x :: y :: r, h => by
    rw [TL.join_eq]
    show SOk _ (x ++ Str.ofString "" ++ Str.join "" (y :: r))
    have h1 := h x (by simp)
    have h2 := SOk.join0 (ys := y :: r) (fun z hz => h z (by simp only [List.mem_cons] at hz ⊢; exact .inr hz))
    rw [TL.join_eq] at h2
    have h3 : SOk 0 (Str.ofString "") := ⟨by decide +kernel, by decide +kernel⟩
    exact ((h1.app h3).app h2).mono (by simp only [List.length_cons]; omega)
theorem SOk.line {n : Nat} {x : Str} (h : SOk n x) (l : n ≤ 16777216) : x.length ≤ sizeLine := len_le (Nat.le_trans h.1 l)
theorem join0_sum : ∀ {ys : List Str}, (∀ y ∈ ys, SOk 1 y) → (ys.map (·.length)).sum ≤ ys.length
  | [], _ => Nat.le_refl _
  | x :: r, h => by
    have h1 := (h x (by simp)).1
    have h2 := join0_sum (ys := r) (fun z hz => h z (by simp [hz]))
    simp only [List.map_cons, List.sum_cons, List.length_cons]
    omega
theorem ix_sok {c : CMap} {Q : DK} {z : Str} {n : Nat} {i : Int} (h : SOk n z) (hn : n ≤ 16777216) (h0 : 0 ≤ i) (h1 : i < (z.length : Int)) (q : ∀ x, SOk 1 x → Q (.str x) c) : idxR c (.str z) (.int i) Q := by
  have hl : z.cps.toList.length = z.length := by simp [Str.length]
  have hi : i.toNat < z.cps.toList.length := by omega
  refine ix_str (h.line hn) (atn (j := i.toNat) (by omega) (List.getElem?_eq_getElem hi)) (q _ (.chr ?_))
  exact h.list _ (List.getElem_mem hi)
theorem abc_ok : SOk 26 "abcdefghijklmnopqrstuvwxyz" := ⟨by decide +kernel, by decide +kernel⟩
theorem abc_len : ((Str.ofString "abcdefghijklmnopqrstuvwxyz").length : Int) = 26 := by decide +kernel
theorem ix_abc {c : CMap} {Q : DK} {i : Int} (h0 : 0 ≤ i) (h1 : i < 26) (q : ∀ x, SOk 1 x → Q (.str x) c) : idxR c (.str "abcdefghijklmnopqrstuvwxyz") (.int i) Q := ix_sok abc_ok (by decide) h0 (by rw [abc_len]; exact h1) q
theorem ix_menu {c : CMap} {Q : DK} {v : Int} (ns : List Int) (lo hi : Int) (h : ∀ x ∈ ns, lo ≤ x ∧ x ≤ hi) (v0 : 0 ≤ v) (v1 : v < (ns.length : Int)) (q : ∀ x, lo ≤ x → x ≤ hi → Q (.int x) c) : idxR c (.lst (ns.map D.int)) (.int v) Q := by
  have hi2 : v.toNat < ns.length := by omega
  refine ix_l (atn (j := v.toNat) (by omega) (by rw [List.getElem?_map, List.getElem?_eq_getElem hi2]; rfl)) ?_
  exact q _ (h _ (List.getElem_mem hi2)).1 (h _ (List.getElem_mem hi2)).2
theorem add_sok {c : CMap} {m : Bool} {Q : DK} {x y : Str} {a b : Nat} (h : SOk a x) (h' : SOk b y) (l : a + b ≤ 16777216) (q : SOk (a + b) (x ++ y) → Q (.str (x ++ y)) c) : addR m c (.str x) (.str y) Q := by
  have := h.1
  have := h'.1
  exact add_ss (len_le (by omega)) (q (h.app h'))
theorem all_map {α : Type} {f : α → D} {P : α → Prop} : ∀ {ds : List D}, (∀ d ∈ ds, ∃ x : α, d = f x ∧ P x) → ∃ xs : List α, ds = xs.map f ∧ ∀ x ∈ xs, P x
  | [], _ => ⟨[], rfl, fun _ h => by cases h⟩
  | d :: ds, h => by
    obtain ⟨x, rfl, hx⟩ := h d (by simp)
    obtain ⟨xs, rfl, hxs⟩ := all_map (ds := ds) fun d hd => h d (by simp [hd])
    exact ⟨x :: xs, rfl, fun y hy => by
      rcases List.mem_cons.mp hy with rfl | hy
      · exact hx
      · exact hxs y hy⟩
theorem strs_flat (ss : List Str) : (ss.map D.str).all flatD = true := by simp [flatD]
theorem str_mem {x : Str} {ss : List Str} : D.str x ∈ ss.map D.str ↔ x ∈ ss := by simp [List.mem_map]
/-! comprehensions whose elements draw and are of some kind -/
theorem comp_kind {G : CMap → Prop} [FreeG G] {step : D → CMap → (Option D → CMap → Prop) → Prop} {c : CMap} {A p : Addr} {ds : List D} {Q : DK} {k : Cell} (ok : Cell → Prop) (T : D → Prop) (hA : c A = none) (hl : ds.length < 16777216) (hp : c p = some k) (hk : ok k)
    (hs : ∀ (d : D) (c' : CMap) (K : Option D → CMap → Prop) (k1 : Cell), d ∈ ds → c' p = some k1 → ok k1 → (∀ b x, c b = some x → b ≠ p → c' b = some x) → (∀ (y : D) k', T y → ok k' → K (some y) (updc c' p k')) → (∀ k', ok k' → K none (updc c' p k')) → step d c' K)
    (q : ∀ (out : List D) k', out.length ≤ ds.length → (∀ y ∈ out, T y) → ok k' → Q (.lst out) (updc c p k')) : CompP false step A ds G c Q := by
  refine comp_inv hA (fun i acc c' => ∃ (k' : Cell), c' = updc c p k' ∧ ok k' ∧ acc.length ≤ i ∧ ∀ x ∈ acc, T x) hl ⟨k, (updc_self hp).symm, hk, Nat.le_refl _, fun _ h => by cases h⟩ ?_ ?_
  · rintro i d acc c' K e ⟨k', rfl, hk', hi, hb⟩ hA' k1 k2
    have hpA : p ≠ A := ne_some_none (c := updc c p k') updc_same hA'
    refine hs d _ K k' (List.mem_of_getElem? e) (by rw [updc_ne hpA, updc_same]) hk' (fun b x h hb => by rw [updc_ne (ne_some_none h hA), updc_ne hb]; exact h) (fun y k3 hy hk3 => ?_) fun k3 hk3 => ?_
    · rw [updc_comm (Ne.symm hpA), updc_updc]
      refine k1 y _ (by rw [updc_ne (Ne.symm hpA)]; exact hA) ⟨k3, rfl, hk3, by simp; omega, fun x hx => ?_⟩
      rcases List.mem_append.mp hx with h | h
      · exact hb x h
      · simp only [List.mem_singleton] at h; subst h; exact hy
    · rw [updc_comm (Ne.symm hpA), updc_updc]
      exact k2 _ (by rw [updc_ne (Ne.symm hpA)]; exact hA) ⟨k3, rfl, hk3, by omega, hb⟩
  · rintro out c2 ⟨k', rfl, hk', hi, hb⟩ _
    rw [if_neg (by decide)]
    exact q out k' hi hb hk'
/-- .. each gives one -/
theorem comp_kind1 {G : CMap → Prop} [FreeG G] {step : D → CMap → (Option D → CMap → Prop) → Prop} {c : CMap} {A p : Addr} {ds : List D} {Q : DK} {k : Cell} (ok : Cell → Prop) (T : D → Prop) (hA : c A = none) (hl : ds.length < 16777216) (hp : c p = some k) (hk : ok k)
    (hs : ∀ (d : D) (c' : CMap) (K : Option D → CMap → Prop) (k1 : Cell), d ∈ ds → c' p = some k1 → ok k1 → (∀ b x, c b = some x → b ≠ p → c' b = some x) → (∀ (y : D) k', T y → ok k' → K (some y) (updc c' p k')) → step d c' K)
    (q : ∀ (out : List D) k', out.length = ds.length → (∀ y ∈ out, T y) → ok k' → Q (.lst out) (updc c p k')) : CompP false step A ds G c Q := by
  refine comp_inv hA (fun i acc c' => ∃ (k' : Cell), c' = updc c p k' ∧ ok k' ∧ acc.length = i ∧ ∀ x ∈ acc, T x) hl ⟨k, (updc_self hp).symm, hk, rfl, fun _ h => by cases h⟩ ?_ ?_
  · rintro i d acc c' K e ⟨k', rfl, hk', hi, hb⟩ hA' k1 k2
    have hpA : p ≠ A := ne_some_none (c := updc c p k') updc_same hA'
    refine hs d _ K k' (List.mem_of_getElem? e) (by rw [updc_ne hpA, updc_same]) hk' (fun b x h hb => by rw [updc_ne (ne_some_none h hA), updc_ne hb]; exact h) (fun y k3 hy hk3 => ?_)
    rw [updc_comm (Ne.symm hpA), updc_updc]
    refine k1 y _ (by rw [updc_ne (Ne.symm hpA)]; exact hA) ⟨k3, rfl, hk3, by simp; omega, fun x hx => ?_⟩
    rcases List.mem_append.mp hx with h | h
    · exact hb x h
    · simp only [List.mem_singleton] at h; subst h; exact hy
  · rintro out c2 ⟨k', rfl, hk', hi, hb⟩ _
    rw [if_neg (by decide)]
    exact q out k' hi hb hk'
/-- letters drawn -/
def isLetter (d : D) : Prop := ∃ x, d = .str x ∧ SOk 1 x
/-! comprehensions over a mapped list, their elements changing nothing -/
theorem comp_mapG {G : CMap → Prop} {m : Bool} {α : Type} {xs : List α} {g : α → D} {step : D → CMap → (Option D → CMap → Prop) → Prop} {A : Addr} {c : CMap} {Q : DK} (f : α → Option D) (hA : c A = none) (hl : xs.length < 16777216) (hg : ∀ k, G (updc c A k))
    (hs : ∀ (x : α) (c' : CMap) (k : Option D → CMap → Prop), x ∈ xs → (∀ b y, c b = some y → c' b = some y) → k (f x) c' → step (g x) c' k) (q : if m = true then Q (.ref A) (updc c A (.lst (xs.filterMap f))) else Q (.lst (xs.filterMap f)) c) : CompP m step A (xs.map g) G c Q := by
  refine comp_invG hA (fun i acc c' => c' = c ∧ acc = (xs.take i).filterMap f) (by rw [List.length_map]; exact hl) ⟨rfl, by simp⟩ ?_ (by rintro i acc c2 ⟨rfl, _⟩ _; exact hg _) ?_
  · rintro i d acc c' k e ⟨rfl, rfl⟩ hA' k1 k2
    obtain ⟨x, hx, rfl⟩ := mem_map_at e
    refine hs x _ k (List.mem_of_getElem? hx) (fun b y h => by rw [updc_ne (ne_some_none h hA')]; exact h) ?_
    have et : (xs.take (i + 1)).filterMap f = (xs.take i).filterMap f ++ (f x).toList := by
      rw [List.take_add_one, hx, List.filterMap_append]
      cases h : f x <;> simp [h]
    cases h : f x with
    | some y => exact k1 y _ hA' ⟨rfl, by rw [et, h]; rfl⟩
    | none => exact k2 _ hA' ⟨rfl, by rw [et, h]; simp⟩
  · rintro out c2 ⟨rfl, rfl⟩ _
    rw [List.length_map, List.take_length]
    exact q
theorem comp_mapL {G : CMap → Prop} [FreeG G] {α : Type} {xs : List α} {g : α → D} {step : D → CMap → (Option D → CMap → Prop) → Prop} {A : Addr} {c : CMap} {Q : DK} (f : α → Option D) (hA : c A = none) (hl : xs.length < 16777216)
    (hs : ∀ (x : α) (c' : CMap) (k : Option D → CMap → Prop), x ∈ xs → (∀ b y, c b = some y → c' b = some y) → k (f x) c' → step (g x) c' k) (q : Q (.lst (xs.filterMap f)) c) : CompP false step A (xs.map g) G c Q :=
  comp_mapG f hA hl (fun _ => FreeG.all _) hs (by rw [if_neg (by decide)]; exact q)
theorem comp_mapR {G : CMap → Prop} [FreeG G] {α : Type} {xs : List α} {g : α → D} {step : D → CMap → (Option D → CMap → Prop) → Prop} {A : Addr} {c : CMap} {Q : DK} (f : α → Option D) (hA : c A = none) (hl : xs.length < 16777216)
    (hs : ∀ (x : α) (c' : CMap) (k : Option D → CMap → Prop), x ∈ xs → (∀ b y, c b = some y → c' b = some y) → k (f x) c' → step (g x) c' k) (q : Q (.ref A) (updc c A (.lst (xs.filterMap f)))) : CompP true step A (xs.map g) G c Q :=
  comp_mapG f hA hl (fun _ => FreeG.all _) hs (by rw [if_pos rfl]; exact q)
theorem fm_some {α β : Type} (f : α → β) (xs : List α) : xs.filterMap (fun x => some (f x)) = xs.map f := by rw [List.filterMap_eq_map']
theorem fm_if {α β : Type} (p : α → Prop) [DecidablePred p] (f : α → β) : ∀ xs : List α, xs.filterMap (fun x => if p x then some (f x) else none) = (xs.filter fun x => decide (p x)).map f
  | [] => rfl
  | x :: r => by
    rw [List.filterMap_cons, List.filter_cons, fm_if p f r]
    by_cases h : p x <;> simp [h]
theorem res_or {c : CMap} {d : D} {ds : List D} (h : res c d = .lst ds) : d = .lst ds ∨ ∃ p, d = .ref p ∧ c p = some (.lst ds) := by
  cases d with
  | ref p =>
    right
    rcases resAt_cases (c p) p with ⟨es, e1, e2⟩ | e2
    · have q : D.lst es = .lst ds := e2.symm.trans h
      injection q with q
      subst q
      exact ⟨p, rfl, e1⟩
    · have q : D.ref p = .lst ds := e2.symm.trans h
      cases q
  | _ => exact .inl h
theorem res_tyN {c : CMap} {d : D} {ds : List D} (h : res c d = .lst ds) : tyN c d = some "list" := by
  rcases res_or h with rfl | ⟨p, rfl, e⟩
  · rfl
  · show cellTy (c p) = _; rw [e]; rfl
theorem len_res {c : CMap} {Q : DK} {d : D} {ds : List D} (h : res c d = .lst ds) (q : Q (.int ds.length) c) : lenR c [d] Q := by unfold lenR; dsimp only; rw [h]; exact q
theorem res_lsG {c : CMap} {d : D} {ds : List D} (h : res c d = .lst ds) : ∃ G, LsG c d ds G ∧ ∀ A k, c A = none → G (updc c A k) := by
  rcases res_or h with rfl | ⟨p, rfl, e⟩
  · exact ⟨_, .inl ⟨rfl, rfl⟩, fun _ _ _ => trivial⟩
  · exact ⟨_, .inr ⟨p, rfl, e, rfl⟩, fun A k hA => by show updc c A k p = _; rw [updc_ne (ne_some_none e hA)]; exact e⟩
/-! what a value is, its lists resolved -/
def Rsv (c : CMap) : Nat → D → D → Prop
  | 0, _, _ => False
  | n + 1, d, .lst es => ∃ ds, res c d = .lst ds ∧ ds.length < 16777216 ∧ Paired (Rsv c n) ds es
  | n + 1, d, .tup es => ∃ ds, d = .tup ds ∧ ds.length < 16777216 ∧ Paired (Rsv c n) ds es
  | _ + 1, d, .int i => d = .int i
  | _ + 1, d, .str x => d = .str x ∧ PyData.strOk x = true
  | _ + 1, _, _ => False
theorem pair_map {α : Type} {R : D → D → Prop} {f g : α → D} : ∀ {xs : List α}, (∀ x ∈ xs, R (f x) (g x)) → Paired R (xs.map f) (xs.map g)
  | [], _ => .nil
  | x :: r, h => .cons (h x (by simp)) (pair_map fun y hy => h y (by simp [hy]))
theorem pair_app {R : D → D → Prop} {a b a' b' : List D} (h : Paired R a b) (h' : Paired R a' b') : Paired R (a ++ a') (b ++ b') := by
  induction h with
  | nil => exact h'
  | cons q t ih => exact .cons q ih
theorem pair_zip {R : D → D → Prop} {a b : List D} (h : Paired R a b) : ∀ p ∈ a.zip b, R p.1 p.2 := by
  induction h with
  | nil => intro p hp; cases hp
  | cons q t ih =>
    intro p hp
    rw [List.zip_cons_cons] at hp
    rcases List.mem_cons.mp hp with rfl | hp
    · exact q
    · exact ih p hp
theorem zip_res {c : CMap} {d : D} {xs ys : List D} {N : List D → (CMap → Prop) → CMap → Prop} (h : res c d = .lst xs) (q : ∀ G : CMap → Prop, (∀ A k, c A = none → G (updc c A k)) → N ((xs.zip ys).map fun p => D.tup [p.1, p.2]) G c) : zipR [d, .lst ys] c N := by
  obtain ⟨G, g1, g2⟩ := res_lsG h
  exact .inl ⟨xs, ys, _, _, g1, .inl ⟨rfl, rfl⟩, q _ fun A k hA => ⟨g2 A k hA, trivial⟩⟩
theorem bls_true {α : Type} (xs : List α) : ∃ bs, blsD (xs.filterMap fun _ => some (D.bl true)) = some bs ∧ bs.all id = true := by
  refine ⟨xs.map fun _ => true, ?_, by simp⟩
  rw [fm_some]
  have : (xs.map fun _ => D.bl true) = (xs.map fun _ => true).map D.bl := by rw [List.map_map]; rfl
  rw [this, blsD_map]
theorem pair_imp {R S : D → D → Prop} {a b : List D} (h : Paired R a b) (k : ∀ x y, R x y → S x y) : Paired S a b := by
  induction h with
  | nil => exact .nil
  | cons q t ih => exact .cons (k _ _ q) ih
theorem res_sub {c c' : CMap} {d : D} {ds : List D} (s : ∀ b y, c b = some y → c' b = some y) (h : res c d = .lst ds) : res c' d = .lst ds := by
  rcases res_or h with rfl | ⟨p, rfl, e⟩
  · rfl
  · exact res_c (s _ _ e)
theorem rsv_sub {c c' : CMap} (s : ∀ b y, c b = some y → c' b = some y) : ∀ (n : Nat) (d e : D), Rsv c n d e → Rsv c' n d e
  | 0, _, _, h => h
  | n + 1, d, .lst es, ⟨ds, h1, h2, h3⟩ => ⟨ds, res_sub s h1, h2, pair_imp h3 (rsv_sub s n)⟩
  | n + 1, d, .tup es, ⟨ds, h1, h2, h3⟩ => ⟨ds, h1, h2, pair_imp h3 (rsv_sub s n)⟩
  | _ + 1, d, .int i, h => h
  | _ + 1, d, .str x, h => h
  | _ + 1, _, .non, h => h
  | _ + 1, _, .bl _, h => h
  | _ + 1, _, .kt _, h => h
  | _ + 1, _, .scr _, h => h
  | _ + 1, _, .ref _, h => h
  | _ + 1, _, .ty _, h => h
/-! draws -/
theorem ix_mem {c : CMap} {Q : DK} {xs : List Int} {i : Int} (h0 : 0 ≤ i) (h1 : i < (xs.length : Int)) (q : ∀ x ∈ xs, Q (.int x) c) : idxR c (.lst (xs.map D.int)) (.int i) Q := by
  have h : i.toNat < xs.length := by omega
  exact ix_l (atn (j := i.toNat) (by omega) (by rw [List.getElem?_map, List.getElem?_eq_getElem h]; rfl)) (q _ (List.getElem_mem h))
theorem one_int (x : Int) : [D.int x] = [x].map D.int := rfl
theorem app_ints (xs ys : List Int) : xs.map D.int ++ ys.map D.int = (xs ++ ys).map D.int := List.map_append.symm
def RlOk (k : Cell) : Prop := ∃ (g r : List Int) (j s : Int), k = .lst [.lst (g.map D.int), .lst (r.map D.int), .int j, .int s] ∧ (∀ x ∈ g, 0 ≤ x) ∧ g.length ≤ 63 ∧ 0 < r.length ∧ r.length ≤ 64 ∧ (∀ x ∈ r, 0 ≤ x ∧ x < 1000003) ∧ 0 ≤ s ∧ s < 170141183460469231731687303715884105727
theorem wide_sq {s : Int} (h0 : 0 ≤ s) (h1 : s < 170141183460469231731687303715884105727) : CMul s s ∨ CMulW s s := by
  right
  have h : s.natAbs.log2 < 128 := by
    by_cases z : s.natAbs = 0
    · rw [z]; decide
    · exact (Nat.log2_lt z).mpr (by
        have : (2 : Nat) ^ 128 = 340282366920938463463374607431768211456 := by decide
        omega)
  show s.natAbs.log2 + s.natAbs.log2 < 1000000
  omega
def sp_law_draw : DSpec := fun ds c E Q => ∃ (p : Addr) (m : Int) (k : Cell), ds = [.ref p, .int m] ∧ c p = some k ∧ RlOk k ∧ 0 < m ∧ m < 1000000 ∧ ∀ (v : Int) k', 0 ≤ v → v < m → RlOk k' → Q (.int v) (updc c p k')
theorem ok_law_draw {ds c E Q} (h : sp_law_draw ds c E Q) : b_law_draw (endD E Q) (startE 5 ds) c := by
  obtain ⟨p, m, k, rfl, hp, ⟨g, r, j, s, rfl, hg, hgl, hr0, hrl, hr, s0, s1⟩, m0, m1, q⟩ := h
  unfold b_law_draw
  walk_at "go"
  refine eq_dd rfl rfl (ints_eqOk g) (ints_eqOk []) ?_
  walk_at "go"
  refine ite_td (fun h => ?_) (fun h => ?_)
  · obtain ⟨a, t, rfl⟩ : ∃ a t, g = a :: t := by
      rcases fnil g with rfl | z
      · exact absurd rfl h
      · exact z
    have a0 := hg a List.mem_cons_self
    walk_at "go"
    have e1 : cutG ((a :: t).map D.int) (some 1) none = t.map D.int := cut_from _ 1
    have hv := Int.emod_nonneg a (show m ≠ 0 by omega)
    have hv2 := Int.emod_lt_of_pos a m0
    refine mul_li (by split <;> decide) (by split <;> decide) (by rw [sizeLine_eq]; split <;> simp) (newL_f ?_)
    walk_at "go"
    have fin : ∀ g' : List Int, (∀ x ∈ g', 0 ≤ x) → g'.length ≤ 63 → Q (.int (a % m)) (updc c p (.lst [.lst (g'.map D.int), .lst (r.map D.int), .int j, .int s])) := fun g' h1 h2 => q _ _ hv hv2 ⟨g', r, j, s, rfl, h1, h2, hr0, hrl, hr, s0, s1⟩
    simp only [List.length_cons] at hgl
    by_cases ham : a ≥ m
    · simp only [ham, decide_true, if_true]
      rw [e1]
      refine add_ll (len_le (by simp; omega)) (newL_f ?_)
      walk_at "go"
      refine ⟨_, SubC.rfl', ?_⟩
      exact fin (a / m :: t) (fun x hx => by
        rcases List.mem_cons.mp hx with rfl | hx
        · exact Int.ediv_nonneg a0 (by omega)
        · exact hg x (List.mem_cons_of_mem _ hx)) (by simp only [List.length_cons]; omega)
    · simp only [ham, decide_false]
      rw [e1]
      refine add_ll (len_le (by simp; omega)) (newL_f ?_)
      walk_at "go"
      refine ⟨_, SubC.rfl', ?_⟩
      exact fin t (fun x hx => hg x (List.mem_cons_of_mem _ hx)) (by omega)
  · walk_at "go"
    have hm0 := Int.emod_nonneg (j + 1) (show (r.length : Int) ≠ 0 by omega)
    have hm1 := Int.emod_lt_of_pos (j + 1) (show (0 : Int) < (r.length : Int) by omega)
    refine mod_ii (by rw [List.length_map]; omega) ?_
    rw [List.length_map]
    refine ix_mem hm0 hm1 fun x hx => ?_
    obtain ⟨x0, x1⟩ := hr x hx
    walk_at "go"
    refine mul_ii (wide_sq s0 s1) ?_
    walk_at "go"
    refine fdiv_ii (.inr ⟨by decide, by decide +kernel⟩) ?_
    walk_at "go"
    refine ⟨_, SubC.rfl', ?_⟩
    rw [updc_updc]
    exact q _ _ (Int.emod_nonneg _ (by omega)) (Int.emod_lt_of_pos _ m0) ⟨g, r, j + 1, _, rfl, hg, hgl, hr0, hrl, hr, Int.emod_nonneg _ (by decide), Int.emod_lt_of_pos _ (by decide)⟩
theorem cut_63 {ns : List Int} (h : ns.length ≤ 63) : cutG ns none (some 63) = ns := (cut_to ns 63).trans (List.take_of_length_le h)
def sp_law_reel : DSpec := fun ds c E Q => ∃ ns : List Int, ds = [.scr ns] ∧ ns.length ≤ 63 ∧ ∀ p z, c p = none → RlOk z → Q (.ref p) (updc c p z)
theorem ok_law_reel {ds c E Q} (h : sp_law_reel ds c E Q) : b_law_reel (endD E Q) (startE 4 ds) c := by
  obtain ⟨ns, rfl, hl, q⟩ := h
  unfold b_law_reel
  walk_at "go"
  rw [cut_63 hl]
  refine for_inv (fun i env c' => c' = c ∧ ∃ (s : Int) (v2 : Option D), env = [some (.scr ns), some (.int s), v2, none] ∧ 0 ≤ s ∧ s < 170141183460469231731687303715884105727) ⟨rfl, _, _, rfl, by decide, by decide⟩ ?_ ?_
  · rintro i d env c' e ⟨rfl, s, v2, rfl, s0, s1⟩
    obtain ⟨x, hx, rfl⟩ := mem_map_at e
    walk_at "go"
    refine mul_ii (wide_sq s0 s1) ?_
    walk_at "go"
    exact ⟨rfl, _, _, rfl, Int.emod_nonneg _ (by decide), Int.emod_lt_of_pos _ (by decide)⟩
  rintro env c' ⟨rfl, s, v2, rfl, s0, s1⟩
  walk_at "go"
  rw [cut_63 hl]
  intro A hA
  refine comp_mapL (fun x : Int => if 1000000000000000000 ≤ x then some (.int (x - 1000000000000000000)) else none) hA (by omega) ?_ ?_
  · intro x c' k hx sub hk
    walk_at "go"
    refine ite_d (fun h => ?_) (fun h => ?_)
    · walk_at "go"
      rw [if_pos h] at hk
      exact hk
    · rw [if_neg h] at hk
      exact hk
  have eg := fm_if (fun x : Int => 1000000000000000000 ≤ x) (fun x => D.int (x - 1000000000000000000)) ns
  rw [eg]
  walk_at "go"
  rw [cut_63 hl]
  intro B hB
  refine comp_mapL (fun x : Int => some (.int (x % 1000003))) hB (by omega) ?_ ?_
  · intro x c' k hx sub hk
    walk_at "go"
    exact hk
  rw [fm_some]
  walk_at "go"
  refine add_ll (len_le (by simp; omega)) (newL_f ?_)
  walk_at "go"
  refine newL_t fun p hp => ?_
  refine ⟨_, SubC.rfl', q p _ hp ⟨(ns.filter fun x => decide (1000000000000000000 ≤ x)).map fun x => x - 1000000000000000000, ns.map (fun x => x % 1000003) ++ [41], 0, s, ?_, ?_, ?_, by simp, by simp; omega, ?_, s0, s1⟩⟩
  · simp only [List.map_map, List.map_append, List.map_cons, List.map_nil]; rfl
  · intro x hx
    obtain ⟨y, hy, rfl⟩ := List.mem_map.mp hx
    have := of_decide_eq_true (List.mem_filter.mp hy).2
    omega
  · rw [List.length_map]; exact Nat.le_trans (List.length_filter_le _ _) hl
  · intro x hx
    rcases List.mem_append.mp hx with h | h
    · obtain ⟨y, hy, rfl⟩ := List.mem_map.mp h
      exact ⟨Int.emod_nonneg _ (by decide), Int.emod_lt_of_pos _ (by decide)⟩
    · simp only [List.mem_singleton] at h; subst h; decide
/-! sides, numbers by names -/
inductive Pl where
  | num (n : Int)
  | nam (x : Str)
def Pl.d : Pl → D
  | .num n => .tup [.str "number", .int n]
  | .nam x => .tup [.str "name", .str x]
def Pl.ok : Pl → Prop
  | .num n => 0 ≤ n ∧ n < 1000
  | .nam x => SOk 40 x
inductive Sd where
  | one (a : Pl)
  | op (s : Str) (a b : Pl)
def Sd.d : Sd → D
  | .one a => a.d
  | .op s a b => .tup [.str s, a.d, b.d]
def Sd.ok : Sd → Prop
  | .one a => a.ok
  | .op s a b => (s = "+" ∨ s = "-" ∨ s = "*") ∧ a.ok ∧ b.ok
theorem sgn_at {v : Int} (h0 : 0 ≤ v) (h1 : v < 3) : ∃ k, atI (Str.ofString "+-*").cps.toList v = some k ∧ ((⟨#[k]⟩ : Str) = "+" ∨ (⟨#[k]⟩ : Str) = "-" ∨ (⟨#[k]⟩ : Str) = "*") := by
  have e : v = 0 ∨ v = 1 ∨ v = 2 := by omega
  rcases e with rfl | rfl | rfl
  · exact ⟨43, by decide +kernel, .inl (by decide +kernel)⟩
  · exact ⟨45, by decide +kernel, .inr (.inl (by decide +kernel))⟩
  · exact ⟨42, by decide +kernel, .inr (.inr (by decide +kernel))⟩
abbrev KV := List (Key × D)
def NumR (kvs : KV) : Prop := ∀ kv ∈ kvs, ∃ i : Int, kv.2 = .int i ∧ 0 ≤ i ∧ i < 1000
theorem NumR.put {kvs : KV} {k : Key} {i : Int} (h : NumR kvs) (h0 : 0 ≤ i) (h1 : i < 1000) : NumR (putKD kvs k (.int i)) := by
  intro kv hkv
  unfold putKD at hkv
  split at hkv
  · obtain ⟨x, hx, rfl⟩ := List.mem_map.mp hkv
    split
    · exact ⟨i, rfl, h0, h1⟩
    · exact h x hx
  · rcases List.mem_append.mp hkv with hkv | hkv
    · exact h kv hkv
    · simp only [List.mem_singleton] at hkv; subst hkv; exact ⟨i, rfl, h0, h1⟩
def numAt (kvs : KV) (x : Str) : Int := match (valD kvs (.inr x)).getD (.int 0) with
  | .int i => i
  | _ => 0
theorem numAt_eq {kvs : KV} (h : NumR kvs) (x : Str) : (valD kvs (.inr x)).getD (.int 0) = .int (numAt kvs x) ∧ 0 ≤ numAt kvs x ∧ numAt kvs x < 1000 := by
  have key : ∃ i : Int, (valD kvs (.inr x)).getD (.int 0) = .int i ∧ 0 ≤ i ∧ i < 1000 := by
    unfold valD
    cases e : kvs.find? fun kv => decide (kv.1 = (.inr x : Key)) with
    | none => exact ⟨0, rfl, by decide, by decide⟩
    | some kv =>
      obtain ⟨i, h1, h2⟩ := h kv (List.mem_of_find?_eq_some e)
      exact ⟨i, h1, h2⟩
  obtain ⟨i, h1, h2⟩ := key
  unfold numAt
  rw [h1]
  exact ⟨rfl, h2⟩
theorem merge_snoc (kvs : KV) (xs : KV) (x : Key × D) : mergeKD kvs (xs ++ [x]) = putKD (mergeKD kvs xs) x.1 x.2 := by
  unfold mergeKD; rw [List.foldl_append]; rfl
theorem putKD_len {kvs : KV} {k : Key} {d : D} : (putKD kvs k d).length ≤ kvs.length + 1 := by
  unfold putKD
  split
  · rw [List.length_map]; omega
  · rw [List.length_append]; simp
theorem merge_len (kvs : KV) : ∀ xs : KV, (mergeKD kvs xs).length ≤ kvs.length + xs.length := by
  intro xs
  induction xs generalizing kvs with
  | nil => exact Nat.le_refl _
  | cons x r ih =>
    have h1 := ih (putKD kvs x.1 x.2)
    have h2 := putKD_len (kvs := kvs) (k := x.1) (d := x.2)
    have e : mergeKD kvs (x :: r) = mergeKD (putKD kvs x.1 x.2) r := rfl
    rw [e]
    simp only [List.length_cons]; omega
def Pl.val (kvs : KV) : Pl → Int
  | .num n => n
  | .nam x => numAt kvs x
def opVal (s : Str) (a b : Int) : Int := (if s = "+" then a + b else if s = "-" then a - b else a * b) % 1000
def Sd.val (kvs : KV) : Sd → Int
  | .one a => a.val kvs
  | .op s a b => opVal s (a.val kvs) (b.val kvs)
theorem Pl.val_rng {kvs : KV} (h : NumR kvs) {a : Pl} (ha : a.ok) : 0 ≤ a.val kvs ∧ a.val kvs < 1000 := by
  cases a with
  | num n => exact ha
  | nam x => exact (numAt_eq h x).2
def sp_added : DSpec := fun ds c E Q => ∃ a b : Int, ds = [.int a, .int b] ∧ Q (.int (a + b)) c
theorem ok_added {ds c E Q} (h : sp_added ds c E Q) : b_added (endD E Q) (startE 2 ds) c := by
  obtain ⟨a, b, rfl, q⟩ := h
  unfold b_added
  walk_at "go"
  exact ⟨_, SubC.rfl', q⟩
def sp_lessened : DSpec := fun ds c E Q => ∃ a b : Int, ds = [.int a, .int b] ∧ Q (.int (a - b)) c
theorem ok_lessened {ds c E Q} (h : sp_lessened ds c E Q) : b_lessened (endD E Q) (startE 2 ds) c := by
  obtain ⟨a, b, rfl, q⟩ := h
  unfold b_lessened
  walk_at "go"
  exact ⟨_, SubC.rfl', q⟩
def sp_multiplied : DSpec := fun ds c E Q => ∃ a b : Int, ds = [.int a, .int b] ∧ CMul a b ∧ Q (.int (a * b)) c
theorem ok_multiplied {ds c E Q} (h : sp_multiplied ds c E Q) : b_multiplied (endD E Q) (startE 2 ds) c := by
  obtain ⟨a, b, rfl, hm, q⟩ := h
  unfold b_multiplied
  walk_at "go"
  refine mul_ii (.inl hm) ?_
  exact ⟨_, SubC.rfl', q⟩
/-! sides -/
def sp_number_of : Nat → DSpec
  | 0 => fun _ _ _ _ => False
  | n + 1 => fun ds c E Q => ∃ (d : D) (r : Addr), ds = [d, .ref r] ∧ ∃ kvs : KV, c r = some (.dK kvs) ∧ NumR kvs ∧ ((∃ a : Pl, d = a.d ∧ a.ok ∧ Q (.int (a.val kvs)) c) ∨ (∃ a : Sd, d = a.d ∧ a.ok ∧ 1 ≤ n ∧ Q (.int (a.val kvs)) c))
theorem void_number_of : ∀ ds c E Q, ¬ sp_number_of 0 ds c E Q := fun _ _ _ _ h => h
theorem ok_number_of {K : PySem.W.Frag} {n : Nat} {ds c E Q} (h : sp_number_of (n + 1) ds c E Q) : b_number_of K (sp_number_of n) sp_added sp_lessened sp_multiplied (endD E Q) (startE 3 ds) c := by
  obtain ⟨d, r, rfl, kvs, hr, hn, h⟩ := h
  have plain : ∀ a : Pl, a.ok → Q (.int (a.val kvs)) c → b_number_of K (sp_number_of n) sp_added sp_lessened sp_multiplied (endD E Q) (startE 3 [a.d, .ref r]) c := by
    intro a ha q
    unfold b_number_of
    cases a with
    | num m =>
      simp only [Pl.d]
      walk_at "go"
      walk_at "el"
      walk_at "go"
      exact ⟨_, SubC.rfl', q⟩
    | nam x =>
      simp only [Pl.d]
      walk_at "go"
      walk_at "el"
      walk_at "go"
      walk_at "el"
      walk_at "go"
      refine ⟨r, rfl, .inl ⟨kvs, hr⟩, ?_⟩
      walk_at "go"
      refine dA_K hr rfl ?_
      rw [(numAt_eq hn x).1]
      exact ⟨_, SubC.rfl', q⟩
  rcases h with ⟨a, rfl, ha, q⟩ | ⟨a, rfl, ha, h1, q⟩
  · exact plain a ha q
  cases a with
  | one a => exact plain a ha q
  | op s a b =>
    obtain ⟨hs, ha, hb⟩ := ha
    obtain ⟨n, rfl⟩ : ∃ j, n = j + 1 := ⟨n - 1, by omega⟩
    have ra := Pl.val_rng hn ha
    have rb := Pl.val_rng hn hb
    unfold b_number_of
    simp only [Sd.d]
    simp only [Sd.val, opVal] at q
    walk_at "go"
    rcases hs with rfl | rfl | rfl
    · rw [if_pos rfl] at q
      walk_at "el"
      walk_at "go"
      walk_at "el"
      walk_at "go"
      refine wTab_i ?_
      walk_at "go"
      refine ⟨_, _, rfl, (by rfl : tabAt _ _ = some (.glo "added")), ?_⟩
      walk_at "go"
      refine wCallT_i (z := "added") (sp := sp_added) rfl (by rfl) ?_
      walk_at "go"
      refine ⟨_, _, rfl, kvs, hr, hn, .inl ⟨a, rfl, ha, ?_⟩⟩
      walk_at "go"
      refine ⟨_, _, rfl, kvs, hr, hn, .inl ⟨b, rfl, hb, ?_⟩⟩
      walk_at "go"
      refine ⟨_, _, rfl, ?_⟩
      walk_at "go"
      exact ⟨_, SubC.rfl', q⟩
    · rw [if_neg (by decide +kernel), if_pos rfl] at q
      walk_at "el"
      walk_at "go"
      walk_at "el"
      walk_at "go"
      refine wTab_i ?_
      walk_at "go"
      refine ⟨_, _, rfl, (by rfl : tabAt _ _ = some (.glo "lessened")), ?_⟩
      walk_at "go"
      refine wCallT_i (z := "lessened") (sp := sp_lessened) rfl (by rfl) ?_
      walk_at "go"
      refine ⟨_, _, rfl, kvs, hr, hn, .inl ⟨a, rfl, ha, ?_⟩⟩
      walk_at "go"
      refine ⟨_, _, rfl, kvs, hr, hn, .inl ⟨b, rfl, hb, ?_⟩⟩
      walk_at "go"
      refine ⟨_, _, rfl, ?_⟩
      walk_at "go"
      exact ⟨_, SubC.rfl', q⟩
    · rw [if_neg (by decide +kernel), if_neg (by decide +kernel)] at q
      walk_at "el"
      walk_at "go"
      walk_at "el"
      walk_at "go"
      refine wTab_i ?_
      walk_at "go"
      refine ⟨_, _, rfl, (by rfl : tabAt _ _ = some (.glo "multiplied")), ?_⟩
      walk_at "go"
      refine wCallT_i (z := "multiplied") (sp := sp_multiplied) rfl (by rfl) ?_
      walk_at "go"
      refine ⟨_, _, rfl, kvs, hr, hn, .inl ⟨a, rfl, ha, ?_⟩⟩
      walk_at "go"
      refine ⟨_, _, rfl, kvs, hr, hn, .inl ⟨b, rfl, hb, ?_⟩⟩
      walk_at "go"
      refine ⟨_, _, rfl, .inl ⟨by omega, by omega⟩, ?_⟩
      walk_at "go"
      exact ⟨_, SubC.rfl', q⟩
theorem find_upd (kvs : KV) (k x : Key) (d : D) : ((kvs.map fun kv => if kv.1 = k then (kv.1, d) else kv).find? fun kv => decide (kv.1 = x)).map (·.2) = if x = k then (if (kvs.any fun kv => decide (kv.1 = k)) = true then some d else none) else (kvs.find? fun kv => decide (kv.1 = x)).map (·.2) := by
  induction kvs with
  | nil => simp
  | cons kv r ih =>
    rw [List.map_cons, List.find?_cons, List.find?_cons, List.any_cons]
    by_cases h : kv.1 = k
    · rw [if_pos h]
      by_cases h2 : kv.1 = x
      · have e : x = k := h2.symm.trans h
        simp [h, e]
      · have e : ¬ x = k := fun z => h2 (h.trans z.symm)
        simp only [h2, decide_false]
        rw [ih, if_neg e, if_neg e]
    · rw [if_neg h]
      by_cases h2 : kv.1 = x
      · have e : ¬ x = k := fun z => h (h2.trans z)
        simp [h2, e]
      · simp only [h2, h, decide_false, Bool.false_or]
        exact ih
theorem valD_put (kvs : KV) (k x : Key) (d : D) : valD (putKD kvs k d) x = if x = k then some d else valD kvs x := by
  unfold putKD
  split
  · rename_i h
    unfold valD
    rw [find_upd, if_pos h]
  · rename_i h
    unfold valD
    rw [List.find?_append]
    by_cases e : x = k
    · subst e
      have : (kvs.find? fun kv => decide (kv.1 = x)) = none := by
        rw [List.find?_eq_none]
        intro kv hkv z
        exact h (List.any_eq_true.mpr ⟨kv, hkv, z⟩)
      rw [this]
      simp
    · rw [if_neg e]
      have e2 : ¬ k = x := fun z => e z.symm
      simp [e2]
theorem numAt_put (kvs : KV) (y x : Str) (i : Int) : numAt (putKD kvs (.inr y) (.int i)) x = if x = y then i else numAt kvs x := by
  unfold numAt
  rw [valD_put]
  by_cases e : x = y
  · subst e; simp
  · rw [if_neg e, if_neg (fun z => e (Sum.inr.inj z))]
/-! .. by the law -/
def sp_law_number : Nat → DSpec
  | 0 => fun _ _ _ _ => False
  | n + 1 => fun ds c E Q => ∃ (d : D) (r : Addr), ds = [d, .ref r] ∧ ∃ kvs : KV, c r = some (.dK kvs) ∧ NumR kvs ∧ ((∃ a : Pl, d = a.d ∧ a.ok ∧ Q (.int (a.val kvs)) c) ∨ (∃ a : Sd, d = a.d ∧ a.ok ∧ 1 ≤ n ∧ Q (.int (a.val kvs)) c))
theorem void_law_number : ∀ ds c E Q, ¬ sp_law_number 0 ds c E Q := fun _ _ _ _ h => h
/-! rows -/
mutual
inductive Rw where
  | let_ (x : Str) (s : Sd)
  | say (s : Sd)
  | add (x : Str) (s t : Sd)
  | drop (x : Str) (s : Sd)
  | count (x y : Str)
  | do_ (x : Str)
  | stop
  | each (t a b : Str) (rs : Rs)
  | whl (g : Str) (a b : Sd) (rs : Rs)
  | ifr (g : Str) (a b : Sd) (rs es : Rs)
inductive Rs where
  | nil
  | cons (r : Rw) (rs : Rs)
end
mutual
def Rw.d : Rw → D
  | .let_ x s => .tup [.str "let", .str x, s.d]
  | .say s => .tup [.str "say", s.d]
  | .add x s t => .tup [.str "add", .str x, s.d, t.d]
  | .drop x s => .tup [.str "drop", .str x, s.d]
  | .count x y => .tup [.str "count", .str x, .str y]
  | .do_ x => .tup [.str "do", .str x]
  | .stop => .tup [.str "stop"]
  | .each t a b rs => .tup [.str "each", .str t, .str a, .str b, .lst rs.ds]
  | .whl g a b rs => .tup [.str "while", .str g, a.d, b.d, .lst rs.ds]
  | .ifr g a b rs es => .tup [.str "if", .str g, a.d, b.d, .lst rs.ds, .lst es.ds]
def Rs.ds : Rs → List D
  | .nil => []
  | .cons r rs => r.d :: rs.ds
end
mutual
/-- how deep its rows stand -/
def Rw.deep : Rw → Nat
  | .each _ _ _ rs => rs.deep + 1
  | .whl _ _ _ rs => rs.deep + 1
  | .ifr _ _ _ rs es => max rs.deep es.deep + 1
  | _ => 0
def Rs.deep : Rs → Nat
  | .nil => 0
  | .cons r rs => max r.deep rs.deep
end
def Rs.app : Rs → Rw → Rs
  | .nil, r => .cons r .nil
  | .cons q rs, r => .cons q (rs.app r)
theorem Rs.app_ds : ∀ (rs : Rs) (r : Rw), (rs.app r).ds = rs.ds ++ [r.d]
  | .nil, r => by simp only [Rs.app, Rs.ds]; rfl
  | .cons q rs, r => by simp only [Rs.app, Rs.ds, Rs.app_ds rs r]; rfl
theorem Rs.app_deep : ∀ (rs : Rs) (r : Rw), (rs.app r).deep = max rs.deep r.deep
  | .nil, r => by simp only [Rs.app, Rs.deep]; omega
  | .cons q rs, r => by simp only [Rs.app, Rs.deep, Rs.app_deep rs r]; omega
def Rs.len : Rs → Nat
  | .nil => 0
  | .cons _ rs => rs.len + 1
theorem Rs.ds_len : ∀ rs : Rs, rs.ds.length = rs.len
  | .nil => rfl
  | .cons r rs => by simp only [Rs.ds, List.length_cons, Rs.len, Rs.ds_len rs]
/-! names in order -/
def leS (a b : Str) : Prop := a.cps.toList ≤ b.cps.toList
theorem leS_trans {a b d : Str} (h : leS a b) (k : leS b d) : leS a d := List.le_trans h k
theorem leS_anti {a b : Str} (h : leS a b) (k : leS b a) : a = b := by
  have e := List.le_antisymm h k
  cases a; cases b
  simp only [Str.mk.injEq]
  exact Array.toList_inj.mp e
theorem rising_pw : ∀ (p : Str) (l : List Str), PyProof.Rows.risingS p l = true → (p :: l).Pairwise leS
  | p, [], _ => by simp
  | p, x :: r, h => by
    unfold PyProof.Rows.risingS at h
    rw [Bool.and_eq_true] at h
    obtain ⟨h1, h2⟩ := h
    rw [PyProof.Rows.ltCps_eq] at h1
    have hx : leS p x := by
      unfold leS
      rw [← List.not_lt]
      simpa using h1
    have ih := rising_pw x r h2
    rw [List.pairwise_cons] at ih ⊢
    refine ⟨fun a ha => ?_, List.pairwise_cons.mpr ih⟩
    rcases List.mem_cons.mp ha with rfl | ha
    · exact hx
    · exact leS_trans hx (ih.1 a ha)
theorem sorted_pw {l : List Str} (h : PyProof.Rows.sortedS l = true) : l.Pairwise leS := by
  cases l with
  | nil => exact .nil
  | cons x r => exact rising_pw x r h
/-- two rows of names in order that hold the same, none twice -/
theorem names_eq {a b : List Str} (ha : a.Pairwise leS) (hb : b.Pairwise leS) (na : a.Nodup) (nb : b.Nodup) (h : ∀ x, x ∈ a ↔ x ∈ b) : a = b :=
  List.Perm.eq_of_pairwise (le := leS) (fun a b _ _ h1 h2 => leS_anti h1 h2) ha hb ((List.perm_ext_iff_of_nodup na nb).mpr h)
/-! what a run has -/
structure GoSt where
  box : Str → Int
  tab : Str → List (Int × Int)
  said : List Int
  ended : Int
  counted : Int
  within : Int
def Pl.valF (f : Str → Int) : Pl → Int
  | .num n => n
  | .nam x => f x
def Sd.valF (f : Str → Int) : Sd → Int
  | .one a => a.valF f
  | .op s a b => opVal s (a.valF f) (b.valF f)
theorem Sd.val_F {kvs : KV} {f : Str → Int} (h : ∀ x, numAt kvs x = f x) (a : Sd) : a.val kvs = a.valF f := by
  have p : ∀ a : Pl, a.val kvs = a.valF f := fun a => by cases a <;> simp [Pl.val, Pl.valF, h]
  cases a <;> simp [Sd.val, Sd.valF, p]
def soF (g : Str) (a b : Sd) (f : Str → Int) : Bool := if g = "<" then decide (a.valF f < b.valF f) else decide (a.valF f = b.valF f)
def setF {α : Type} (f : Str → α) (x : Str) (v : α) : Str → α := fun y => if y = x then v else f y
/-- what is still to be done, the innermost first -/
inductive Fr where
  | rows (rs : Rs)
  | whl (g : Str) (a b : Sd) (rs : Rs)
  | each (x y : Str) (rs : Rs) (l : List (Int × Int))
  | part
abbrev Bod := Str → Rs
abbrev Cf := List Fr × GoSt
/-- a row that is counted -/
def doRow (B : Bod) (K : List Fr) (s : GoSt) : Rw → Cf
  | .let_ x e => (K, { s with box := setF s.box x (e.valF s.box) })
  | .say e => (K, { s with said := s.said ++ [e.valF s.box] })
  | .add t a b => (K, { s with tab := setF s.tab t (s.tab t ++ [(a.valF s.box, b.valF s.box)]) })
  | .drop t e => (K, { s with tab := setF s.tab t ((s.tab t).filter fun p => decide (p.1 ≠ e.valF s.box)) })
  | .count x t => (K, { s with box := setF s.box x (((s.tab t).length : Int) % 1000) })
  | .do_ p => if s.within = 20 then (K, { s with ended := 2 }) else (.rows (B p) :: .part :: K, { s with within := s.within + 1 })
  | .stop => (K, { s with ended := 1 })
  | .each t x y rs => (.each x y rs (s.tab t) :: K, s)
  | .whl g a b rs => (.whl g a b rs :: K, s)
  | .ifr g a b rs es => (.rows (if soF g a b s.box = true then rs else es) :: K, s)
def Rw.isW : Rw → Bool
  | .whl _ _ _ _ => true
  | _ => false
def goOn (B : Bod) (K : List Fr) (s : GoSt) : Fr → Cf
  | .rows .nil => (K, s)
  | .rows (.cons r rs) => if r.isW = true then doRow B (.rows rs :: K) s r else if s.counted = 300 then (.rows rs :: K, { s with ended := 2 }) else doRow B (.rows rs :: K) { s with counted := s.counted + 1 } r
  | .whl g a b rs => if s.counted = 300 then (K, { s with ended := 2 }) else if soF g a b s.box = true then (.rows rs :: .whl g a b rs :: K, { s with counted := s.counted + 1 }) else (K, { s with counted := s.counted + 1 })
  | .each _ _ _ [] => (K, s)
  | .each x y rs (p :: l) => (.rows rs :: .each x y rs l :: K, { s with box := setF (setF s.box x p.1) y p.2 })
  | .part => (K, { s with within := s.within - 1 })
/-- the run's steps -/
inductive Gs (B : Bod) : Cf → Cf → Prop
  | refl (a : Cf) : Gs B a a
  | step {K : List Fr} {s : GoSt} {fr : Fr} {b : Cf} (h : s.ended = 0) (t : Gs B (goOn B K s fr) b) : Gs B (fr :: K, s) b
theorem Gs.trans {B : Bod} {a b d : Cf} (h : Gs B a b) (k : Gs B b d) : Gs B a d := by
  induction h with
  | refl a => exact k
  | step h t ih => exact .step h (ih k)
theorem Gs.one {B : Bod} {K : List Fr} {s : GoSt} {fr : Fr} (h : s.ended = 0) : Gs B (fr :: K, s) (goOn B K s fr) := .step h (.refl _)
/-- nothing is left to be done -/
def Fin (c : Cf) : Prop := c.1 = [] ∨ c.2.ended ≠ 0
theorem Gs.fin {B : Bod} {a b : Cf} (h : Gs B a b) (f : Fin a) : b = a := by
  cases h with
  | refl => rfl
  | step h t =>
    rcases f with f | f
    · cases f
    · exact absurd h f
theorem Gs.uniq {B : Bod} {a b d : Cf} (h : Gs B a b) (fb : Fin b) (k : Gs B a d) (fd : Fin d) : b = d := by
  induction h with
  | refl a => exact (k.fin fb).symm
  | step h t ih =>
    cases k with
    | refl =>
      rcases fd with f | f
      · cases f
      · exact absurd h f
    | step _ t' => exact ih fb t'
/-- a frame is gone through -/
def Leads (B : Bod) (fr : Fr) (s s' : GoSt) : Prop := ∀ K, ∃ K', Gs B (fr :: K, s) (K', s') ∧ (s'.ended = 0 → K' = K)
/-- a row that is counted is done -/
def Does (B : Bod) (r : Rw) (s s' : GoSt) : Prop := ∀ K, ∃ K', Gs B (doRow B K s r) (K', s') ∧ (s'.ended = 0 → K' = K)
theorem Leads.stop {B : Bod} {fr : Fr} {s : GoSt} (h : s.ended ≠ 0) : Leads B fr s s := fun K => ⟨_, .refl _, fun z => absurd z h⟩
theorem Leads.nil {B : Bod} {s : GoSt} : Leads B (.rows .nil) s s := fun K => by
  by_cases h : s.ended = 0
  · exact ⟨K, .one h, fun _ => rfl⟩
  · exact ⟨_, .refl _, fun z => absurd z h⟩
/-- two things one behind the other -/
theorem Gs.then {B : Bod} {K : List Fr} {a : Cf} {fr : Fr} {s1 s2 : GoSt} (h : ∃ K', Gs B a (K', s1) ∧ (s1.ended = 0 → K' = fr :: K)) (k : Leads B fr s1 s2) : ∃ K', Gs B a (K', s2) ∧ (s2.ended = 0 → K' = K) := by
  obtain ⟨K1, h1, h2⟩ := h
  by_cases e : s1.ended = 0
  · rw [h2 e] at h1
    obtain ⟨K2, k1, k2⟩ := k K
    exact ⟨K2, h1.trans k1, k2⟩
  · obtain ⟨K2, k1, k2⟩ := k K
    have := k1.fin (.inr e)
    cases this
    exact ⟨K1, h1, fun z => absurd z e⟩
theorem Leads.cons {B : Bod} {r : Rw} {rs : Rs} {s s1 s2 : GoSt} (h : s.ended = 0) (hr : ∀ K, ∃ K', Gs B (goOn B K s (.rows (.cons r rs))) (K', s1) ∧ (s1.ended = 0 → K' = .rows rs :: K)) (k : Leads B (.rows rs) s1 s2) : Leads B (.rows (.cons r rs)) s s2 := fun K => by
  obtain ⟨K', h1, h2⟩ := Gs.then (hr K) k
  exact ⟨K', (Gs.one h).trans h1, h2⟩
/-- how deep a run stands in parts -/
def nPart : List Fr → Int
  | [] => 0
  | .part :: K => nPart K + 1
  | _ :: K => nPart K
theorem goOn_part (B : Bod) (K : List Fr) (s : GoSt) (fr : Fr) : (goOn B K s fr).2.within - nPart (goOn B K s fr).1 = s.within - nPart (fr :: K) := by
  have row : ∀ (r : Rw) (K : List Fr) (s : GoSt), (doRow B K s r).2.within - nPart (doRow B K s r).1 = s.within - nPart K := by
    intro r K s
    cases r with
    | do_ p =>
      simp only [doRow]
      split
      · rfl
      · simp only [nPart]; omega
    | _ => rfl
  cases fr with
  | rows rs =>
    cases rs with
    | nil => rfl
    | cons r rs =>
      simp only [goOn]
      split
      · exact row r _ _
      · split
        · rfl
        · exact row r _ _
  | whl g a b rs =>
    simp only [goOn]
    split
    · rfl
    · split <;> rfl
  | each x y rs l => cases l <;> rfl
  | part => simp only [goOn, nPart]; omega
theorem Gs.part {B : Bod} {a b : Cf} (h : Gs B a b) : b.2.within - nPart b.1 = a.2.within - nPart a.1 := by
  induction h with
  | refl a => rfl
  | step h t ih => rw [ih]; exact goOn_part _ _ _ _
theorem Leads.within {B : Bod} {fr : Fr} {s s' : GoSt} (h : Leads B fr s s') (e : s'.ended = 0) (hf : nPart [fr] = 0) : s'.within = s.within := by
  obtain ⟨K', h1, h2⟩ := h []
  have := h1.part
  rw [h2 e] at this
  simp only [hf] at this
  simp only [nPart] at this
  omega
theorem Does.within {B : Bod} {r : Rw} {s s' : GoSt} (h : Does B r s s') (e : s'.ended = 0) : s'.within = s.within := by
  obtain ⟨K', h1, h2⟩ := h []
  have := h1.part
  rw [h2 e] at this
  have row : (doRow B [] s r).2.within - nPart (doRow B [] s r).1 = s.within - nPart [] := by
    cases r with
    | do_ p =>
      simp only [doRow]
      split
      · rfl
      · simp only [nPart]; omega
    | _ => rfl
  rw [row] at this
  simp only [nPart] at this
  omega
/-- what is told of a run: two runs that tell the same -/
structure GoSt.Same (s t : GoSt) : Prop where
  box : s.box = t.box
  tab : s.tab = t.tab
  said : s.said = t.said
  ended : s.ended = t.ended
/-- all of a run -/
def Runs (B : Bod) (rs : Rs) (s s' : GoSt) : Prop := ∃ K', Gs B ([.rows rs], s) (K', s') ∧ Fin (K', s')
theorem Leads.runs {B : Bod} {rs : Rs} {s s' : GoSt} (h : Leads B (.rows rs) s s') : Runs B rs s s' := by
  obtain ⟨K', h1, h2⟩ := h []
  refine ⟨K', h1, ?_⟩
  by_cases e : s'.ended = 0
  · exact .inl (h2 e)
  · exact .inr e
theorem Runs.uniq {B : Bod} {rs : Rs} {s a b : GoSt} (h : Runs B rs s a) (k : Runs B rs s b) : a = b := by
  obtain ⟨K1, h1, h2⟩ := h
  obtain ⟨K2, k1, k2⟩ := k
  have := h1.uniq h2 k1 k2
  cases this
  rfl
/-! what a run has, as objects -/
def prD (p : Int × Int) : D := .tup [.int p.1, .int p.2]
structure GoC where
  g : Addr
  n : Addr
  l : Addr
  sp : Addr
  b : Addr
  P : Addr → Prop
  U : List Str
  parts : List (Str × Rs)
def bodK (p : Str × Rs) : Key × D := (.inr p.1, .lst p.2.ds)
def bodF (ps : List (Str × Rs)) : Bod := fun x => ((ps.find? fun p => decide (p.1 = x)).map (·.2)).getD .nil
structure GoC.ok (G : GoC) : Prop where
  nl : G.n ≠ G.l
  nb : G.n ≠ G.b
  lb : G.l ≠ G.b
  pg : G.P G.g
  pn : G.P G.n
  pl : G.P G.l
  ps : G.P G.sp
  ul : G.U.length ≤ 60
  us : ∀ x ∈ G.U, SOk 40 x
structure GoOk (M : Int) (s : GoSt) : Prop where
  c0 : 0 ≤ s.counted
  c1 : s.counted ≤ 300
  w0 : 0 ≤ s.within
  w1 : s.within ≤ 20
  br : ∀ x, 0 ≤ s.box x ∧ s.box x < 1000
  tr : ∀ x, ∀ p ∈ s.tab x, (0 ≤ p.1 ∧ p.1 < 1000) ∧ 0 ≤ p.2 ∧ p.2 < 1000
  tl : ∀ x, ((s.tab x).length : Int) ≤ M + s.counted
  sl : (s.said.length : Int) ≤ s.counted
  mm : 0 ≤ M ∧ M ≤ 100000
def KeysIn (U : List Str) (kvs : KV) : Prop := (kvs.map (·.1)).Nodup ∧ ∀ kv ∈ kvs, ∃ x ∈ U, kv.1 = .inr x
abbrev flds (G : GoC) (s : GoSt) (w : Int) : List (Str × D) := [("named", .ref G.n), ("listed", .ref G.l), ("spoken", .ref G.sp), ("ended", .int s.ended), ("counted", .int s.counted), ("within", .int w), ("bodies", .ref G.b)]
abbrev Tbs := List (Str × Addr)
def tbK (t : Str × Addr) : Key × D := (.inr t.1, .ref t.2)
structure TabAt (G : GoC) (c : CMap) (s : GoSt) (ts : Tbs) : Prop where
  l : c G.l = some (.dK (ts.map tbK))
  nd : (ts.map (·.1)).Nodup
  na : (ts.map (·.2)).Nodup
  at_ : ∀ t ∈ ts, t.1 ∈ G.U ∧ G.P t.2 ∧ c t.2 = some (.lst ((s.tab t.1).map prD)) ∧ t.2 ≠ G.sp
  no : ∀ x, x ∉ ts.map (·.1) → s.tab x = []
structure NamAt (G : GoC) (c : CMap) (s : GoSt) (kvs : KV) : Prop where
  n : c G.n = some (.dK kvs)
  num : NumR kvs
  val : ∀ x, numAt kvs x = s.box x
  key : KeysIn G.U kvs
structure GoAt (K : PySem.W.Frag) (M : Int) (G : GoC) (c : CMap) (s : GoSt) : Prop where
  ok : GoOk M s
  ins : ∃ w, (s.ended = 0 → w = s.within) ∧ c G.g = some (.ins (He.ga K "Going") (flds G s w))
  named : ∃ kvs, NamAt G c s kvs
  listed : ∃ ts, TabAt G c s ts
  spoken : c G.sp = some (.lst (s.said.map D.int))
  bodies : c G.b = some (.dK (G.parts.map bodK))
theorem nodup_le {α : Type} [DecidableEq α] : ∀ {l m : List α}, l.Nodup → (∀ x ∈ l, x ∈ m) → l.length ≤ m.length
  | [], _, _, _ => Nat.zero_le _
  | a :: r, m, h, k => by
    rw [List.nodup_cons] at h
    have ha := k a List.mem_cons_self
    have h1 := nodup_le (l := r) (m := m.erase a) h.2 fun x hx => by
      refine (List.mem_erase_of_ne ?_).mpr (k x (List.mem_cons_of_mem _ hx))
      rintro rfl
      exact h.1 hx
    rw [List.length_erase_of_mem ha] at h1
    have := List.length_pos_of_mem ha
    simp only [List.length_cons]; omega
theorem KeysIn.len {U : List Str} {kvs : KV} (h : KeysIn U kvs) : kvs.length ≤ U.length := by
  have := nodup_le (l := kvs.map (·.1)) (m := U.map Sum.inr) h.1 fun x hx => by
    obtain ⟨kv, hkv, rfl⟩ := List.mem_map.mp hx
    obtain ⟨y, hy, e⟩ := h.2 kv hkv
    rw [e]
    exact List.mem_map_of_mem hy
  rwa [List.length_map, List.length_map] at this
theorem put_keys {kvs : KV} {k : Key} {d : D} : (putKD kvs k d).map (·.1) = if (kvs.any fun kv => decide (kv.1 = k)) = true then kvs.map (·.1) else kvs.map (·.1) ++ [k] := by
  unfold putKD
  split
  · rw [List.map_map]
    refine List.map_congr_left fun kv _ => ?_
    simp only [Function.comp]
    split <;> rfl
  · rw [List.map_append]; rfl
theorem KeysIn.put {U : List Str} {kvs : KV} {x : Str} {d : D} (h : KeysIn U kvs) (hx : x ∈ U) : KeysIn U (putKD kvs (.inr x) d) := by
  constructor
  · rw [put_keys]
    split
    · exact h.1
    · rename_i n
      rw [List.nodup_append]
      refine ⟨h.1, by simp, fun a ha b hb z => ?_⟩
      simp only [List.mem_singleton] at hb
      subst hb
      subst z
      obtain ⟨kv, hkv, e⟩ := List.mem_map.mp ha
      exact n (List.any_eq_true.mpr ⟨kv, hkv, by simpa using e⟩)
  · intro kv hkv
    have : kv.1 ∈ (putKD kvs (.inr x) d).map (·.1) := List.mem_map_of_mem hkv
    rw [put_keys] at this
    split at this
    · obtain ⟨kv2, h2, e⟩ := List.mem_map.mp this
      obtain ⟨y, hy, e2⟩ := h.2 kv2 h2
      exact ⟨y, hy, by rw [← e, e2]⟩
    · rcases List.mem_append.mp this with z | z
      · obtain ⟨kv2, h2, e⟩ := List.mem_map.mp z
        obtain ⟨y, hy, e2⟩ := h.2 kv2 h2
        exact ⟨y, hy, by rw [← e, e2]⟩
      · simp only [List.mem_singleton] at z
        exact ⟨x, hx, z⟩
theorem Sd.valF_rng {f : Str → Int} (h : ∀ x, 0 ≤ f x ∧ f x < 1000) {a : Sd} (ha : a.ok) : 0 ≤ a.valF f ∧ a.valF f < 1000 := by
  have p : ∀ a : Pl, a.ok → 0 ≤ a.valF f ∧ a.valF f < 1000 := fun a ha => by
    cases a with
    | num n => exact ha
    | nam x => exact h x
  cases a with
  | one a => exact p a ha
  | op s a b =>
    simp only [Sd.valF, opVal]
    exact ⟨Int.emod_nonneg _ (by decide), Int.emod_lt_of_pos _ (by decide)⟩
section
variable {K : PySem.W.Frag} {M : Int} {G : GoC} {c : CMap} {s : GoSt}
theorem GoAt.gn (h : GoAt K M G c s) : G.g ≠ G.n := by
  obtain ⟨w, _, e⟩ := h.ins
  obtain ⟨kvs, hn⟩ := h.named
  intro z
  rw [z, hn.n] at e
  cases e
theorem GoAt.gl (h : GoAt K M G c s) : G.g ≠ G.l := by
  obtain ⟨w, _, e⟩ := h.ins
  obtain ⟨ts, hl⟩ := h.listed
  intro z
  rw [z, hl.l] at e
  cases e
theorem GoAt.gs (h : GoAt K M G c s) : G.g ≠ G.sp := by
  obtain ⟨w, _, e⟩ := h.ins
  intro z
  rw [z, h.spoken] at e
  cases e
theorem GoAt.gb (h : GoAt K M G c s) : G.g ≠ G.b := by
  obtain ⟨w, _, e⟩ := h.ins
  intro z
  rw [z, h.bodies] at e
  cases e
theorem GoAt.ns (h : GoAt K M G c s) : G.n ≠ G.sp := by
  obtain ⟨kvs, hn⟩ := h.named
  intro z
  have e := hn.n
  rw [z, h.spoken] at e
  cases e
theorem GoAt.ls (h : GoAt K M G c s) : G.l ≠ G.sp := by
  obtain ⟨ts, hl⟩ := h.listed
  intro z
  have e := hl.l
  rw [z, h.spoken] at e
  cases e
theorem GoAt.bs (h : GoAt K M G c s) : G.b ≠ G.sp := by
  intro z
  have e := h.bodies
  rw [z, h.spoken] at e
  cases e
theorem ne_lst {c : CMap} {a b : Addr} {ds : List D} {k : Cell} (h : c a = some (.lst ds)) (h2 : c b = some k) (n : ∀ es, k ≠ .lst es) : a ≠ b := by
  intro z
  rw [z, h2] at h
  exact n _ (Option.some.inj h)
/-- all but one thing stays -/
theorem TabAt.frame {c' : CMap} {s' : GoSt} {ts : Tbs} (h : TabAt G c s ts) (e : s'.tab = s.tab) (hl : c' G.l = c G.l) (ht : ∀ t ∈ ts, c' t.2 = c t.2) : TabAt G c' s' ts :=
  ⟨by rw [hl]; exact h.l, h.nd, h.na, fun t m => by rw [e, ht t m]; exact h.at_ t m, fun x hx => by rw [e]; exact h.no x hx⟩
theorem NamAt.frame {c' : CMap} {s' : GoSt} {kvs : KV} (h : NamAt G c s kvs) (e : s'.box = s.box) (hn : c' G.n = c G.n) : NamAt G c' s' kvs :=
  ⟨by rw [hn]; exact h.n, h.num, fun x => by rw [e]; exact h.val x, h.key⟩
/-- a field of the run is set -/
theorem GoAt.fld (h : GoAt K M G c s) {s' : GoSt} {w : Int} (hok : GoOk M s') (e1 : s'.box = s.box) (e2 : s'.tab = s.tab) (e3 : s'.said = s.said) (hw : s'.ended = 0 → w = s'.within) : GoAt K M G (updc c G.g (.ins (He.ga K "Going") (flds G s' w))) s' := by
  obtain ⟨kvs, hn⟩ := h.named
  obtain ⟨ts, hl⟩ := h.listed
  obtain ⟨w0, _, hi⟩ := h.ins
  refine ⟨hok, ⟨w, hw, updc_same⟩, ⟨kvs, hn.frame e1 (updc_ne (Ne.symm h.gn))⟩, ⟨ts, hl.frame e2 (updc_ne (Ne.symm h.gl)) fun t m => updc_ne ?_⟩, ?_, ?_⟩
  · exact ne_lst (hl.at_ t m).2.2.1 hi fun _ z => by cases z
  · rw [updc_ne (Ne.symm h.gs), e3]; exact h.spoken
  · rw [updc_ne (Ne.symm h.gb)]; exact h.bodies
/-- a box takes a number -/
theorem GoAt.put (h : GoAt K M G c s) (hG : G.ok) {kvs : KV} (hn : NamAt G c s kvs) {x : Str} {v : Int} (hx : x ∈ G.U) (v0 : 0 ≤ v) (v1 : v < 1000) : GoAt K M G (updc c G.n (.dK (putKD kvs (.inr x) (.int v)))) { s with box := setF s.box x v } ∧ NamAt G (updc c G.n (.dK (putKD kvs (.inr x) (.int v)))) { s with box := setF s.box x v } (putKD kvs (.inr x) (.int v)) := by
  obtain ⟨ts, hl⟩ := h.listed
  obtain ⟨w0, hw, hi⟩ := h.ins
  have key : NamAt G (updc c G.n (.dK (putKD kvs (.inr x) (.int v)))) { s with box := setF s.box x v } (putKD kvs (.inr x) (.int v)) := ⟨updc_same, hn.num.put v0 v1, fun y => by rw [numAt_put, hn.val]; rfl, hn.key.put hx⟩
  refine ⟨⟨⟨h.ok.c0, h.ok.c1, h.ok.w0, h.ok.w1, fun y => ?_, h.ok.tr, h.ok.tl, h.ok.sl, h.ok.mm⟩, ⟨w0, hw, by rw [updc_ne h.gn]; exact hi⟩, ⟨_, key⟩, ⟨ts, hl.frame rfl (updc_ne (Ne.symm hG.nl)) fun t m => updc_ne ?_⟩, ?_, ?_⟩, key⟩
  · show 0 ≤ setF s.box x v y ∧ setF s.box x v y < 1000
    unfold setF
    split
    · exact ⟨v0, v1⟩
    · exact h.ok.br y
  · exact ne_lst (hl.at_ t m).2.2.1 hn.n fun _ z => by cases z
  · rw [updc_ne (Ne.symm h.ns)]; exact h.spoken
  · rw [updc_ne (Ne.symm hG.nb)]; exact h.bodies
/-- a number is said -/
theorem GoAt.say (h : GoAt K M G c s) {v : Int} (hc : (s.said.length : Int) + 1 ≤ s.counted) : GoAt K M G (updc c G.sp (.lst (s.said.map D.int ++ [.int v]))) { s with said := s.said ++ [v] } := by
  obtain ⟨kvs, hn⟩ := h.named
  obtain ⟨ts, hl⟩ := h.listed
  obtain ⟨w0, hw, hi⟩ := h.ins
  refine ⟨⟨h.ok.c0, h.ok.c1, h.ok.w0, h.ok.w1, h.ok.br, h.ok.tr, h.ok.tl, ?_, h.ok.mm⟩, ⟨w0, hw, by rw [updc_ne h.gs]; exact hi⟩, ⟨kvs, hn.frame rfl (updc_ne h.ns)⟩, ⟨ts, hl.frame rfl (updc_ne h.ls) fun t m => updc_ne (hl.at_ t m).2.2.2⟩, ?_, ?_⟩
  · show ((s.said ++ [v]).length : Int) ≤ s.counted
    rw [List.length_append, List.length_singleton]; push_cast; omega
  · rw [updc_same]
    show _ = some (Cell.lst ((s.said ++ [v]).map D.int))
    rw [List.map_append]; rfl
  · rw [updc_ne h.bs]; exact h.bodies
end
theorem tb_val {ts : Tbs} {x : Str} : valD (ts.map tbK) (.inr x) = ((ts.find? fun t => decide (t.1 = x)).map fun t => .ref t.2) := by
  unfold valD
  induction ts with
  | nil => rfl
  | cons t r ih =>
    rw [List.map_cons, List.find?_cons, List.find?_cons]
    by_cases e : t.1 = x
    · subst e
      simp [tbK]
    · have e2 : ¬ (tbK t).1 = .inr x := fun z => e (Sum.inr.inj z)
      rw [decide_eq_false e, decide_eq_false e2]
      exact ih
theorem tb_find {ts : Tbs} {x : Str} : (∃ t ∈ ts, t.1 = x ∧ valD (ts.map tbK) (.inr x) = some (.ref t.2)) ∨ (x ∉ ts.map (·.1) ∧ valD (ts.map tbK) (.inr x) = none) := by
  rw [tb_val]
  cases e : ts.find? fun t => decide (t.1 = x) with
  | none =>
    right
    refine ⟨fun z => ?_, rfl⟩
    obtain ⟨t, ht, e2⟩ := List.mem_map.mp z
    have := List.find?_eq_none.mp e t ht
    simp [e2] at this
  | some t =>
    left
    exact ⟨t, List.mem_of_find?_eq_some e, by simpa using List.find?_some e, rfl⟩
theorem nodup_at {α β : Type} {f : α → β} : ∀ {xs : List α}, (xs.map f).Nodup → ∀ a ∈ xs, ∀ b ∈ xs, f a = f b → a = b
  | [], _, a, ha, _, _, _ => by cases ha
  | x :: r, h, a, ha, b, hb, e => by
    rw [List.map_cons, List.nodup_cons] at h
    obtain ⟨h1, h2⟩ := h
    rcases List.mem_cons.mp ha with ea | ha
    · rcases List.mem_cons.mp hb with eb | hb
      · rw [ea, eb]
      · exact absurd (List.mem_map.mpr ⟨b, hb, by rw [← e, ea]⟩) h1
    · rcases List.mem_cons.mp hb with eb | hb
      · exact absurd (List.mem_map.mpr ⟨a, ha, by rw [e, eb]⟩) h1
      · exact nodup_at h2 a ha b hb e
section
variable {K : PySem.W.Frag} {M : Int} {G : GoC} {c : CMap} {s : GoSt}
/-- the list of a table is another one -/
theorem GoAt.tabSet (h : GoAt K M G c s) {ts : Tbs} (hl : TabAt G c s ts) {t : Str × Addr} (ht : t ∈ ts) {rows : List (Int × Int)} (hr : ∀ p ∈ rows, (0 ≤ p.1 ∧ p.1 < 1000) ∧ 0 ≤ p.2 ∧ p.2 < 1000) (hlen : (rows.length : Int) ≤ M + s.counted) : GoAt K M G (updc c t.2 (.lst (rows.map prD))) { s with tab := setF s.tab t.1 rows } ∧ TabAt G (updc c t.2 (.lst (rows.map prD))) { s with tab := setF s.tab t.1 rows } ts := by
  obtain ⟨kvs, hn⟩ := h.named
  obtain ⟨w0, hw, hi⟩ := h.ins
  obtain ⟨t1, t2, t3, t4⟩ := hl.at_ t ht
  have ne : ∀ {b : Addr} {k : Cell}, c b = some k → (∀ es, k ≠ .lst es) → b ≠ t.2 := fun e n => Ne.symm (ne_lst t3 e n)
  have key : TabAt G (updc c t.2 (.lst (rows.map prD))) { s with tab := setF s.tab t.1 rows } ts := by
    refine ⟨by rw [updc_ne (ne hl.l fun _ z => by cases z)]; exact hl.l, hl.nd, hl.na, fun u hu => ?_, fun x hx => ?_⟩
    · obtain ⟨u1, u2, u3, u4⟩ := hl.at_ u hu
      refine ⟨u1, u2, ?_, u4⟩
      show updc c t.2 (.lst (rows.map prD)) u.2 = some (Cell.lst ((setF s.tab t.1 rows u.1).map prD))
      unfold setF
      by_cases e : u.1 = t.1
      · have := nodup_at hl.nd u hu t ht e
        subst this
        rw [if_pos rfl, updc_same]
      · rw [if_neg e, updc_ne (fun z => e (by rw [nodup_at hl.na u hu t ht z]))]
        exact u3
    · show setF s.tab t.1 rows x = []
      unfold setF
      rw [if_neg (fun z => hx (by rw [z]; exact List.mem_map_of_mem ht))]
      exact hl.no x hx
  refine ⟨⟨⟨h.ok.c0, h.ok.c1, h.ok.w0, h.ok.w1, h.ok.br, fun x p hp => ?_, fun x => ?_, h.ok.sl, h.ok.mm⟩, ⟨w0, hw, by rw [updc_ne (ne hi fun _ z => by cases z)]; exact hi⟩, ⟨kvs, hn.frame rfl (updc_ne (ne hn.n fun _ z => by cases z))⟩, ⟨ts, key⟩, ?_, ?_⟩, key⟩
  · have hp2 : p ∈ setF s.tab t.1 rows x := hp
    unfold setF at hp2
    split at hp2
    · exact hr p hp2
    · exact h.ok.tr x p hp2
  · show ((setF s.tab t.1 rows x).length : Int) ≤ M + s.counted
    unfold setF
    split
    · exact hlen
    · exact h.ok.tl x
  · rw [updc_ne (Ne.symm t4)]; exact h.spoken
  · rw [updc_ne (ne h.bodies fun _ z => by cases z)]; exact h.bodies
theorem put_tb {ts : Tbs} {x : Str} {a : Addr} (h : x ∉ ts.map (·.1)) : putKD (ts.map tbK) (.inr x) (.ref a) = (ts ++ [(x, a)]).map tbK := by
  unfold putKD
  rw [if_neg, List.map_append]
  · rfl
  · intro z
    obtain ⟨kv, hkv, e⟩ := List.any_eq_true.mp z
    obtain ⟨t, ht, rfl⟩ := List.mem_map.mp hkv
    have e2 : (tbK t).1 = .inr x := by simpa using e
    exact h (by rw [← Sum.inr.inj e2]; exact List.mem_map_of_mem ht)
/-- a table has a list of its own from now on -/
theorem GoAt.tabNew (h : GoAt K M G c s) (hG : G.ok) {ts : Tbs} (hl : TabAt G c s ts) {x : Str} {a : Addr} (hx : x ∉ ts.map (·.1)) (hu : x ∈ G.U) (ha : c a = none) (hp : G.P a) : GoAt K M G (updc (updc c a (.lst [])) G.l (.dK (putKD (ts.map tbK) (.inr x) (.ref a)))) s ∧ TabAt G (updc (updc c a (.lst [])) G.l (.dK (putKD (ts.map tbK) (.inr x) (.ref a)))) s (ts ++ [(x, a)]) := by
  obtain ⟨kvs, hn⟩ := h.named
  obtain ⟨w0, hw, hi⟩ := h.ins
  have ne : ∀ {b : Addr} {k : Cell}, c b = some k → b ≠ a := fun e => ne_some_none e ha
  have key : TabAt G (updc (updc c a (.lst [])) G.l (.dK (putKD (ts.map tbK) (.inr x) (.ref a)))) s (ts ++ [(x, a)]) := by
    refine ⟨by rw [updc_same, put_tb hx], ?_, ?_, fun t ht => ?_, fun y hy => ?_⟩
    · rw [List.map_append, List.nodup_append]
      refine ⟨hl.nd, by simp, fun u hu2 v hv z => ?_⟩
      simp only [List.map_cons, List.map_nil, List.mem_singleton] at hv
      subst hv; subst z; exact hx hu2
    · rw [List.map_append, List.nodup_append]
      refine ⟨hl.na, by simp, fun u hu v hv z => ?_⟩
      simp only [List.map_cons, List.map_nil, List.mem_singleton] at hv
      subst hv; subst z
      obtain ⟨t, ht, e⟩ := List.mem_map.mp hu
      exact ne (hl.at_ t ht).2.2.1 e
    · rcases List.mem_append.mp ht with z | z
      · obtain ⟨u1, u2, u3, u4⟩ := hl.at_ t z
        exact ⟨u1, u2, by rw [updc_ne (ne_lst u3 hl.l fun _ z => by cases z), updc_ne (ne u3)]; exact u3, u4⟩
      · simp only [List.mem_singleton] at z
        subst z
        exact ⟨hu, hp, by rw [updc_ne (Ne.symm (ne hl.l)), updc_same, hl.no x hx]; rfl, Ne.symm (ne h.spoken)⟩
    · exact hl.no y fun z => hy (by rw [List.map_append]; exact List.mem_append_left _ z)
  refine ⟨⟨h.ok, ⟨w0, hw, by rw [updc_ne h.gl, updc_ne (ne hi)]; exact hi⟩, ⟨kvs, hn.frame rfl (by rw [updc_ne hG.nl, updc_ne (ne hn.n)])⟩, ⟨_, key⟩, ?_, ?_⟩, key⟩
  · rw [updc_ne (Ne.symm h.ls), updc_ne (ne h.spoken)]; exact h.spoken
  · rw [updc_ne (Ne.symm hG.lb), updc_ne (ne h.bodies)]; exact h.bodies
end
theorem put_tb2 {ts : Tbs} {x : Str} {a : Addr} (h : x ∈ ts.map (·.1)) : putKD (ts.map tbK) (.inr x) (.ref a) = (ts.map fun u => if u.1 = x then (x, a) else u).map tbK := by
  unfold putKD
  rw [if_pos, List.map_map, List.map_map]
  · refine List.map_congr_left fun u _ => ?_
    simp only [Function.comp]
    by_cases e : u.1 = x
    · rw [if_pos e, if_pos (by rw [← e]; rfl)]
      simp only [tbK, e]
    · rw [if_neg e, if_neg (show ¬ (tbK u).1 = Sum.inr x from fun z => e (Sum.inr.inj z))]
  · obtain ⟨t, ht, e⟩ := List.mem_map.mp h
    exact List.any_eq_true.mpr ⟨tbK t, List.mem_map_of_mem ht, by simp [tbK, e]⟩
section
variable {K : PySem.W.Frag} {M : Int} {G : GoC} {c : CMap} {s : GoSt}
/-- a table has another list from now on -/
theorem GoAt.tabPut (h : GoAt K M G c s) (hG : G.ok) {ts : Tbs} (hl : TabAt G c s ts) {x : Str} {a : Addr} (hu : x ∈ G.U) (ha : c a = none) (hp : G.P a) {rows : List (Int × Int)} (hr : ∀ p ∈ rows, (0 ≤ p.1 ∧ p.1 < 1000) ∧ 0 ≤ p.2 ∧ p.2 < 1000) (hlen : (rows.length : Int) ≤ M + s.counted) :
    GoAt K M G (updc (updc c a (.lst (rows.map prD))) G.l (.dK (putKD (ts.map tbK) (.inr x) (.ref a)))) { s with tab := setF s.tab x rows } := by
  obtain ⟨kvs, hn⟩ := h.named
  obtain ⟨w0, hw, hi⟩ := h.ins
  have ne : ∀ {b : Addr} {k : Cell}, c b = some k → b ≠ a := fun e => ne_some_none e ha
  have old : ∀ u ∈ ts, updc (updc c a (.lst (rows.map prD))) G.l (.dK (putKD (ts.map tbK) (.inr x) (.ref a))) u.2 = c u.2 := fun u hu => by
    have u3 := (hl.at_ u hu).2.2.1
    rw [updc_ne (ne_lst u3 hl.l fun _ z => by cases z), updc_ne (ne u3)]
  have new : updc (updc c a (.lst (rows.map prD))) G.l (.dK (putKD (ts.map tbK) (.inr x) (.ref a))) a = some (.lst (rows.map prD)) := by
    rw [updc_ne (Ne.symm (ne hl.l)), updc_same]
  have key : ∃ ts', TabAt G (updc (updc c a (.lst (rows.map prD))) G.l (.dK (putKD (ts.map tbK) (.inr x) (.ref a)))) { s with tab := setF s.tab x rows } ts' := by
    by_cases hx : x ∈ ts.map (·.1)
    · refine ⟨ts.map fun u => if u.1 = x then (x, a) else u, by rw [updc_same, put_tb2 hx], ?_, ?_, fun t ht => ?_, fun y hy => ?_⟩
      · have e : (ts.map fun u => if u.1 = x then (x, a) else u).map (·.1) = ts.map (·.1) := by
          rw [List.map_map]
          refine List.map_congr_left fun u _ => ?_
          simp only [Function.comp]
          split
          · rename_i z; exact z.symm
          · rfl
        rw [e]
        exact hl.nd
      · rw [List.map_map]
        unfold List.Nodup
        rw [List.pairwise_map]
        have hnd := hl.nd
        have hna := hl.na
        unfold List.Nodup at hnd hna
        rw [List.pairwise_map] at hnd hna
        refine List.Pairwise.imp_of_mem (fun {u v} hu hv e => ?_) (hnd.and hna)
        simp only [Function.comp]
        split
        · split
          · rename_i z1 z2
            exact absurd (z1.trans z2.symm) e.1
          · exact Ne.symm (ne (hl.at_ v hv).2.2.1)
        · split
          · exact ne (hl.at_ u hu).2.2.1
          · exact e.2
      · obtain ⟨u, hu2, rfl⟩ := List.mem_map.mp ht
        obtain ⟨u1, u2, u3, u4⟩ := hl.at_ u hu2
        split
        · rename_i z
          refine ⟨hu, hp, ?_, Ne.symm (ne h.spoken)⟩
          rw [new]
          show _ = some (Cell.lst ((setF s.tab x rows x).map prD))
          unfold setF
          rw [if_pos rfl]
        · rename_i z
          refine ⟨u1, u2, ?_, u4⟩
          rw [old u hu2]
          show _ = some (Cell.lst ((setF s.tab x rows u.1).map prD))
          unfold setF
          rw [if_neg z]
          exact u3
      · show setF s.tab x rows y = []
        have hy2 : y ∉ ts.map (·.1) := fun z => hy (by
          rw [List.map_map]
          obtain ⟨u, hu3, e⟩ := List.mem_map.mp z
          refine List.mem_map.mpr ⟨u, hu3, ?_⟩
          simp only [Function.comp]
          split
          · rename_i z2; exact z2.symm.trans e
          · exact e)
        unfold setF
        rw [if_neg (fun z => hy2 (by rw [z]; exact hx))]
        exact hl.no y hy2
    · refine ⟨ts ++ [(x, a)], by rw [updc_same, put_tb hx], ?_, ?_, fun t ht => ?_, fun y hy => ?_⟩
      · rw [List.map_append, List.nodup_append]
        refine ⟨hl.nd, by simp, fun u hu2 v hv z => ?_⟩
        simp only [List.map_cons, List.map_nil, List.mem_singleton] at hv
        subst hv; subst z; exact hx hu2
      · rw [List.map_append, List.nodup_append]
        refine ⟨hl.na, by simp, fun u hu v hv z => ?_⟩
        simp only [List.map_cons, List.map_nil, List.mem_singleton] at hv
        subst hv; subst z
        obtain ⟨t, ht, e⟩ := List.mem_map.mp hu
        exact ne (hl.at_ t ht).2.2.1 e
      · rcases List.mem_append.mp ht with z | z
        · obtain ⟨u1, u2, u3, u4⟩ := hl.at_ t z
          refine ⟨u1, u2, ?_, u4⟩
          rw [old t z]
          show _ = some (Cell.lst ((setF s.tab x rows t.1).map prD))
          unfold setF
          rw [if_neg (fun z2 => hx (by rw [← z2]; exact List.mem_map_of_mem z))]
          exact u3
        · simp only [List.mem_singleton] at z
          subst z
          refine ⟨hu, hp, ?_, Ne.symm (ne h.spoken)⟩
          rw [new]
          show _ = some (Cell.lst ((setF s.tab x rows x).map prD))
          unfold setF
          rw [if_pos rfl]
      · show setF s.tab x rows y = []
        unfold setF
        rw [if_neg (fun z => hy (by rw [z]; simp))]
        exact hl.no y fun z => hy (by rw [List.map_append]; exact List.mem_append_left _ z)
  refine ⟨⟨h.ok.c0, h.ok.c1, h.ok.w0, h.ok.w1, h.ok.br, fun y p hp2 => ?_, fun y => ?_, h.ok.sl, h.ok.mm⟩, ⟨w0, hw, by rw [updc_ne h.gl, updc_ne (ne hi)]; exact hi⟩, ⟨kvs, hn.frame rfl (by rw [updc_ne hG.nl, updc_ne (ne hn.n)])⟩, key, ?_, ?_⟩
  · have hp3 : p ∈ setF s.tab x rows y := hp2
    unfold setF at hp3
    split at hp3
    · exact hr p hp3
    · exact h.ok.tr y p hp3
  · show ((setF s.tab x rows y).length : Int) ≤ M + s.counted
    unfold setF
    split
    · exact hlen
    · exact h.ok.tl y
  · rw [updc_ne (Ne.symm h.ls), updc_ne (ne h.spoken)]; exact h.spoken
  · rw [updc_ne (Ne.symm hG.lb), updc_ne (ne h.bodies)]; exact h.bodies
end
/-! the run's deeds -/
theorem fl_named {G : GoC} {s : GoSt} {w : Int} : (flds G s w).lookup ("named" : Str) = some (.ref G.n) := by rfl
theorem fl_listed {G : GoC} {s : GoSt} {w : Int} : (flds G s w).lookup ("listed" : Str) = some (.ref G.l) := by rfl
theorem fl_spoken {G : GoC} {s : GoSt} {w : Int} : (flds G s w).lookup ("spoken" : Str) = some (.ref G.sp) := by rfl
theorem fl_ended {G : GoC} {s : GoSt} {w : Int} : (flds G s w).lookup ("ended" : Str) = some (.int s.ended) := by rfl
theorem fl_counted {G : GoC} {s : GoSt} {w : Int} : (flds G s w).lookup ("counted" : Str) = some (.int s.counted) := by rfl
theorem fl_within {G : GoC} {s : GoSt} {w : Int} : (flds G s w).lookup ("within" : Str) = some (.int w) := by rfl
theorem fl_bodies {G : GoC} {s : GoSt} {w : Int} : (flds G s w).lookup ("bodies" : Str) = some (.ref G.b) := by rfl
theorem pf_ended {G : GoC} {s : GoSt} {w e : Int} : putFD ("ended" : Str) (.int e) (flds G s w) = flds G { s with ended := e } w := by rfl
theorem pf_counted {G : GoC} {s : GoSt} {w e : Int} : putFD ("counted" : Str) (.int e) (flds G s w) = flds G { s with counted := e } w := by rfl
theorem pf_within {G : GoC} {s : GoSt} {w e : Int} : putFD ("within" : Str) (.int e) (flds G s w) = flds G s e := by rfl
/-- what lies outside stays -/
abbrev Kept (G : GoC) (c c' : CMap) : Prop := ∀ a, ¬ G.P a → c' a = c a
abbrev Fresh (G : GoC) (c : CMap) : Prop := ∀ a, c a = none → G.P a
theorem Kept.fresh {G : GoC} {c c' : CMap} (h : Kept G c c') (f : Fresh G c) : Fresh G c' := fun a e => by
  refine Classical.byContradiction fun n => ?_
  rw [h a n] at e
  exact n (f a e)
theorem Kept.trans {G : GoC} {a b c : CMap} (h : Kept G a b) (k : Kept G b c) : Kept G a c := fun x n => (k x n).trans (h x n)
theorem Kept.rfl' {G : GoC} {c : CMap} : Kept G c c := fun _ _ => rfl
theorem Kept.upd {G : GoC} {c c' : CMap} {p : Addr} {k : Cell} (h : Kept G c c') (hp : G.P p) : Kept G c (updc c' p k) := fun x n => by
  rw [updc_ne (fun z => n (by rw [z]; exact hp))]
  exact h x n
def GoSt.cnt (s : GoSt) : GoSt := { s with counted := s.counted + 1 }
def GoSt.end_ (s : GoSt) (e : Int) : GoSt := { s with ended := e }
theorem GoOk.cnt {M : Int} {s : GoSt} (h : GoOk M s) (n : s.counted ≠ 300) : GoOk M s.cnt :=
  ⟨by have := h.c0; show 0 ≤ s.counted + 1; omega, by have := h.c1; show s.counted + 1 ≤ 300; omega, h.w0, h.w1, h.br, h.tr, fun x => by have := h.tl x; show ((s.tab x).length : Int) ≤ M + (s.counted + 1); omega, by have := h.sl; show (s.said.length : Int) ≤ s.counted + 1; omega, h.mm⟩
theorem GoOk.end_ {M : Int} {s : GoSt} (h : GoOk M s) (e : Int) : GoOk M (s.end_ e) := ⟨h.c0, h.c1, h.w0, h.w1, h.br, h.tr, h.tl, h.sl, h.mm⟩
theorem GoOk.setw {M : Int} {s : GoSt} (h : GoOk M s) {w : Int} (h0 : 0 ≤ w) (h1 : w ≤ 20) : GoOk M { s with within := w } := ⟨h.c0, h.c1, h0, h1, h.br, h.tr, h.tl, h.sl, h.mm⟩
def sp_come_to (K : PySem.W.Frag) : DSpec := fun ds c E Q => ∃ (M : Int) (G : GoC) (s : GoSt), ds = [.ref G.g] ∧ GoAt K M G c s ∧ G.ok ∧
  (s.counted = 300 → ∀ c', GoAt K M G c' (s.end_ 2) → Kept G c c' → Q (.bl false) c') ∧ (s.counted ≠ 300 → ∀ c', GoAt K M G c' s.cnt → Kept G c c' → Q (.bl true) c')
theorem ok_come_to {K : PySem.W.Frag} {ds c E Q} (h : sp_come_to K ds c E Q) : b_come_to K (endD E Q) (startE 1 ds) c := by
  obtain ⟨M, G, s, rfl, hg, hG, q1, q2⟩ := h
  obtain ⟨w, hw, hi⟩ := hg.ins
  unfold b_come_to
  walk_at "go"
  refine ⟨_, _, _, rfl, hi, fl_counted, ?_⟩
  walk_at "go"
  refine ite_fd (fun h => ?_) (fun h => ?_)
  · walk_at "go"
    refine ⟨_, _, rfl, hi, (show 7 < 900 from by decide), ?_⟩
    rw [pf_ended]
    walk_at "go"
    exact ⟨_, SubC.rfl', q1 h _ (hg.fld (s' := s.end_ 2) (hg.ok.end_ 2) rfl rfl rfl fun z => by cases z) (Kept.rfl'.upd hG.pg)⟩
  · walk_at "go"
    refine ⟨_, _, _, rfl, hi, fl_counted, ?_⟩
    walk_at "go"
    refine ⟨_, _, rfl, hi, (show 7 < 900 from by decide), ?_⟩
    rw [pf_counted]
    walk_at "go"
    exact ⟨_, SubC.rfl', q2 h _ (hg.fld (s' := s.cnt) (hg.ok.cnt h) rfl rfl rfl hw) (Kept.rfl'.upd hG.pg)⟩
mutual
/-- the row's names may be written, its parts are there -/
def Rw.ok (U ps : List Str) : Rw → Prop
  | .let_ x s => x ∈ U ∧ s.ok
  | .say s => s.ok
  | .add x s t => x ∈ U ∧ s.ok ∧ t.ok
  | .drop x s => x ∈ U ∧ s.ok
  | .count x y => x ∈ U ∧ SOk 40 y
  | .do_ x => x ∈ ps
  | .stop => True
  | .each t a b rs => SOk 40 t ∧ a ∈ U ∧ b ∈ U ∧ Rs.ok U ps rs
  | .whl g a b rs => (g = "<" ∨ g = "=") ∧ a.ok ∧ b.ok ∧ Rs.ok U ps rs
  | .ifr g a b rs es => (g = "<" ∨ g = "=") ∧ a.ok ∧ b.ok ∧ Rs.ok U ps rs ∧ Rs.ok U ps es
def Rs.ok (U ps : List Str) : Rs → Prop
  | .nil => True
  | .cons r rs => Rw.ok U ps r ∧ Rs.ok U ps rs
end
theorem Rs.app_ok {U ps : List Str} : ∀ (rs : Rs) (r : Rw), rs.ok U ps → r.ok U ps → (rs.app r).ok U ps
  | .nil, r, _, h => by simp only [Rs.app, Rs.ok]; exact ⟨h, trivial⟩
  | .cons q rs, r, h1, h => by simp only [Rs.app, Rs.ok] at h1 ⊢; exact ⟨h1.1, Rs.app_ok rs r h1.2 h⟩
/-- what the whole run may rest on -/
structure GoC.run (G : GoC) : Prop where
  ok : G.ok
  bd : ∀ x ∈ G.parts.map (·.1), (bodF G.parts x).ok G.U (G.parts.map (·.1)) ∧ (bodF G.parts x).deep ≤ 4
def lvl (w : Int) : Int := (20 - w) * 10
theorem lvl_next {w : Int} (h : w < 20) : lvl (w + 1) + 10 = lvl w := by unfold lvl; omega
/-- a counted row's deed -/
def spRow (K : PySem.W.Frag) (ok : Rw → Prop) (lv : Rw → GoSt → Prop) : DSpec := fun ds c E Q => ∃ (M : Int) (G : GoC) (s : GoSt) (r : Rw), ds = [.ref G.g, r.d] ∧ GoAt K M G c s ∧ G.run ∧ Fresh G c ∧ s.ended = 0 ∧ (s.said.length : Int) + 1 ≤ s.counted ∧ (∀ x, ((s.tab x).length : Int) + 1 ≤ M + s.counted) ∧ r.ok G.U (G.parts.map (·.1)) ∧ ok r ∧ lv r s ∧
  ∀ c' s', Does (bodF G.parts) r s s' → GoAt K M G c' s' → Kept G c c' → Q .non c'
abbrev noLv : Rw → GoSt → Prop := fun _ _ => True
abbrev rwLv (n : Nat) : Rw → GoSt → Prop := fun r s => 2 * (r.deep : Int) + 1 + lvl s.within ≤ (n : Int)
theorem Does.now {B : Bod} {r : Rw} {s s' : GoSt} (h : ∀ K, doRow B K s r = (K, s')) : Does B r s s' := fun K => ⟨K, by rw [h K]; exact .refl _, fun _ => rfl⟩
/-- a side's number, by the run's boxes -/
theorem num_i {n : Nat} {M : Int} {K : PySem.W.Frag} {G : GoC} {c : CMap} {s : GoSt} {E : XD} {Q : DK} (hg : GoAt K M G c s) {a : Sd} (ha : a.ok) (q : Q (.int (a.valF s.box)) c) : sp_number_of (n + 2) [a.d, .ref G.n] c E Q := by
  obtain ⟨kvs, hn⟩ := hg.named
  refine ⟨_, _, rfl, kvs, hn.n, hn.num, .inr ⟨a, rfl, ha, by omega, ?_⟩⟩
  rw [Sd.val_F hn.val]
  exact q
def sp_is_so : DSpec := fun ds c E Q => ∃ (K : PySem.W.Frag) (M : Int) (G : GoC) (s : GoSt) (w g : Str) (a b : Sd) (more : List D), ds = [.tup (.str w :: .str g :: a.d :: b.d :: more), .ref G.n] ∧ GoAt K M G c s ∧ (g = "<" ∨ g = "=") ∧ a.ok ∧ b.ok ∧ Q (.bl (soF g a b s.box)) c
theorem at2 {α : Type} (x y z : α) (xs : List α) : atI (x :: y :: z :: xs) 2 = some z := atI_nat (j := 2) rfl
theorem at3 {α : Type} (x y z w : α) (xs : List α) : atI (x :: y :: z :: w :: xs) 3 = some w := atI_nat (j := 3) rfl
theorem at4 {α : Type} (x y z w v : α) (xs : List α) : atI (x :: y :: z :: w :: v :: xs) 4 = some v := atI_nat (j := 4) rfl
theorem at5 {α : Type} (x y z w v u : α) (xs : List α) : atI (x :: y :: z :: w :: v :: u :: xs) 5 = some u := atI_nat (j := 5) rfl
theorem ok_is_so {ds c E Q} (h : sp_is_so ds c E Q) : b_is_so (sp_number_of 4) (endD E Q) (startE 4 ds) c := by
  obtain ⟨K, M, G, s, w, g, a, b, more, rfl, hg, hgs, ha, hb, q⟩ := h
  unfold b_is_so
  walk_at "go"
  refine ix_t (at2 _ _ _ _) ?_
  walk_at "go"
  refine num_i hg ha ?_
  walk_at "go"
  refine ix_t (at3 _ _ _ _ _) ?_
  walk_at "go"
  refine num_i hg hb ?_
  walk_at "go"
  unfold soF at q
  rcases hgs with rfl | rfl
  · rw [if_pos rfl] at q
    walk_at "el"
    walk_at "go"
    exact ⟨_, SubC.rfl', q⟩
  · rw [if_neg (by decide +kernel)] at q
    walk_at "el"
    walk_at "go"
    exact ⟨_, SubC.rfl', by simpa using q⟩
def isLet : Rw → Prop | .let_ _ _ => True | _ => False
def isSay : Rw → Prop | .say _ => True | _ => False
def isAdd : Rw → Prop | .add _ _ _ => True | _ => False
def isDrop : Rw → Prop | .drop _ _ => True | _ => False
def isCount : Rw → Prop | .count _ _ => True | _ => False
def isDo : Rw → Prop | .do_ _ => True | _ => False
def isStop : Rw → Prop | .stop => True | _ => False
def isIf : Rw → Prop | .ifr _ _ _ _ _ => True | _ => False
def isEach : Rw → Prop | .each _ _ _ _ => True | _ => False
abbrev sp_do_let (K : PySem.W.Frag) : DSpec := spRow K isLet noLv
theorem ok_do_let {K : PySem.W.Frag} {ds c E Q} (h : sp_do_let K ds c E Q) : b_do_let K (sp_number_of 4) (endD E Q) (startE 2 ds) c := by
  obtain ⟨M, G, s, r, rfl, hg, hG, hf, he, h1, h2, hr, hk, hlv, q⟩ := h
  cases r <;> try exact hk.elim
  rename_i x a
  obtain ⟨hx, ha⟩ := hr
  obtain ⟨w, hw, hi⟩ := hg.ins
  obtain ⟨kvs, hn⟩ := hg.named
  have hl := hn.key.len
  have ul := hG.ok.ul
  unfold b_do_let
  simp only [Rw.d]
  walk_at "go"
  refine ⟨_, _, _, rfl, hi, fl_named, ?_⟩
  walk_at "go"
  refine num_i hg ha ?_
  walk_at "go"
  refine ⟨_, _, _, rfl, hi, fl_named, ?_⟩
  walk_at "go"
  refine set_dK hn.n rfl (len_lt (by omega)) ?_
  have hv := Sd.valF_rng hg.ok.br ha
  exact ⟨_, SubC.rfl', q _ _ (.now fun K => rfl) (hg.put hG.ok hn hx hv.1 hv.2).1 (Kept.rfl'.upd hG.ok.pn)⟩
abbrev sp_do_say (K : PySem.W.Frag) : DSpec := spRow K isSay noLv
theorem ok_do_say {K : PySem.W.Frag} {ds c E Q} (h : sp_do_say K ds c E Q) : b_do_say K (sp_number_of 4) (endD E Q) (startE 2 ds) c := by
  obtain ⟨M, G, s, r, rfl, hg, hG, hf, he, h1, h2, hr, hk, hlv, q⟩ := h
  cases r <;> try exact hk.elim
  rename_i a
  obtain ⟨w, hw, hi⟩ := hg.ins
  have hc1 := hg.ok.c1
  unfold b_do_say
  simp only [Rw.d]
  walk_at "go"
  refine ⟨_, _, _, rfl, hi, fl_spoken, ?_⟩
  walk_at "go"
  refine ⟨ty_c hg.spoken, ?_⟩
  walk_at "go"
  refine ⟨_, _, _, rfl, hi, fl_named, ?_⟩
  walk_at "go"
  refine num_i hg hr ?_
  walk_at "go"
  refine app_c hg.spoken (len_lt (by rw [List.length_map]; omega)) ?_
  exact ⟨_, SubC.rfl', q _ _ (.now fun K => rfl) (hg.say h1) (Kept.rfl'.upd hG.ok.ps)⟩
theorem prs_len (l : List (Int × Int)) : (l.map prD).length = l.length := List.length_map _
abbrev sp_do_add (K : PySem.W.Frag) : DSpec := spRow K isAdd noLv
theorem ok_do_add {K : PySem.W.Frag} {ds c E Q} (h : sp_do_add K ds c E Q) : b_do_add K (sp_number_of 4) (endD E Q) (startE 3 ds) c := by
  obtain ⟨M, G, s, r, rfl, hg, hG, hf, he, h1, h2, hr, hk, hlv, q⟩ := h
  cases r <;> try exact hk.elim
  rename_i x a b
  obtain ⟨hx, ha, hb⟩ := hr
  obtain ⟨w, hw, hi⟩ := hg.ins
  obtain ⟨ts, hl⟩ := hg.listed
  have hxl := h2 x
  have hmm := hg.ok.mm
  have hc1 := hg.ok.c1
  have ra := Sd.valF_rng hg.ok.br ha
  have rb := Sd.valF_rng hg.ok.br hb
  have tsl : ts.length ≤ 60 := by
    have := nodup_le (l := ts.map (·.1)) (m := G.U) hl.nd fun y hy => by
      obtain ⟨t, ht, rfl⟩ := List.mem_map.mp hy
      exact (hl.at_ t ht).1
    rw [List.length_map] at this
    have := hG.ok.ul
    omega
  have rows : ∀ p ∈ s.tab x ++ [(a.valF s.box, b.valF s.box)], (0 ≤ p.1 ∧ p.1 < 1000) ∧ 0 ≤ p.2 ∧ p.2 < 1000 := fun p hp => by
    rcases List.mem_append.mp hp with z | z
    · exact hg.ok.tr x p z
    · simp only [List.mem_singleton] at z; subst z; exact ⟨ra, rb⟩
  have len : ((s.tab x ++ [(a.valF s.box, b.valF s.box)]).length : Int) ≤ M + s.counted := by
    rw [List.length_append, List.length_singleton]; push_cast; omega
  have qq : ∀ c', GoAt K M G c' { s with tab := setF s.tab x (s.tab x ++ [(a.valF s.box, b.valF s.box)]) } → Kept G c c' → Q .non c' := fun c' h1 h2 => q c' _ (.now fun K => rfl) h1 h2
  unfold b_do_add
  simp only [Rw.d]
  walk_at "go"
  refine ⟨_, _, _, rfl, hi, fl_named, ?_⟩
  walk_at "go"
  refine num_i hg ha ?_
  walk_at "go"
  refine ⟨_, _, _, rfl, hi, fl_named, ?_⟩
  walk_at "go"
  refine num_i hg hb ?_
  generalize a.valF s.box = va at *
  generalize b.valF s.box = vb at *
  walk_at "go"
  refine wSetDef_i ?_
  walk_at "go"
  refine ⟨_, _, _, rfl, hi, fl_listed, ?_⟩
  refine ⟨_, rfl, ⟨_, hl.l⟩, ?_⟩
  walk_at "go"
  refine newL_t fun A hA => ?_
  have gA : G.l ≠ A := ne_some_none hl.l hA
  refine ⟨_, _, (by rw [updc_ne gA]; exact hl.l), rfl, len_lt (by rw [List.length_map]; omega), fun v hv => ?_, fun hv => ?_⟩
  · rcases tb_find (ts := ts) (x := x) with ⟨t, ht, rfl, e⟩ | ⟨hx, e⟩
    · rw [e] at hv
      cases hv
      have ht3 := (hl.at_ t ht).2.2.1
      have tA : t.2 ≠ A := ne_some_none ht3 hA
      have ht4 : updc c A (.lst []) t.2 = some (.lst ((s.tab t.1).map prD)) := by rw [updc_ne tA]; exact ht3
      refine ⟨ty_c ht4, ?_⟩
      walk_at "go"
      refine app_c ht4 (len_lt (by rw [List.length_map]; omega)) ?_
      rw [show (s.tab t.1).map prD ++ [D.tup [.int va, .int vb]] = (s.tab t.1 ++ [(va, vb)]).map prD from by rw [List.map_append]; rfl]
      exact ⟨_, (SubC.new hA).upd, qq _ (hg.tabSet hl ht rows len).1 (Kept.rfl'.upd (hl.at_ t ht).2.1)⟩
    · rw [e] at hv; cases hv
  · rcases tb_find (ts := ts) (x := x) with ⟨t, ht, rfl, e⟩ | ⟨hx2, e⟩
    · rw [e] at hv; cases hv
    · obtain ⟨g1, g2⟩ := hg.tabNew hG.ok hl hx2 hx hA (hf A hA)
      have hA2 := (g2.at_ (x, A) (by simp)).2.2.1
      refine ⟨ty_c hA2, ?_⟩
      walk_at "go"
      refine app_c hA2 (len_lt (by rw [List.length_map]; show (s.tab x).length < _; omega)) ?_
      rw [show (s.tab (x, A).1).map prD ++ [D.tup [.int va, .int vb]] = (s.tab x ++ [(va, vb)]).map prD from by rw [List.map_append]; rfl]
      exact ⟨_, SubC.rfl', qq _ (g1.tabSet g2 (t := (x, A)) (by simp) rows len).1 (((Kept.rfl'.upd (hf A hA)).upd hG.ok.pl).upd (hf A hA))⟩
theorem get2_i {c : CMap} {p : Addr} {kvs : KV} {Q : Prop} (h : c p = some (.dK kvs)) (q : Q) : ∃ p', D.ref p = .ref p' ∧ ((∃ kvs, c p' = some (.dK kvs)) ∨ ∃ kvs, c p' = some (.dT kvs)) ∧ Q := ⟨p, rfl, .inl ⟨kvs, h⟩, q⟩
abbrev sp_do_drop (K : PySem.W.Frag) : DSpec := spRow K isDrop noLv
theorem ok_do_drop {K : PySem.W.Frag} {ds c E Q} (h : sp_do_drop K ds c E Q) : b_do_drop K (sp_number_of 4) (endD E Q) (startE 5 ds) c := by
  obtain ⟨M, G, s, r, rfl, hg, hG, hf, he, h1, h2, hr, hk, hlv, q⟩ := h
  cases r <;> try exact hk.elim
  rename_i x a
  obtain ⟨hx, ha⟩ := hr
  obtain ⟨w, hw, hi⟩ := hg.ins
  obtain ⟨ts, hl⟩ := hg.listed
  have hxl := hg.ok.tl x
  have hmm := hg.ok.mm
  have hc1 := hg.ok.c1
  have tsl : ts.length ≤ 60 := by
    have := nodup_le (l := ts.map (·.1)) (m := G.U) hl.nd fun y hy => by
      obtain ⟨t, ht, rfl⟩ := List.mem_map.mp hy
      exact (hl.at_ t ht).1
    rw [List.length_map] at this
    have := hG.ok.ul
    omega
  have qq : ∀ c', GoAt K M G c' { s with tab := setF s.tab x ((s.tab x).filter fun p => decide (p.1 ≠ a.valF s.box)) } → Kept G c c' → Q .non c' := fun c' h1 h2 => q c' _ (.now fun K => rfl) h1 h2
  unfold b_do_drop
  simp only [Rw.d]
  walk_at "go"
  refine ⟨_, _, _, rfl, hi, fl_named, ?_⟩
  walk_at "go"
  refine num_i hg ha ?_
  generalize a.valF s.box = va at *
  walk_at "go"
  refine ⟨_, _, _, rfl, hi, fl_listed, ?_⟩
  refine ⟨_, rfl, .inl ⟨_, hl.l⟩, ?_⟩
  walk_at "go"
  refine dA_K hl.l rfl ?_
  have rows : ∀ p ∈ (s.tab x).filter (fun p => decide (p.1 ≠ va)), (0 ≤ p.1 ∧ p.1 < 1000) ∧ 0 ≤ p.2 ∧ p.2 < 1000 := fun p hp => hg.ok.tr x p (List.mem_filter.mp hp).1
  have len : (((s.tab x).filter fun p => decide (p.1 ≠ va)).length : Int) ≤ M + s.counted := by
    have := List.length_filter_le (fun p => decide (p.1 ≠ va)) (s.tab x)
    omega
  have qs : ∀ A, c A = none → ∀ env, (endD E Q).nx env (updc (updc c A (.lst (((s.tab x).filter fun p => decide (p.1 ≠ va)).map prD))) G.l (.dK (putKD (ts.map tbK) (.inr x) (.ref A)))) := fun A hA env =>
    ⟨_, SubC.rfl', qq _ (hg.tabPut hG.ok hl hx hA (hf A hA) rows len) ((Kept.rfl'.upd (hf A hA)).upd hG.ok.pl)⟩
  have set : ∀ A, c A = none → ∀ N : CMap → Prop, (∀ c4, (∀ env, (endD E Q).nx env c4) → N c4) → setR (updc c A (.lst (((s.tab x).filter fun p => decide (p.1 ≠ va)).map prD))) (.ref G.l) (.str x) (.ref A) N := fun A hA N hN =>
    set_dK (by rw [updc_ne (ne_some_none hl.l hA)]; exact hl.l) rfl (len_lt (by rw [List.length_map]; omega)) (hN _ (qs A hA))
  have ins : ∀ A : Addr, c A = none → updc c A (.lst (((s.tab x).filter fun p => decide (p.1 ≠ va)).map prD)) G.g = some (.ins (He.ga K "Going") (flds G s w)) := fun A hA => by rw [updc_ne (ne_some_none hi hA)]; exact hi
  rcases tb_find (ts := ts) (x := x) with ⟨t, ht, rfl, e⟩ | ⟨hx2, e⟩
  · rw [e]
    have ht3 := (hl.at_ t ht).2.2.1
    walk_at "go"
    refine itC ht3 ?_
    intro A hA
    have tA : t.2 ≠ A := ne_some_none ht3 hA
    refine comp_mapG (fun p : Int × Int => if p.1 ≠ va then some (prD p) else none) hA (by omega) (fun k => by rw [updc_ne tA]; exact ht3) ?_ ?_
    · intro p c2 K hp hc hK
      simp only [prD]
      walk_at "go"
      refine ite_td (fun h => ?_) (fun h => ?_)
      · rw [if_pos h] at hK
        walk_at "go"
        exact hK
      · rw [if_neg (fun z => z h)] at hK
        exact hK
    rw [if_pos rfl, fm_if]
    walk_at "go"
    refine ⟨_, _, _, rfl, ins A hA, fl_listed, ?_⟩
    walk_at "go"
    exact set A hA _ fun c4 h => h _
  · rw [e]
    have e0 : s.tab x = [] := hl.no x hx2
    walk_at "go"
    intro A hA
    refine comp_mapG (xs := ([] : List (Int × Int))) (g := prD) (fun p : Int × Int => if p.1 ≠ va then some (prD p) else none) hA (by decide) (fun k => trivial) ?_ ?_
    · intro p c2 K hp hc hK
      cases hp
    rw [if_pos rfl, fm_if, ← e0]
    walk_at "go"
    refine ⟨_, _, _, rfl, ins A hA, fl_listed, ?_⟩
    walk_at "go"
    exact set A hA _ fun c4 h => h _
abbrev sp_do_count (K : PySem.W.Frag) : DSpec := spRow K isCount noLv
theorem ok_do_count {K : PySem.W.Frag} {ds c E Q} (h : sp_do_count K ds c E Q) : b_do_count K (endD E Q) (startE 2 ds) c := by
  obtain ⟨M, G, s, r, rfl, hg, hG, hf, he, h1, h2, hr, hk, hlv, q⟩ := h
  cases r <;> try exact hk.elim
  rename_i x y
  obtain ⟨hx, hy⟩ := hr
  obtain ⟨w, hw, hi⟩ := hg.ins
  obtain ⟨ts, hl⟩ := hg.listed
  obtain ⟨kvs, hn⟩ := hg.named
  have hll := hn.key.len
  have ul := hG.ok.ul
  unfold b_do_count
  simp only [Rw.d]
  walk_at "go"
  refine ⟨_, _, _, rfl, hi, fl_listed, ?_⟩
  walk_at "go"
  refine ⟨_, rfl, .inl ⟨_, hl.l⟩, ?_⟩
  walk_at "go"
  refine dA_K hl.l rfl ?_
  have fin : ∀ env, (endD E Q).nx env (updc c G.n (.dK (putKD kvs (.inr x) (.int (((s.tab y).length : Int) % 1000))))) := fun env => ⟨_, SubC.rfl', q _ _ (.now fun K => rfl) (hg.put hG.ok hn hx (Int.emod_nonneg _ (by decide)) (Int.emod_lt_of_pos _ (by decide))).1 (Kept.rfl'.upd hG.ok.pn)⟩
  rcases tb_find (ts := ts) (x := y) with ⟨t, ht, rfl, e⟩ | ⟨hx2, e⟩
  · rw [e]
    have ht3 := (hl.at_ t ht).2.2.1
    walk_at "go"
    refine len_c ht3 ?_
    rw [List.length_map]
    walk_at "go"
    refine ⟨_, _, _, rfl, hi, fl_named, ?_⟩
    walk_at "go"
    refine set_dK hn.n rfl (len_lt (by omega)) ?_
    exact fin []
  · rw [e]
    have e0 : s.tab y = [] := hl.no y hx2
    rw [e0] at fin
    simp only [Option.getD]
    walk_at "go"
    refine ⟨_, _, _, rfl, hi, fl_named, ?_⟩
    walk_at "go"
    refine set_dK hn.n rfl (len_lt (by omega)) ?_
    exact fin []
abbrev sp_do_stop (K : PySem.W.Frag) : DSpec := spRow K isStop noLv
theorem ok_do_stop {K : PySem.W.Frag} {ds c E Q} (h : sp_do_stop K ds c E Q) : b_do_stop K (endD E Q) (startE 2 ds) c := by
  obtain ⟨M, G, s, r, rfl, hg, hG, hf, he, h1, h2, hr, hk, hlv, q⟩ := h
  cases r <;> try exact hk.elim
  obtain ⟨w, hw, hi⟩ := hg.ins
  unfold b_do_stop
  simp only [Rw.d]
  walk_at "go"
  refine ⟨_, _, rfl, hi, (show 7 < 900 from by decide), ?_⟩
  rw [pf_ended]
  exact ⟨_, SubC.rfl', q _ _ (.now fun K => rfl) (hg.fld (s' := s.end_ 1) (hg.ok.end_ 1) rfl rfl rfl fun z => by cases z) (Kept.rfl'.upd hG.ok.pg)⟩
/-! rows one behind the other -/
def Rs.drop : Nat → Rs → Rs
  | 0, rs => rs
  | _ + 1, .nil => .nil
  | n + 1, .cons _ rs => rs.drop n
theorem Rs.drop_at : ∀ {rs : Rs} {i : Nat} {d : D}, rs.ds[i]? = some d → ∃ r, rs.drop i = .cons r (rs.drop (i + 1)) ∧ d = r.d
  | .nil, i, d, h => by simp [Rs.ds] at h
  | .cons r rs, 0, d, h => by
    simp only [Rs.ds, List.getElem?_cons_zero, Option.some.injEq] at h
    exact ⟨r, rfl, h.symm⟩
  | .cons r rs, i + 1, d, h => by
    simp only [Rs.ds, List.getElem?_cons_succ] at h
    exact Rs.drop_at (rs := rs) h
theorem Rs.drop_end : ∀ {rs : Rs} {n : Nat}, rs.ds.length ≤ n → rs.drop n = .nil
  | .nil, 0, _ => rfl
  | .nil, n + 1, _ => rfl
  | .cons r rs, 0, h => by simp [Rs.ds] at h
  | .cons r rs, n + 1, h => by
    simp only [Rs.ds, List.length_cons] at h
    exact Rs.drop_end (rs := rs) (by omega)
theorem Rs.drop_ok {U ps : List Str} : ∀ {rs : Rs} {i : Nat}, rs.ok U ps → (rs.drop i).ok U ps
  | rs, 0, h => h
  | .nil, i + 1, h => h
  | .cons r rs, i + 1, h => by
    simp only [Rs.ok] at h
    exact Rs.drop_ok (rs := rs) h.2
theorem Rs.drop_deep : ∀ {rs : Rs} {i : Nat}, (rs.drop i).deep ≤ rs.deep
  | rs, 0 => Nat.le_refl _
  | .nil, i + 1 => Nat.le_refl _
  | .cons r rs, i + 1 => by
    have := Rs.drop_deep (rs := rs) (i := i)
    simp only [Rs.deep, Rs.drop]; omega
/-- rows, from where the run is come to -/
def spRows (K : PySem.W.Frag) (n : Nat) : DSpec := fun ds c E Q => ∃ (M : Int) (G : GoC) (s : GoSt) (rs : Rs), ds = [.ref G.g, .lst rs.ds] ∧ GoAt K M G c s ∧ G.run ∧ Fresh G c ∧ rs.ok G.U (G.parts.map (·.1)) ∧ 2 * (rs.deep : Int) + 2 + lvl s.within ≤ (n : Int) ∧
  ∀ c' s', Leads (bodF G.parts) (.rows rs) s s' → GoAt K M G c' s' → Kept G c c' → Q .non c'
/-- a while -/
def spWhile (K : PySem.W.Frag) (n : Nat) : DSpec := fun ds c E Q => ∃ (M : Int) (G : GoC) (s : GoSt) (g : Str) (a b : Sd) (rs : Rs), ds = [.ref G.g, (Rw.whl g a b rs).d] ∧ GoAt K M G c s ∧ G.run ∧ Fresh G c ∧ s.ended = 0 ∧ (Rw.whl g a b rs).ok G.U (G.parts.map (·.1)) ∧ 2 * (rs.deep : Int) + 3 + lvl s.within ≤ (n : Int) ∧
  ∀ c' s', Leads (bodF G.parts) (.whl g a b rs) s s' → GoAt K M G c' s' → Kept G c c' → Q .non c'
def sp_do_rows (K : PySem.W.Frag) : Nat → DSpec
  | 0 => fun _ _ _ _ => False
  | n + 1 => spRows K (n + 1)
def sp_do_while (K : PySem.W.Frag) : Nat → DSpec
  | 0 => fun _ _ _ _ => False
  | n + 1 => spWhile K (n + 1)
def sp_do_if (K : PySem.W.Frag) : Nat → DSpec
  | 0 => fun _ _ _ _ => False
  | n + 1 => spRow K isIf (rwLv (n + 1))
def sp_do_each (K : PySem.W.Frag) : Nat → DSpec
  | 0 => fun _ _ _ _ => False
  | n + 1 => spRow K isEach (rwLv (n + 1))
def sp_do_part (K : PySem.W.Frag) : Nat → DSpec
  | 0 => fun _ _ _ _ => False
  | n + 1 => spRow K isDo (rwLv (n + 1))
theorem void_do_rows {K : PySem.W.Frag} : ∀ ds c E Q, ¬ sp_do_rows K 0 ds c E Q := fun _ _ _ _ h => h
theorem void_do_while {K : PySem.W.Frag} : ∀ ds c E Q, ¬ sp_do_while K 0 ds c E Q := fun _ _ _ _ h => h
theorem void_do_if {K : PySem.W.Frag} : ∀ ds c E Q, ¬ sp_do_if K 0 ds c E Q := fun _ _ _ _ h => h
theorem void_do_each {K : PySem.W.Frag} : ∀ ds c E Q, ¬ sp_do_each K 0 ds c E Q := fun _ _ _ _ h => h
theorem void_do_part {K : PySem.W.Frag} : ∀ ds c E Q, ¬ sp_do_part K 0 ds c E Q := fun _ _ _ _ h => h
theorem lvl_pos {w : Int} (h : w ≤ 20) : 0 ≤ lvl w := by unfold lvl; omega
/-- rows are gone through, if there is room for the call -/
theorem rows_i {K : PySem.W.Frag} {M : Int} {n : Nat} {G : GoC} {c : CMap} {s : GoSt} {rs : Rs} {E : XD} {Q : DK} (hg : GoAt K M G c s) (hG : G.run) (hf : Fresh G c) (hr : rs.ok G.U (G.parts.map (·.1))) (hl : 2 * (rs.deep : Int) + 2 + lvl s.within ≤ (n : Int)) (q : ∀ c' s', Leads (bodF G.parts) (.rows rs) s s' → GoAt K M G c' s' → Kept G c c' → Q .non c') : sp_do_rows K n [.ref G.g, .lst rs.ds] c E Q := by
  cases n with
  | zero =>
    have := lvl_pos hg.ok.w1
    simp at hl
    omega
  | succ n => exact ⟨M, G, s, rs, rfl, hg, hG, hf, hr, hl, q⟩
theorem ok_do_if {K : PySem.W.Frag} {n : Nat} {ds c E Q} (h : sp_do_if K (n + 1) ds c E Q) : b_do_if K sp_is_so (sp_do_rows K n) (endD E Q) (startE 2 ds) c := by
  obtain ⟨M, G, s, r, rfl, hg, hG, hf, he, h1, h2, hr, hk, hlv, q⟩ := h
  cases r <;> try exact hk.elim
  rename_i g a b rs es
  obtain ⟨hgs, ha, hb, hrs, hes⟩ := hr
  obtain ⟨w, hw, hi⟩ := hg.ins
  simp only [rwLv, Rw.deep] at hlv
  push_cast at hlv
  unfold b_do_if
  simp only [Rw.d]
  walk_at "go"
  refine ⟨_, _, _, rfl, hi, fl_named, ?_⟩
  walk_at "go"
  refine ⟨K, M, G, s, "if", g, a, b, _, rfl, hg, hgs, ha, hb, ?_⟩
  walk_at "go"
  cases hso : soF g a b s.box with
  | true =>
    rw [if_pos rfl]
    walk_at "go"
    refine rows_i hg hG hf hrs (by omega) fun c' s' hl hg' hk' => ?_
    walk_at "go"
    refine ⟨_, SubC.rfl', q _ _ (fun K' => ?_) hg' hk'⟩
    have := hl K'
    simp only [doRow, hso, if_true]
    exact this
  | false =>
    rw [if_neg (by decide)]
    walk_at "go"
    refine rows_i hg hG hf hes (by omega) fun c' s' hl hg' hk' => ?_
    walk_at "go"
    refine ⟨_, SubC.rfl', q _ _ (fun K' => ?_) hg' hk'⟩
    have := hl K'
    simp only [doRow, hso]
    exact this
theorem bod_val {ps : List (Str × Rs)} {x : Str} (h : x ∈ ps.map (·.1)) : valD (ps.map bodK) (.inr x) = some (.lst (bodF ps x).ds) := by
  unfold valD bodF
  induction ps with
  | nil => cases h
  | cons p r ih =>
    rw [List.map_cons, List.find?_cons, List.find?_cons]
    by_cases e : p.1 = x
    · subst e
      simp [bodK]
    · have e2 : ¬ (bodK p).1 = .inr x := fun z => e (Sum.inr.inj z)
      rw [decide_eq_false e, decide_eq_false e2]
      refine ih ?_
      rcases List.mem_cons.mp h with z | z
      · exact absurd z.symm e
      · exact z
theorem ok_do_part {K : PySem.W.Frag} {n : Nat} {ds c E Q} (h : sp_do_part K (n + 1) ds c E Q) : b_do_part K (sp_do_rows K n) (endD E Q) (startE 2 ds) c := by
  obtain ⟨M, G, s, r, rfl, hg, hG, hf, he, h1, h2, hr, hk, hlv, q⟩ := h
  cases r <;> try exact hk.elim
  rename_i x
  have hr : x ∈ G.parts.map (·.1) := hr
  obtain ⟨w, hw, hi⟩ := hg.ins
  have hw := hw he
  subst hw
  simp only [rwLv, Rw.deep] at hlv
  obtain ⟨b1, b2⟩ := hG.bd x hr
  have w0 := hg.ok.w0
  have w1 := hg.ok.w1
  unfold b_do_part
  simp only [Rw.d]
  walk_at "go"
  refine ⟨_, _, _, rfl, hi, fl_within, ?_⟩
  walk_at "go"
  refine ite_fd (fun h20 => ?_) (fun h20 => ?_)
  · walk_at "go"
    refine ⟨_, _, rfl, hi, (show 7 < 900 from by decide), ?_⟩
    rw [pf_ended]
    walk_at "go"
    exact ⟨_, SubC.rfl', q _ _ (.now fun K => by simp only [doRow]; rw [if_pos h20]; rfl) (hg.fld (s' := s.end_ 2) (hg.ok.end_ 2) rfl rfl rfl fun z => by cases z) (Kept.rfl'.upd hG.ok.pg)⟩
  · walk_at "go"
    refine ⟨_, _, _, rfl, hi, fl_within, ?_⟩
    walk_at "go"
    refine ⟨_, _, rfl, hi, (show 7 < 900 from by decide), ?_⟩
    rw [pf_within]
    have hw20 : s.within < 20 := by omega
    have hlv2 := lvl_next hw20
    let s1 : GoSt := { s with within := s.within + 1 }
    have g1 : GoAt K M G (updc c G.g (.ins (He.ga K "Going") (flds G s1 (s.within + 1)))) s1 := hg.fld (s' := s1) (hg.ok.setw (by omega) (by omega)) rfl rfl rfl fun _ => rfl
    have k1 : Kept G c (updc c G.g (.ins (He.ga K "Going") (flds G s1 (s.within + 1)))) := Kept.rfl'.upd hG.ok.pg
    walk_at "go"
    refine ⟨_, _, _, rfl, (updc_same : updc c G.g (.ins (He.ga K "Going") (flds G s1 (s.within + 1))) G.g = _), fl_bodies, ?_⟩
    walk_at "go"
    refine ix_dK g1.bodies rfl (bod_val hr) ?_
    walk_at "go"
    refine rows_i g1 hG (k1.fresh hf) b1 (by show 2 * ((bodF G.parts x).deep : Int) + 2 + lvl (s.within + 1) ≤ (n : Int); omega) fun c' s' hl hg' hk' => ?_
    obtain ⟨w', hw', hi'⟩ := hg'.ins
    walk_at "go"
    refine ⟨_, _, _, rfl, hi', fl_within, ?_⟩
    walk_at "go"
    refine ⟨_, _, rfl, hi', (show 7 < 900 from by decide), ?_⟩
    rw [pf_within]
    have hwi : s'.ended = 0 → s'.within = s.within + 1 := fun e => hl.within e rfl
    let s2 : GoSt := if s'.ended = 0 then { s' with within := s'.within - 1 } else s'
    have e2 : s2.ended = s'.ended ∧ s2.counted = s'.counted ∧ s2.box = s'.box ∧ s2.tab = s'.tab ∧ s2.said = s'.said := by
      show (if s'.ended = 0 then _ else _ : GoSt).ended = _ ∧ (if s'.ended = 0 then _ else _ : GoSt).counted = _ ∧ (if s'.ended = 0 then _ else _ : GoSt).box = _ ∧ (if s'.ended = 0 then _ else _ : GoSt).tab = _ ∧ (if s'.ended = 0 then _ else _ : GoSt).said = _
      split <;> exact ⟨rfl, rfl, rfl, rfl, rfl⟩
    have ok2 : GoOk M s2 := by
      show GoOk M (if s'.ended = 0 then { s' with within := s'.within - 1 } else s')
      split
      · rename_i e
        have := hwi e
        exact hg'.ok.setw (by omega) (by omega)
      · exact hg'.ok
    have d2 : Does (bodF G.parts) (.do_ x) s s2 := fun K2 => by
      simp only [doRow]
      rw [if_neg h20]
      refine Gs.then (fr := .part) (s1 := s') (hl (.part :: K2)) fun K3 => ?_
      by_cases e : s'.ended = 0
      · refine ⟨K3, ?_, fun _ => rfl⟩
        have : s2 = { s' with within := s'.within - 1 } := if_pos e
        rw [this]
        exact .one e
      · refine ⟨.part :: K3, ?_, fun z => absurd (e2.1 ▸ z) e⟩
        have : s2 = s' := if_neg e
        rw [this]
        exact .refl _
    have ge : flds G s' (w' - 1) = flds G s2 (w' - 1) := by
      simp only [flds]
      rw [e2.1, e2.2.1]
    rw [ge]
    refine ⟨_, SubC.rfl', q _ s2 d2 (hg'.fld ok2 e2.2.2.1 e2.2.2.2.1 e2.2.2.2.2 fun e => ?_) ((k1.trans hk').upd hG.ok.pg)⟩
    have e3 : s'.ended = 0 := e2.1 ▸ e
    have : s2 = { s' with within := s'.within - 1 } := if_pos e3
    rw [this, hw' e3]
/-! an each, a while, rows -/
theorem goOn_cnt (B : Bod) (K : List Fr) (s : GoSt) (fr : Fr) : s.counted ≤ (goOn B K s fr).2.counted := by
  have row : ∀ (r : Rw) (K : List Fr) (s : GoSt), (doRow B K s r).2.counted = s.counted := by
    intro r K s
    cases r with
    | do_ p => simp only [doRow]; split <;> rfl
    | _ => rfl
  cases fr with
  | rows rs =>
    cases rs with
    | nil => exact Int.le_refl _
    | cons r rs =>
      simp only [goOn]
      split
      · rw [row]; exact Int.le_refl _
      · split
        · exact Int.le_refl _
        · rw [row]; show s.counted ≤ s.counted + 1; omega
  | whl g a b rs =>
    simp only [goOn]
    split
    · exact Int.le_refl _
    · split
      · show s.counted ≤ s.counted + 1; omega
      · show s.counted ≤ s.counted + 1; omega
  | each x y rs l => cases l <;> exact Int.le_refl _
  | part => exact Int.le_refl _
theorem Gs.cnt {B : Bod} {a b : Cf} (h : Gs B a b) : a.2.counted ≤ b.2.counted := by
  induction h with
  | refl a => exact Int.le_refl _
  | step h t ih => exact Int.le_trans (goOn_cnt _ _ _ _) ih
theorem Leads.cnt {B : Bod} {fr : Fr} {s s' : GoSt} (h : Leads B fr s s') : s.counted ≤ s'.counted := by
  obtain ⟨K', h1, _⟩ := h []
  exact h1.cnt
/-- how far a frame is gone through -/
def Pr (B : Bod) (fr0 : Fr) (s s' : GoSt) (fr : Fr) : Prop := ∀ K, ∃ K', Gs B (fr0 :: K, s) (K', s') ∧ (s'.ended = 0 → K' = fr :: K)
theorem Pr.rfl' {B : Bod} {fr : Fr} {s : GoSt} : Pr B fr s s fr := fun K => ⟨_, .refl _, fun _ => rfl⟩
theorem Pr.stop {B : Bod} {fr0 fr fr' : Fr} {s s' : GoSt} (h : Pr B fr0 s s' fr) (e : s'.ended ≠ 0) : Pr B fr0 s s' fr' := fun K => by
  obtain ⟨K', h1, _⟩ := h K
  exact ⟨K', h1, fun z => absurd z e⟩
theorem Pr.end_ {B : Bod} {fr0 fr : Fr} {s s' : GoSt} (h : Pr B fr0 s s' fr) (e : s'.ended ≠ 0) : Leads B fr0 s s' := fun K => by
  obtain ⟨K', h1, _⟩ := h K
  exact ⟨K', h1, fun z => absurd z e⟩
theorem Pr.then {B : Bod} {fr0 fr fr' : Fr} {s s1 s2 : GoSt} (h : Pr B fr0 s s1 fr) (e : s1.ended = 0) (k : ∀ K, ∃ K', Gs B (goOn B K s1 fr) (K', s2) ∧ (s2.ended = 0 → K' = fr' :: K)) : Pr B fr0 s s2 fr' := fun K => by
  obtain ⟨K1, h1, h2⟩ := h K
  rw [h2 e] at h1
  obtain ⟨K2, k1, k2⟩ := k K
  exact ⟨K2, h1.trans (.step e k1), k2⟩
theorem Pr.last {B : Bod} {fr0 fr : Fr} {s s1 s2 : GoSt} (h : Pr B fr0 s s1 fr) (e : s1.ended = 0) (k : ∀ K, goOn B K s1 fr = (K, s2)) : Leads B fr0 s s2 := fun K => by
  obtain ⟨K1, h1, h2⟩ := h K
  rw [h2 e] at h1
  exact ⟨K, h1.trans (.step e (by rw [k K]; exact .refl _)), fun _ => rfl⟩
theorem Pr.leads {B : Bod} {fr0 fr : Fr} {s s1 : GoSt} (h : Pr B fr0 s s1 fr) (k : ∀ K, s1.ended = 0 → goOn B K s1 fr = (K, s1)) : Leads B fr0 s s1 := by
  by_cases e : s1.ended = 0
  · exact h.last e fun K => k K e
  · exact h.end_ e
theorem ok_do_each {K : PySem.W.Frag} {n : Nat} {ds c E Q} (h : sp_do_each K (n + 1) ds c E Q) : b_do_each K (sp_do_rows K n) (endD E Q) (startE 4 ds) c := by
  obtain ⟨M, G, s, r, rfl, hg, hG, hf, he, h1, h2, hr, hk, hlv, q⟩ := h
  cases r <;> try exact hk.elim
  rename_i tn x y rs
  obtain ⟨htn, hx, hy, hrs⟩ := hr
  obtain ⟨w, hw, hi⟩ := hg.ins
  obtain ⟨ts, hl⟩ := hg.listed
  simp only [rwLv, Rw.deep] at hlv
  push_cast at hlv
  have body : ∀ (G2 : CMap → Prop) [FreeG G2], ForP (gTp 2 (gCn (gNm 2) (gCn (gNm 3) gNl))) (wIf (wTst (wOp (eqR false) (wFld K "Going" "ended" (wVar 0)) (wC (.int 0)))) (wSeq (wSet (wFld K "Going" "named" (wVar 0)) (wOp idxR (wVar 1) (wC (.int 2))) (wVar 2)) (wSeq (wSet (wFld K "Going" "named" (wVar 0)) (wOp idxR (wVar 1) (wC (.int 3))) (wVar 3)) (wDrop (wCall (sp_do_rows K n) (wCons (wVar 0) (wCons (wOp idxR (wVar 1) (wC (.int 4))) wNil)))))) wSkip) (endD E Q) ((s.tab tn).map prD) G2 (startE 4 [.ref G.g, (Rw.each tn x y rs).d]) c := by
    intro G2 _
    refine for_inv (fun i env c' => ∃ (s1 : GoSt) (v2 v3 : Option D), env = [some (.ref G.g), some (Rw.each tn x y rs).d, v2, v3] ∧ GoAt K M G c' s1 ∧ Kept G c c' ∧ Pr (bodF G.parts) (.each x y rs (s.tab tn)) s s1 (.each x y rs ((s.tab tn).drop i))) ⟨s, none, none, rfl, hg, Kept.rfl', .rfl'⟩ ?_ ?_
    · rintro i d env c' e ⟨s1, v2, v3, rfl, hg1, hk1, hp⟩
      obtain ⟨p, hpi, rfl⟩ := mem_map_at e
      obtain ⟨w1, hw1, hi1⟩ := hg1.ins
      have hpr := hg.ok.tr tn p (List.mem_of_getElem? hpi)
      have hdr : (s.tab tn).drop i = p :: (s.tab tn).drop (i + 1) := by
        obtain ⟨hlt, hget⟩ := List.getElem?_eq_some_iff.mp hpi
        rw [List.drop_eq_getElem_cons hlt, hget]
      simp only [prD, Rw.d]
      walk_at "go"
      refine ⟨_, _, _, rfl, hi1, fl_ended, ?_⟩
      walk_at "go"
      refine ite_fd (fun h0 => ?_) (fun h0 => ?_)
      · obtain ⟨kvs, hn⟩ := hg1.named
        have l1 := hn.key.len
        have ul := hG.ok.ul
        obtain ⟨g2, n2⟩ := hg1.put hG.ok hn hx hpr.1.1 hpr.1.2
        have k2 : Kept G c _ := hk1.upd (k := .dK (putKD kvs (.inr x) (.int p.1))) hG.ok.pn
        obtain ⟨w2, hw2, hi2⟩ := g2.ins
        have l2 := n2.key.len
        obtain ⟨g3, n3⟩ := g2.put hG.ok n2 hy hpr.2.1 hpr.2.2
        have k3 := k2.upd (k := .dK (putKD (putKD kvs (.inr x) (.int p.1)) (.inr y) (.int p.2))) hG.ok.pn
        walk_at "go"
        refine ⟨_, _, _, rfl, hi1, fl_named, ?_⟩
        walk_at "go"
        refine set_dK hn.n rfl (len_lt (by omega)) ?_
        walk_at "go"
        refine ⟨_, _, _, rfl, hi2, fl_named, ?_⟩
        walk_at "go"
        refine set_dK n2.n rfl (len_lt (by omega)) ?_
        walk_at "go"
        have hwi : s1.within = s.within := by
          obtain ⟨K', p1, p2⟩ := hp []
          have := p1.part
          rw [p2 h0] at this
          simp only [nPart] at this
          omega
        refine rows_i g3 hG (k3.fresh hf) hrs (by show 2 * (rs.deep : Int) + 2 + lvl s1.within ≤ (n : Int); rw [hwi]; omega) fun c4 s4 hl4 hg4 hk4 => ?_
        walk_at "go"
        refine ⟨s4, _, _, rfl, hg4, k3.trans hk4, hp.then h0 fun K2 => ?_⟩
        rw [hdr]
        simp only [goOn]
        exact hl4 (.each x y rs ((s.tab tn).drop (i + 1)) :: K2)
      · walk_at "go"
        exact ⟨s1, _, _, rfl, hg1, hk1, hp.stop h0⟩
    · rintro env c' ⟨s1, v2, v3, rfl, hg1, hk1, hp⟩
      rw [List.length_map, List.drop_length] at hp
      have hL : Leads (bodF G.parts) (.each x y rs (s.tab tn)) s s1 := hp.leads fun K _ => rfl
      exact ⟨_, SubC.rfl', q _ _ (fun K2 => by simp only [doRow]; exact hL K2) hg1 hk1⟩
  unfold b_do_each
  walk_at "go"
  refine ⟨_, _, _, rfl, hi, fl_listed, ?_⟩
  refine ⟨_, rfl, .inl ⟨_, hl.l⟩, ?_⟩
  simp only [Rw.d]
  walk_at "go"
  refine dA_K hl.l rfl ?_
  rcases tb_find (ts := ts) (x := tn) with ⟨t, ht, rfl, e⟩ | ⟨hx2, e⟩
  · rw [e]
    simp only [Option.getD]
    walk_at "go"
    refine lst_c (hl.at_ t ht).2.2.1 (newL_f ?_)
    walk_at "go"
    exact body noG
  · rw [e]
    simp only [Option.getD]
    have e0 : s.tab tn = [] := hl.no tn hx2
    have b := body noG
    rw [e0] at b
    walk_at "go"
    exact b
theorem ok_do_while {K : PySem.W.Frag} {n : Nat} {ds c E Q} (h : sp_do_while K (n + 1) ds c E Q) : b_do_while K (sp_come_to K) sp_is_so (sp_do_rows K n) (endD E Q) (startE 2 ds) c := by
  obtain ⟨M, G, s, g, a, b, rs, rfl, hg, hG, hf, he, hr, hlv, q⟩ := h
  obtain ⟨hgs, ha, hb, hrs⟩ := hr
  push_cast at hlv
  unfold b_do_while
  refine ⟨fun m env c' => ∃ s1 : GoSt, env = [some (.ref G.g), some (Rw.whl g a b rs).d] ∧ GoAt K M G c' s1 ∧ Kept G c c' ∧ Pr (bodF G.parts) (.whl g a b rs) s s1 (.whl g a b rs) ∧ m = (301 - s1.counted).toNat, ⟨_, s, rfl, hg, Kept.rfl', .rfl', rfl⟩, ?_⟩
  rintro m env c1 ⟨s1, rfl, hg1, hk1, hp, rfl⟩
  obtain ⟨w1, hw1, hi1⟩ := hg1.ins
  walk_at "go"
  refine ⟨_, _, _, rfl, hi1, fl_ended, ?_⟩
  walk_at "go"
  refine ite_fd (fun h0 => ?_) (fun h0 => ?_)
  · walk_at "go"
    refine ⟨M, G, s1, rfl, hg1, hG.ok, fun h3 c2 hg2 hk2 => ?_, fun h3 c2 hg2 hk2 => ?_⟩
    · walk_at "go"
      exact ⟨_, SubC.rfl', q _ _ (hp.last h0 fun K2 => by simp only [goOn]; rw [if_pos h3]; rfl) hg2 (hk1.trans hk2)⟩
    · have hc1 := hg1.ok.c1
      obtain ⟨w2, hw2, hi2⟩ := hg2.ins
      walk_at "go"
      refine ⟨_, _, _, rfl, hi2, fl_named, ?_⟩
      simp only [Rw.d]
      walk_at "go"
      refine ⟨K, M, G, s1.cnt, "while", g, a, b, _, rfl, hg2, hgs, ha, hb, ?_⟩
      walk_at "go"
      cases hso : soF g a b s1.cnt.box with
      | true =>
        rw [if_pos rfl]
        refine ⟨fun env' c3 => ∃ s3 : GoSt, env' = [some (.ref G.g), some (Rw.whl g a b rs).d] ∧ GoAt K M G c3 s3 ∧ Kept G c c3 ∧ Pr (bodF G.parts) (.whl g a b rs) s s3 (.whl g a b rs) ∧ s1.counted < s3.counted, ?_, ?_⟩
        · rintro env' c3 ⟨s3, rfl, hg3, hk3, hp3, hlt⟩
          exact ⟨_, by omega, _, SubC.rfl', s3, rfl, hg3, hk3, hp3, rfl⟩
        · have hwi : s1.within = s.within := by
            obtain ⟨K', p1, p2⟩ := hp []
            have := p1.part
            rw [p2 h0] at this
            simp only [nPart] at this
            omega
          walk_at "go"
          refine rows_i hg2 hG ((hk1.trans hk2).fresh hf) hrs (by show 2 * (rs.deep : Int) + 2 + lvl s1.within ≤ (n : Int); rw [hwi]; omega) fun c4 s4 hl4 hg4 hk4 => ?_
          walk_at "go"
          refine ⟨s4, rfl, hg4, (hk1.trans hk2).trans hk4, hp.then h0 fun K2 => ?_, ?_⟩
          · simp only [goOn]
            rw [if_neg h3, if_pos (show soF g a b s1.box = true from hso)]
            exact hl4 (.whl g a b rs :: K2)
          · have := hl4.cnt
            have e : s1.cnt.counted = s1.counted + 1 := rfl
            omega
      | false =>
        rw [if_neg (by decide)]
        exact ⟨_, SubC.rfl', q _ _ (hp.last h0 fun K2 => by simp only [goOn]; rw [if_neg h3, if_neg (show ¬ soF g a b s1.box = true from by rw [show soF g a b s1.box = false from hso]; decide)]; rfl) hg2 (hk1.trans hk2)⟩
  · walk_at "go"
    exact ⟨_, SubC.rfl', q _ _ (hp.end_ h0) hg1 hk1⟩
theorem sp_do_if_i {K : PySem.W.Frag} {n : Nat} {ds c E Q} (h : spRow K isIf (rwLv (n + 1)) ds c E Q) : sp_do_if K (n + 1) ds c E Q := h
theorem sp_do_each_i {K : PySem.W.Frag} {n : Nat} {ds c E Q} (h : spRow K isEach (rwLv (n + 1)) ds c E Q) : sp_do_each K (n + 1) ds c E Q := h
theorem sp_do_part_i {K : PySem.W.Frag} {n : Nat} {ds c E Q} (h : spRow K isDo (rwLv (n + 1)) ds c E Q) : sp_do_part K (n + 1) ds c E Q := h
/-- a counted deed is called -/
theorem deed_i {K : PySem.W.Frag} {ok : Rw → Prop} {lv : Rw → GoSt → Prop} {M : Int} {G : GoC} {c : CMap} {s : GoSt} {r : Rw} {E : XD} {Q : DK} (hg : GoAt K M G c s.cnt) (hG : G.run) (hf : Fresh G c) (he : s.ended = 0) (h1 : (s.said.length : Int) ≤ s.counted) (h2 : ∀ x, ((s.tab x).length : Int) ≤ M + s.counted) (hr : r.ok G.U (G.parts.map (·.1))) (hk : ok r) (hl : lv r s.cnt)
    (q : ∀ c' s', Does (bodF G.parts) r s.cnt s' → GoAt K M G c' s' → Kept G c c' → Q .non c') : spRow K ok lv [.ref G.g, r.d] c E Q :=
  ⟨M, G, s.cnt, r, rfl, hg, hG, hf, he, by show (s.said.length : Int) + 1 ≤ s.counted + 1; omega, fun x => by have := h2 x; show ((s.tab x).length : Int) + 1 ≤ M + (s.counted + 1); omega, hr, hk, hl, q⟩
theorem ok_do_rows {K : PySem.W.Frag} {n : Nat} {ds c E Q} (h : sp_do_rows K (n + 1) ds c E Q) : b_do_rows K (sp_do_while K n) (sp_come_to K) (sp_do_let K) (sp_do_say K) (sp_do_add K) (sp_do_drop K) (sp_do_count K) (sp_do_if K n) (sp_do_each K n) (sp_do_part K n) (sp_do_stop K) (endD E Q) (startE 4 ds) c := by
  obtain ⟨M, G, s, rs, rfl, hg, hG, hf, hr, hlv, q⟩ := h
  push_cast at hlv
  have lp := lvl_pos hg.ok.w1
  obtain ⟨n, rfl⟩ : ∃ j, n = j + 1 := ⟨n - 1, by omega⟩
  push_cast at hlv
  unfold b_do_rows
  walk_at "go"
  refine for_inv (fun i env c' => ∃ (s1 : GoSt) (v2 v3 : Option D), env = [some (.ref G.g), some (.lst rs.ds), v2, v3] ∧ GoAt K M G c' s1 ∧ Kept G c c' ∧ Pr (bodF G.parts) (.rows rs) s s1 (.rows (rs.drop i))) ⟨s, none, none, rfl, hg, Kept.rfl', .rfl'⟩ ?_ ?_
  · rintro i d env c' e ⟨s1, v2, v3, rfl, hg1, hk1, hp⟩
    obtain ⟨r, hdr, rfl⟩ := Rs.drop_at e
    have hro := Rs.drop_ok (i := i) hr
    rw [hdr] at hro
    simp only [Rs.ok] at hro
    obtain ⟨hr1, _⟩ := hro
    have hdd := Rs.drop_deep (rs := rs) (i := i)
    rw [hdr] at hdd
    simp only [Rs.deep] at hdd
    have hrd : r.deep ≤ rs.deep := by omega
    clear hdd
    obtain ⟨w1, hw1, hi1⟩ := hg1.ins
    have hwi : s1.ended = 0 → s1.within = s.within := fun h0 => by
      obtain ⟨K', p1, p2⟩ := hp []
      have := p1.part
      rw [p2 h0] at this
      simp only [nPart] at this
      omega
    walk_at "go"
    refine ⟨_, _, _, rfl, hi1, fl_ended, ?_⟩
    walk_at "go"
    refine ite_fd (fun h0 => ?_) (fun h0 => ?_)
    · have hw0 := hwi h0
      have sl := hg1.ok.sl
      have tl := hg1.ok.tl
      have fin : ∀ (hn : r.isW = false), (s1.counted = 300 → ∀ c2, GoAt K M G c2 (s1.end_ 2) → Kept G c' c2 → ∃ (s3 : GoSt), GoAt K M G c2 s3 ∧ Kept G c c2 ∧ Pr (bodF G.parts) (.rows rs) s s3 (.rows (rs.drop (i + 1)))) ∧ (s1.counted ≠ 300 → ∀ c2 s2, Does (bodF G.parts) r s1.cnt s2 → GoAt K M G c2 s2 → Kept G c' c2 → ∃ (s3 : GoSt), GoAt K M G c2 s3 ∧ Kept G c c2 ∧ Pr (bodF G.parts) (.rows rs) s s3 (.rows (rs.drop (i + 1)))) := by
        intro hn
        refine ⟨fun h3 c2 hg2 hk2 => ⟨_, hg2, hk1.trans hk2, hp.then h0 fun K2 => ?_⟩, fun h3 c2 s2 hd hg2 hk2 => ⟨s2, hg2, hk1.trans hk2, hp.then h0 fun K2 => ?_⟩⟩
        · rw [hdr]
          simp only [goOn, hn]
          rw [if_neg (by decide), if_pos h3]
          exact ⟨_, .refl _, fun z => by cases z⟩
        · rw [hdr]
          simp only [goOn, hn]
          rw [if_neg (by decide), if_neg h3]
          exact hd (.rows (rs.drop (i + 1)) :: K2)
      cases r with
      | whl g a b ra =>
        clear fin
        simp only [Rw.d]
        walk_at "go"
        walk_at "el"
        walk_at "go"
        simp only [Rw.deep] at hrd
        refine ⟨M, G, s1, g, a, b, ra, rfl, hg1, hG, hk1.fresh hf, h0, hr1, by rw [hw0]; push_cast; omega, fun c2 s2 hl2 hg2 hk2 => ?_⟩
        walk_at "go"
        refine ⟨s2, _, _, rfl, hg2, hk1.trans hk2, hp.then h0 fun K2 => ?_⟩
        rw [hdr]
        exact hl2 (.rows (rs.drop (i + 1)) :: K2)
      | let_ x a =>
        obtain ⟨fin1, fin2⟩ := fin rfl
        simp only [Rw.d]
        walk_at "go"
        walk_at "el"
        walk_at "go"
        refine ⟨_, _, _, rfl, hi1, fl_ended, ?_⟩
        walk_at "go"
        rw [show (false ^^ decide (s1.ended = 0)) = true from by simp [h0]]
        walk_at "go"
        refine ⟨M, G, s1, rfl, hg1, hG.ok, fun h3 c2 hg2 hk2 => ?_, fun h3 c2 hg2 hk2 => ?_⟩
        · walk_at "go"
          obtain ⟨s3, f1, f2, f3⟩ := fin1 h3 c2 hg2 hk2
          exact ⟨s3, _, _, rfl, f1, f2, f3⟩
        · walk_at "go"
          refine wTab_i ?_
          walk_at "go"
          refine ⟨_, _, rfl, (by rfl : tabAt _ _ = some (.glo "do_let")), ?_⟩
          walk_at "go"
          refine wCallT_i (z := "do_let") (sp := (sp_do_let K)) rfl (by rfl) ?_
          walk_at "go"
          refine deed_i (ok := isLet) (lv := noLv) (r := .let_ x a) hg2 hG ((hk1.trans hk2).fresh hf) h0 sl tl hr1 trivial (trivial) fun c4 s4 d4 hg4 hk4 => ?_
          walk_at "go"
          obtain ⟨s3, f1, f2, f3⟩ := fin2 h3 c4 s4 d4 hg4 (hk2.trans hk4)
          exact ⟨s3, _, _, rfl, f1, f2, f3⟩
      | say a =>
        obtain ⟨fin1, fin2⟩ := fin rfl
        simp only [Rw.d]
        walk_at "go"
        walk_at "el"
        walk_at "go"
        refine ⟨_, _, _, rfl, hi1, fl_ended, ?_⟩
        walk_at "go"
        rw [show (false ^^ decide (s1.ended = 0)) = true from by simp [h0]]
        walk_at "go"
        refine ⟨M, G, s1, rfl, hg1, hG.ok, fun h3 c2 hg2 hk2 => ?_, fun h3 c2 hg2 hk2 => ?_⟩
        · walk_at "go"
          obtain ⟨s3, f1, f2, f3⟩ := fin1 h3 c2 hg2 hk2
          exact ⟨s3, _, _, rfl, f1, f2, f3⟩
        · walk_at "go"
          refine wTab_i ?_
          walk_at "go"
          refine ⟨_, _, rfl, (by rfl : tabAt _ _ = some (.glo "do_say")), ?_⟩
          walk_at "go"
          refine wCallT_i (z := "do_say") (sp := (sp_do_say K)) rfl (by rfl) ?_
          walk_at "go"
          refine deed_i (ok := isSay) (lv := noLv) (r := .say a) hg2 hG ((hk1.trans hk2).fresh hf) h0 sl tl hr1 trivial (trivial) fun c4 s4 d4 hg4 hk4 => ?_
          walk_at "go"
          obtain ⟨s3, f1, f2, f3⟩ := fin2 h3 c4 s4 d4 hg4 (hk2.trans hk4)
          exact ⟨s3, _, _, rfl, f1, f2, f3⟩
      | add x a b =>
        obtain ⟨fin1, fin2⟩ := fin rfl
        simp only [Rw.d]
        walk_at "go"
        walk_at "el"
        walk_at "go"
        refine ⟨_, _, _, rfl, hi1, fl_ended, ?_⟩
        walk_at "go"
        rw [show (false ^^ decide (s1.ended = 0)) = true from by simp [h0]]
        walk_at "go"
        refine ⟨M, G, s1, rfl, hg1, hG.ok, fun h3 c2 hg2 hk2 => ?_, fun h3 c2 hg2 hk2 => ?_⟩
        · walk_at "go"
          obtain ⟨s3, f1, f2, f3⟩ := fin1 h3 c2 hg2 hk2
          exact ⟨s3, _, _, rfl, f1, f2, f3⟩
        · walk_at "go"
          refine wTab_i ?_
          walk_at "go"
          refine ⟨_, _, rfl, (by rfl : tabAt _ _ = some (.glo "do_add")), ?_⟩
          walk_at "go"
          refine wCallT_i (z := "do_add") (sp := (sp_do_add K)) rfl (by rfl) ?_
          walk_at "go"
          refine deed_i (ok := isAdd) (lv := noLv) (r := .add x a b) hg2 hG ((hk1.trans hk2).fresh hf) h0 sl tl hr1 trivial (trivial) fun c4 s4 d4 hg4 hk4 => ?_
          walk_at "go"
          obtain ⟨s3, f1, f2, f3⟩ := fin2 h3 c4 s4 d4 hg4 (hk2.trans hk4)
          exact ⟨s3, _, _, rfl, f1, f2, f3⟩
      | drop x a =>
        obtain ⟨fin1, fin2⟩ := fin rfl
        simp only [Rw.d]
        walk_at "go"
        walk_at "el"
        walk_at "go"
        refine ⟨_, _, _, rfl, hi1, fl_ended, ?_⟩
        walk_at "go"
        rw [show (false ^^ decide (s1.ended = 0)) = true from by simp [h0]]
        walk_at "go"
        refine ⟨M, G, s1, rfl, hg1, hG.ok, fun h3 c2 hg2 hk2 => ?_, fun h3 c2 hg2 hk2 => ?_⟩
        · walk_at "go"
          obtain ⟨s3, f1, f2, f3⟩ := fin1 h3 c2 hg2 hk2
          exact ⟨s3, _, _, rfl, f1, f2, f3⟩
        · walk_at "go"
          refine wTab_i ?_
          walk_at "go"
          refine ⟨_, _, rfl, (by rfl : tabAt _ _ = some (.glo "do_drop")), ?_⟩
          walk_at "go"
          refine wCallT_i (z := "do_drop") (sp := (sp_do_drop K)) rfl (by rfl) ?_
          walk_at "go"
          refine deed_i (ok := isDrop) (lv := noLv) (r := .drop x a) hg2 hG ((hk1.trans hk2).fresh hf) h0 sl tl hr1 trivial (trivial) fun c4 s4 d4 hg4 hk4 => ?_
          walk_at "go"
          obtain ⟨s3, f1, f2, f3⟩ := fin2 h3 c4 s4 d4 hg4 (hk2.trans hk4)
          exact ⟨s3, _, _, rfl, f1, f2, f3⟩
      | count x y =>
        obtain ⟨fin1, fin2⟩ := fin rfl
        simp only [Rw.d]
        walk_at "go"
        walk_at "el"
        walk_at "go"
        refine ⟨_, _, _, rfl, hi1, fl_ended, ?_⟩
        walk_at "go"
        rw [show (false ^^ decide (s1.ended = 0)) = true from by simp [h0]]
        walk_at "go"
        refine ⟨M, G, s1, rfl, hg1, hG.ok, fun h3 c2 hg2 hk2 => ?_, fun h3 c2 hg2 hk2 => ?_⟩
        · walk_at "go"
          obtain ⟨s3, f1, f2, f3⟩ := fin1 h3 c2 hg2 hk2
          exact ⟨s3, _, _, rfl, f1, f2, f3⟩
        · walk_at "go"
          refine wTab_i ?_
          walk_at "go"
          refine ⟨_, _, rfl, (by rfl : tabAt _ _ = some (.glo "do_count")), ?_⟩
          walk_at "go"
          refine wCallT_i (z := "do_count") (sp := (sp_do_count K)) rfl (by rfl) ?_
          walk_at "go"
          refine deed_i (ok := isCount) (lv := noLv) (r := .count x y) hg2 hG ((hk1.trans hk2).fresh hf) h0 sl tl hr1 trivial (trivial) fun c4 s4 d4 hg4 hk4 => ?_
          walk_at "go"
          obtain ⟨s3, f1, f2, f3⟩ := fin2 h3 c4 s4 d4 hg4 (hk2.trans hk4)
          exact ⟨s3, _, _, rfl, f1, f2, f3⟩
      | ifr g a b ra rb =>
        obtain ⟨fin1, fin2⟩ := fin rfl
        simp only [Rw.d]
        walk_at "go"
        walk_at "el"
        walk_at "go"
        refine ⟨_, _, _, rfl, hi1, fl_ended, ?_⟩
        walk_at "go"
        rw [show (false ^^ decide (s1.ended = 0)) = true from by simp [h0]]
        walk_at "go"
        refine ⟨M, G, s1, rfl, hg1, hG.ok, fun h3 c2 hg2 hk2 => ?_, fun h3 c2 hg2 hk2 => ?_⟩
        · walk_at "go"
          obtain ⟨s3, f1, f2, f3⟩ := fin1 h3 c2 hg2 hk2
          exact ⟨s3, _, _, rfl, f1, f2, f3⟩
        · walk_at "go"
          refine wTab_i ?_
          walk_at "go"
          refine ⟨_, _, rfl, (by rfl : tabAt _ _ = some (.glo "do_if")), ?_⟩
          walk_at "go"
          refine wCallT_i (z := "do_if") (sp := (sp_do_if K (n + 1))) rfl (by rfl) ?_
          walk_at "go"
          refine sp_do_if_i ?_
          refine deed_i (ok := isIf) (lv := rwLv (n + 1)) (r := .ifr g a b ra rb) hg2 hG ((hk1.trans hk2).fresh hf) h0 sl tl hr1 trivial (by show 2 * ((Rw.ifr g a b ra rb).deep : Int) + 1 + lvl s1.within ≤ ((n + 1 : Nat) : Int); rw [hw0]; push_cast; omega) fun c4 s4 d4 hg4 hk4 => ?_
          walk_at "go"
          obtain ⟨s3, f1, f2, f3⟩ := fin2 h3 c4 s4 d4 hg4 (hk2.trans hk4)
          exact ⟨s3, _, _, rfl, f1, f2, f3⟩
      | each t x y ra =>
        obtain ⟨fin1, fin2⟩ := fin rfl
        simp only [Rw.d]
        walk_at "go"
        walk_at "el"
        walk_at "go"
        refine ⟨_, _, _, rfl, hi1, fl_ended, ?_⟩
        walk_at "go"
        rw [show (false ^^ decide (s1.ended = 0)) = true from by simp [h0]]
        walk_at "go"
        refine ⟨M, G, s1, rfl, hg1, hG.ok, fun h3 c2 hg2 hk2 => ?_, fun h3 c2 hg2 hk2 => ?_⟩
        · walk_at "go"
          obtain ⟨s3, f1, f2, f3⟩ := fin1 h3 c2 hg2 hk2
          exact ⟨s3, _, _, rfl, f1, f2, f3⟩
        · walk_at "go"
          refine wTab_i ?_
          walk_at "go"
          refine ⟨_, _, rfl, (by rfl : tabAt _ _ = some (.glo "do_each")), ?_⟩
          walk_at "go"
          refine wCallT_i (z := "do_each") (sp := (sp_do_each K (n + 1))) rfl (by rfl) ?_
          walk_at "go"
          refine sp_do_each_i ?_
          refine deed_i (ok := isEach) (lv := rwLv (n + 1)) (r := .each t x y ra) hg2 hG ((hk1.trans hk2).fresh hf) h0 sl tl hr1 trivial (by show 2 * ((Rw.each t x y ra).deep : Int) + 1 + lvl s1.within ≤ ((n + 1 : Nat) : Int); rw [hw0]; push_cast; omega) fun c4 s4 d4 hg4 hk4 => ?_
          walk_at "go"
          obtain ⟨s3, f1, f2, f3⟩ := fin2 h3 c4 s4 d4 hg4 (hk2.trans hk4)
          exact ⟨s3, _, _, rfl, f1, f2, f3⟩
      | do_ x =>
        obtain ⟨fin1, fin2⟩ := fin rfl
        simp only [Rw.d]
        walk_at "go"
        walk_at "el"
        walk_at "go"
        refine ⟨_, _, _, rfl, hi1, fl_ended, ?_⟩
        walk_at "go"
        rw [show (false ^^ decide (s1.ended = 0)) = true from by simp [h0]]
        walk_at "go"
        refine ⟨M, G, s1, rfl, hg1, hG.ok, fun h3 c2 hg2 hk2 => ?_, fun h3 c2 hg2 hk2 => ?_⟩
        · walk_at "go"
          obtain ⟨s3, f1, f2, f3⟩ := fin1 h3 c2 hg2 hk2
          exact ⟨s3, _, _, rfl, f1, f2, f3⟩
        · walk_at "go"
          refine wTab_i ?_
          walk_at "go"
          refine ⟨_, _, rfl, (by rfl : tabAt _ _ = some (.glo "do_part")), ?_⟩
          walk_at "go"
          refine wCallT_i (z := "do_part") (sp := (sp_do_part K (n + 1))) rfl (by rfl) ?_
          walk_at "go"
          refine sp_do_part_i ?_
          refine deed_i (ok := isDo) (lv := rwLv (n + 1)) (r := .do_ x) hg2 hG ((hk1.trans hk2).fresh hf) h0 sl tl hr1 trivial (by show 2 * ((Rw.do_ x).deep : Int) + 1 + lvl s1.within ≤ ((n + 1 : Nat) : Int); rw [hw0]; push_cast; omega) fun c4 s4 d4 hg4 hk4 => ?_
          walk_at "go"
          obtain ⟨s3, f1, f2, f3⟩ := fin2 h3 c4 s4 d4 hg4 (hk2.trans hk4)
          exact ⟨s3, _, _, rfl, f1, f2, f3⟩
      | stop  =>
        obtain ⟨fin1, fin2⟩ := fin rfl
        simp only [Rw.d]
        walk_at "go"
        walk_at "el"
        walk_at "go"
        refine ⟨_, _, _, rfl, hi1, fl_ended, ?_⟩
        walk_at "go"
        rw [show (false ^^ decide (s1.ended = 0)) = true from by simp [h0]]
        walk_at "go"
        refine ⟨M, G, s1, rfl, hg1, hG.ok, fun h3 c2 hg2 hk2 => ?_, fun h3 c2 hg2 hk2 => ?_⟩
        · walk_at "go"
          obtain ⟨s3, f1, f2, f3⟩ := fin1 h3 c2 hg2 hk2
          exact ⟨s3, _, _, rfl, f1, f2, f3⟩
        · walk_at "go"
          refine wTab_i ?_
          walk_at "go"
          refine ⟨_, _, rfl, (by rfl : tabAt _ _ = some (.glo "do_stop")), ?_⟩
          walk_at "go"
          refine wCallT_i (z := "do_stop") (sp := (sp_do_stop K)) rfl (by rfl) ?_
          walk_at "go"
          refine deed_i (ok := isStop) (lv := noLv) (r := .stop ) hg2 hG ((hk1.trans hk2).fresh hf) h0 sl tl hr1 trivial (trivial) fun c4 s4 d4 hg4 hk4 => ?_
          walk_at "go"
          obtain ⟨s3, f1, f2, f3⟩ := fin2 h3 c4 s4 d4 hg4 (hk2.trans hk4)
          exact ⟨s3, _, _, rfl, f1, f2, f3⟩
    · walk_at "go"
      refine ⟨_, _, _, rfl, hi1, fl_ended, ?_⟩
      walk_at "go"
      rw [show (false ^^ decide (s1.ended = 0)) = false from by simp [h0]]
      walk_at "go"
      exact ⟨s1, _, _, rfl, hg1, hk1, hp.stop h0⟩
  · rintro env c' ⟨s1, v2, v3, rfl, hg1, hk1, hp⟩
    rw [Rs.drop_end (Nat.le_refl _)] at hp
    exact ⟨_, SubC.rfl', q _ _ (hp.leads fun K _ => rfl) hg1 hk1⟩
/-! what a run tells -/
structure Told {α : Type} (bs : List (Str × α)) (f : Str → α) (z : α) : Prop where
  ord : (bs.map (·.1)).Pairwise leS
  nd : (bs.map (·.1)).Nodup
  mem : ∀ x v, (x, v) ∈ bs ↔ f x = v ∧ v ≠ z
theorem Told.eqv {α : Type} {bs : List (Str × α)} {f : Str → α} {z : α} (h : Told bs f z) : bs = (bs.map (·.1)).map fun x => (x, f x) := by
  rw [List.map_map]
  have : bs.map id = bs.map ((fun x => (x, f x)) ∘ fun b => b.1) := List.map_congr_left fun b hb => by
    have := ((h.mem b.1 b.2).mp hb).1
    simp only [Function.comp, id]
    rw [this]
  rwa [List.map_id] at this
theorem Told.uniq {α : Type} {bs bs' : List (Str × α)} {f : Str → α} {z : α} (h : Told bs f z) (k : Told bs' f z) : bs = bs' := by
  have hn : ∀ {cs : List (Str × α)}, Told cs f z → ∀ x, x ∈ cs.map (·.1) ↔ f x ≠ z := fun {cs} t x => by
    constructor
    · intro hx
      obtain ⟨b, hb, rfl⟩ := List.mem_map.mp hx
      have := (t.mem b.1 b.2).mp hb
      rw [this.1]; exact this.2
    · intro hx
      exact List.mem_map.mpr ⟨(x, f x), (t.mem x (f x)).mpr ⟨rfl, hx⟩, rfl⟩
  have e : bs.map (·.1) = bs'.map (·.1) := names_eq h.ord k.ord h.nd k.nd fun x => by rw [hn h, hn k]
  rw [h.eqv, k.eqv, e]
/-- .. out of names in order -/
theorem Told.of {α : Type} {ys : List Str} {f : Str → α} {z : α} (p : Str → Bool) (ho : ys.Pairwise leS) (hd : ys.Nodup) (hp : ∀ x, p x = true ↔ f x ≠ z) (hk : ∀ x, f x ≠ z → x ∈ ys) : Told ((ys.filter p).map fun x => (x, f x)) f z := by
  have e : ((ys.filter p).map fun x => (x, f x)).map (·.1) = ys.filter p := by
    rw [List.map_map]
    exact List.map_id _
  refine ⟨by rw [e]; exact ho.sublist List.filter_sublist, by rw [e]; exact hd.sublist List.filter_sublist, fun x v => ?_⟩
  rw [List.mem_map]
  constructor
  · rintro ⟨y, hy, h⟩
    cases h
    exact ⟨rfl, (hp x).mp (List.mem_filter.mp hy).2⟩
  · rintro ⟨rfl, hv⟩
    exact ⟨x, List.mem_filter.mpr ⟨hk x hv, (hp x).mpr hv⟩, rfl⟩
def bD (b : Str × Int) : D := .tup [.str b.1, .int b.2]
theorem str_keys {U : List Str} : ∀ {kvs : KV}, (∀ kv ∈ kvs, ∃ x ∈ U, kv.1 = (.inr x : Key)) → ∃ ks : List Str, strKeys kvs = some ks ∧ kvs.map (·.1) = ks.map Sum.inr
  | [], _ => ⟨[], rfl, rfl⟩
  | (k, v) :: r, h => by
    obtain ⟨x, _, e⟩ := h (k, v) List.mem_cons_self
    obtain ⟨ks, h1, h2⟩ := str_keys (kvs := r) fun kv hkv => h kv (List.mem_cons_of_mem _ hkv)
    simp only at e
    subst e
    exact ⟨x :: ks, by simp only [strKeys, h1]; rfl, by rw [List.map_cons, List.map_cons, h2]⟩
theorem nodup_of_map {α β : Type} {f : α → β} : ∀ {xs : List α}, (xs.map f).Nodup → xs.Nodup
  | [], _ => .nil
  | a :: r, h => by
    rw [List.map_cons, List.nodup_cons] at h
    exact List.nodup_cons.mpr ⟨fun z => h.1 (List.mem_map_of_mem z), nodup_of_map h.2⟩
theorem num_val {kvs : KV} (h : NumR kvs) {x : Str} (hx : (.inr x : Key) ∈ kvs.map (·.1)) : valD kvs (.inr x) = some (.int (numAt kvs x)) := by
  unfold numAt valD
  cases e : kvs.find? fun kv => decide (kv.1 = (.inr x : Key)) with
  | none =>
    obtain ⟨kv, hkv, e2⟩ := List.mem_map.mp hx
    have := List.find?_eq_none.mp e kv hkv
    simp [e2] at this
  | some kv =>
    obtain ⟨i, h1, _⟩ := h kv (List.mem_of_find?_eq_some e)
    simp only [Option.map_some, Option.getD_some]
    rw [h1]
theorem num_no {kvs : KV} {x : Str} (hx : (.inr x : Key) ∉ kvs.map (·.1)) : numAt kvs x = 0 := by
  unfold numAt valD
  have e : (kvs.find? fun kv => decide (kv.1 = (.inr x : Key))) = none := by
    rw [List.find?_eq_none]
    intro kv hkv z
    exact hx (List.mem_map.mpr ⟨kv, hkv, by simpa using z⟩)
  rw [e]; rfl
def sp_boxes_told : DSpec := fun ds c E Q => ∃ (n : Addr) (kvs : KV) (U : List Str), ds = [.ref n] ∧ c n = some (.dK kvs) ∧ NumR kvs ∧ KeysIn U kvs ∧ U.length ≤ 60 ∧ ∀ (A : Addr) (bs : List (Str × Int)), c A = none → Told bs (numAt kvs) 0 → bs.length ≤ 60 → Q (.ref A) (updc c A (.lst (bs.map bD)))
theorem ok_boxes_told {ds c E Q} (h : sp_boxes_told ds c E Q) : b_boxes_told (endD E Q) (startE 2 ds) c := by
  obtain ⟨n, kvs, U, rfl, hn, hnum, hk, ul, q⟩ := h
  obtain ⟨ks, k1, k2⟩ := str_keys hk.2
  have kl : ks.length ≤ 60 := by
    have := hk.len
    have := congrArg List.length k2
    rw [List.length_map, List.length_map] at this
    omega
  have knd : ks.Nodup := nodup_of_map (f := (Sum.inr : Str → Key)) (by rw [← k2]; exact hk.1)
  unfold b_boxes_told
  walk_at "go"
  refine sortKS_i hn k1 (by omega) fun ys y1 y2 => newL_f ?_
  walk_at "go"
  intro A hA
  have hm : ∀ x ∈ ys, (.inr x : Key) ∈ kvs.map (·.1) := fun x hx => by rw [k2]; exact List.mem_map_of_mem (y1.mem_iff.mp hx)
  refine comp_mapR (fun x : Str => if numAt kvs x ≠ 0 then some (bD (x, numAt kvs x)) else none) hA (by have := y1.length_eq; omega) ?_ ?_
  · intro x c2 K hx hc hK
    have hn2 := hc n _ hn
    walk_at "go"
    refine ix_dK hn2 rfl (num_val hnum (hm x hx)) ?_
    walk_at "go"
    refine ite_td (fun h => ?_) (fun h => ?_)
    · rw [if_pos h] at hK
      walk_at "go"
      refine ix_dK hn2 rfl (num_val hnum (hm x hx)) ?_
      walk_at "go"
      exact hK
    · rw [if_neg (fun z => z h)] at hK
      exact hK
  rw [fm_if, show (fun x => bD (x, numAt kvs x)) = bD ∘ fun x => (x, numAt kvs x) from rfl, ← List.map_map]
  refine ⟨_, SubC.rfl', q A _ hA (Told.of _ (sorted_pw y2) (y1.nodup_iff.mpr knd) (fun x => by simp) fun x hx => ?_) ?_⟩
  · refine Classical.byContradiction fun z => hx (num_no fun z2 => z ?_)
    rw [k2] at z2
    obtain ⟨y, hy, e⟩ := List.mem_map.mp z2
    cases e
    exact y1.mem_iff.mpr hy
  · rw [List.length_map]
    have := List.length_filter_le (fun x => decide (numAt kvs x ≠ 0)) ys
    have := y1.length_eq
    omega
theorem prs_ok : ∀ l : List (Int × Int), okDs (l.map prD) = true ∧ deps (l.map prD) ≤ 1
  | [] => ⟨rfl, by simp [deps]⟩
  | p :: r => by
    obtain ⟨a, b⟩ := prs_ok r
    refine ⟨?_, ?_⟩
    · simp only [List.map_cons, okDs, prD, DL.okD, a, Bool.and_true]
    · simp only [List.map_cons, deps, prD, DL.dep]; omega
def tD (t : Str × Addr) : D := .tup [.str t.1, .ref t.2]
theorem tb_keys (ts : Tbs) : strKeys (ts.map tbK) = some (ts.map (·.1)) := by
  induction ts with
  | nil => rfl
  | cons t r ih =>
    rw [List.map_cons, List.map_cons]
    show (strKeys (r.map tbK)).map (t.1 :: ·) = _
    rw [ih]; rfl
theorem prs_nil {l : List (Int × Int)} : D.lst (l.map prD) = .lst [] ↔ l = [] := by
  constructor
  · intro h
    injection h with h
    exact List.map_eq_nil_iff.mp h
  · rintro rfl; rfl
def sp_tables_told : DSpec := fun ds c E Q => ∃ (l : Addr) (ts : Tbs) (f : Str → List (Int × Int)), ds = [.ref l] ∧ c l = some (.dK (ts.map tbK)) ∧ (ts.map (·.1)).Nodup ∧ ts.length ≤ 60 ∧ (∀ t ∈ ts, c t.2 = some (.lst ((f t.1).map prD))) ∧ (∀ x, x ∉ ts.map (·.1) → f x = []) ∧
  ∀ (A : Addr) (us : Tbs), c A = none → Told (us.map fun t => (t.1, f t.1)) f [] → (∀ t ∈ us, t ∈ ts) → us.length ≤ 60 → Q (.ref A) (updc c A (.lst (us.map tD)))
theorem ok_tables_told {ds c E Q} (h : sp_tables_told ds c E Q) : b_tables_told (endD E Q) (startE 2 ds) c := by
  obtain ⟨l, ts, f, rfl, hl, hnd, tl, ht, hno, q⟩ := h
  unfold b_tables_told
  walk_at "go"
  refine sortKS_i hl (tb_keys ts) (by rw [List.length_map]; omega) fun ys y1 y2 => newL_f ?_
  walk_at "go"
  intro A hA
  let ad : Str → Addr := fun x => ((ts.find? fun t => decide (t.1 = x)).map (·.2)).getD 0
  have hm : ∀ x ∈ ys, (x, ad x) ∈ ts ∧ valD (ts.map tbK) (.inr x) = some (.ref (ad x)) := fun x hx => by
    have hx2 := y1.mem_iff.mp hx
    rcases tb_find (ts := ts) (x := x) with ⟨t, h1, rfl, h3⟩ | ⟨h1, _⟩
    · have e : ad t.1 = t.2 := by
        rw [tb_val] at h3
        show ((ts.find? fun u => decide (u.1 = t.1)).map (·.2)).getD 0 = t.2
        cases z : ts.find? fun u => decide (u.1 = t.1) with
        | none => rw [z] at h3; cases h3
        | some u =>
          rw [z] at h3
          simp only [Option.map_some, Option.some.injEq, D.ref.injEq] at h3
          simpa using h3
      rw [e]
      exact ⟨h1, h3⟩
    · exact absurd hx2 h1
  refine comp_mapR (fun x : Str => if f x ≠ [] then some (tD (x, ad x)) else none) hA (by have := y1.length_eq; rw [List.length_map] at this; omega) ?_ ?_
  · intro x c2 K hx hc hK
    have hl2 := hc l _ hl
    obtain ⟨m1, m2⟩ := hm x hx
    have ha2 := hc _ _ (ht _ m1)
    obtain ⟨o1, o2⟩ := prs_ok (f x)
    walk_at "go"
    refine ix_dK hl2 rfl m2 ?_
    walk_at "go"
    refine eq_dd (d' := .lst ((f x).map prD)) (e' := .lst []) (res_c ha2) rfl ⟨by simpa [DL.okD] using o1, by simp only [DL.dep]; omega⟩ ⟨rfl, by decide⟩ ?_
    walk_at "go"
    refine ite_td (fun h => ?_) (fun h => ?_)
    · rw [if_pos (fun z => h (prs_nil.mpr z))] at hK
      walk_at "go"
      refine ix_dK hl2 rfl m2 ?_
      walk_at "go"
      exact hK
    · rw [if_neg (fun z => z (prs_nil.mp h))] at hK
      exact hK
  rw [fm_if, show (fun x => tD (x, ad x)) = tD ∘ fun x => (x, ad x) from rfl, ← List.map_map]
  refine ⟨_, SubC.rfl', q A _ hA ?_ (fun t ht2 => ?_) ?_⟩
  · rw [List.map_map]
    refine Told.of (fun x => decide (f x ≠ [])) (sorted_pw y2) (y1.nodup_iff.mpr hnd) (fun x => by simp) fun x hx => ?_
    exact y1.mem_iff.mpr (Classical.byContradiction fun z => hx (hno x z))
  · obtain ⟨x, hx, rfl⟩ := List.mem_map.mp ht2
    exact (hm x (List.mem_filter.mp hx).1).1
  · rw [List.length_map]
    have := List.length_filter_le (fun x => decide (f x ≠ [])) ys
    have := y1.length_eq
    rw [List.length_map] at this
    omega
/-! a run's beginning -/
abbrev Bxs := List (Str × Int)
abbrev Tabs := List (Str × List (Int × Int))
abbrev Pts := List (Str × Rs)
def boxF (bs : Bxs) : Str → Int := fun x => ((bs.find? fun b => decide (b.1 = x)).map (·.2)).getD 0
def tabF (ts : Tabs) : Str → List (Int × Int) := fun x => ((ts.find? fun b => decide (b.1 = x)).map (·.2)).getD []
def begun (bs : Bxs) (ts : Tabs) : GoSt := ⟨boxF bs, tabF ts, [], 0, 0, 0⟩
def tbD (t : Str × List (Int × Int)) : D := .tup [.str t.1, .lst (t.2.map prD)]
def ptD (p : Str × Rs) : D := .tup [.str p.1, .lst p.2.ds]
def bxK (b : Str × Int) : Key × D := (.inr b.1, .int b.2)
structure Beg (U : List Str) (M : Int) (bs : Bxs) (ts : Tabs) : Prop where
  bn : (bs.map (·.1)).Nodup
  bu : ∀ b ∈ bs, b.1 ∈ U ∧ 0 ≤ b.2 ∧ b.2 < 1000
  tn : (ts.map (·.1)).Nodup
  tu : ∀ t ∈ ts, t.1 ∈ U ∧ (∀ p ∈ t.2, (0 ≤ p.1 ∧ p.1 < 1000) ∧ 0 ≤ p.2 ∧ p.2 < 1000) ∧ (t.2.length : Int) ≤ M
  ul : U.length ≤ 60
  us : ∀ x ∈ U, SOk 40 x
  mm : 0 ≤ M ∧ M ≤ 100000
theorem put_new {kvs : KV} {k : Key} {d : D} (h : k ∉ kvs.map (·.1)) : putKD kvs k d = kvs ++ [(k, d)] := by
  unfold putKD
  rw [if_neg]
  intro z
  obtain ⟨kv, hkv, e⟩ := List.any_eq_true.mp z
  exact h (List.mem_map.mpr ⟨kv, hkv, by simpa using e⟩)
theorem merge_nd : ∀ {kvs acc : KV}, ((acc ++ kvs).map (·.1)).Nodup → mergeKD acc kvs = acc ++ kvs
  | [], acc, _ => by rw [List.append_nil]; rfl
  | kv :: r, acc, h => by
    have e : mergeKD acc (kv :: r) = mergeKD (putKD acc kv.1 kv.2) r := rfl
    have hn : kv.1 ∉ acc.map (·.1) := fun z => by
      rw [List.map_append, List.nodup_append] at h
      exact h.2.2 _ z _ (by simp) rfl
    rw [e, put_new hn, merge_nd (by rw [List.append_assoc]; exact h), List.append_assoc]
    rfl
theorem pairs_bx {c : CMap} : ∀ bs : Bxs, pairsD c (bs.map bD) = some (bs.map bxK)
  | [] => rfl
  | b :: r => by
    have ih := pairs_bx (c := c) r
    rw [List.map_cons, List.map_cons]
    unfold pairsD
    rw [ih]
    rfl
theorem pairs_pt {c : CMap} : ∀ ps : Pts, pairsD c (ps.map ptD) = some (ps.map bodK)
  | [] => rfl
  | b :: r => by
    have ih := pairs_pt (c := c) r
    rw [List.map_cons, List.map_cons]
    unfold pairsD
    rw [ih]
    rfl
theorem inr_nodup {l : List Str} (h : l.Nodup) : (l.map (Sum.inr : Str → Key)).Nodup := by
  unfold List.Nodup
  rw [List.pairwise_map]
  exact h.imp fun h z => h (Sum.inr.inj z)
theorem box_num {bs : Bxs} (x : Str) : numAt (bs.map bxK) x = boxF bs x := by
  unfold numAt valD boxF
  induction bs with
  | nil => rfl
  | cons b r ih =>
    rw [List.map_cons, List.find?_cons, List.find?_cons]
    by_cases e : b.1 = x
    · subst e
      simp [bxK]
    · have e2 : ¬ (bxK b).1 = .inr x := fun z => e (Sum.inr.inj z)
      rw [decide_eq_false e, decide_eq_false e2]
      exact ih
theorem tab_at {ts : Tabs} (hn : (ts.map (·.1)).Nodup) {t : Str × List (Int × Int)} (h : t ∈ ts) : tabF ts t.1 = t.2 := by
  unfold tabF
  cases e : ts.find? fun b => decide (b.1 = t.1) with
  | none =>
    have := List.find?_eq_none.mp e t h
    simp at this
  | some u =>
    have h1 := List.mem_of_find?_eq_some e
    have h2 : u.1 = t.1 := by simpa using List.find?_some e
    rw [nodup_at hn u h1 t h h2]
    rfl
theorem tab_no {ts : Tabs} {x : Str} (h : x ∉ ts.map (·.1)) : tabF ts x = [] := by
  unfold tabF
  have : (ts.find? fun b => decide (b.1 = x)) = none := by
    rw [List.find?_eq_none]
    intro b hb z
    exact h (List.mem_map.mpr ⟨b, hb, by simpa using z⟩)
  rw [this]; rfl
theorem Beg.num {U : List Str} {M : Int} {bs : Bxs} {ts : Tabs} (h : Beg U M bs ts) : NumR (bs.map bxK) := by
  intro kv hkv
  obtain ⟨b, hb, rfl⟩ := List.mem_map.mp hkv
  exact ⟨b.2, rfl, (h.bu b hb).2⟩
theorem Beg.keys {U : List Str} {M : Int} {bs : Bxs} {ts : Tabs} (h : Beg U M bs ts) : KeysIn U (bs.map bxK) := by
  refine ⟨?_, fun kv hkv => ?_⟩
  · rw [List.map_map]
    have := inr_nodup h.bn
    rw [List.map_map] at this
    exact this
  · obtain ⟨b, hb, rfl⟩ := List.mem_map.mp hkv
    exact ⟨b.1, (h.bu b hb).1, rfl⟩
theorem Beg.rows {U : List Str} {M : Int} {bs : Bxs} {ts : Tabs} (h : Beg U M bs ts) (x : Str) : (∀ p ∈ tabF ts x, (0 ≤ p.1 ∧ p.1 < 1000) ∧ 0 ≤ p.2 ∧ p.2 < 1000) ∧ ((tabF ts x).length : Int) ≤ M := by
  by_cases hx : x ∈ ts.map (·.1)
  · obtain ⟨t, ht, rfl⟩ := List.mem_map.mp hx
    rw [tab_at h.tn ht]
    exact (h.tu t ht).2
  · rw [tab_no hx]
    exact ⟨fun p hp => (by cases hp), h.mm.1⟩
theorem Beg.ok {U : List Str} {M : Int} {bs : Bxs} {ts : Tabs} (h : Beg U M bs ts) : GoOk M (begun bs ts) := by
  refine ⟨(show (0 : Int) ≤ 0 from by decide), (show (0 : Int) ≤ 300 from by decide), (show (0 : Int) ≤ 0 from by decide), (show (0 : Int) ≤ 20 from by decide), fun x => ?_, fun x => (h.rows x).1, fun x => ?_, (show (0 : Int) ≤ 0 from by decide), h.mm⟩
  · show 0 ≤ boxF bs x ∧ boxF bs x < 1000
    rw [← box_num]
    exact (numAt_eq h.num x).2
  · have := (h.rows x).2
    show ((tabF ts x).length : Int) ≤ M + 0
    omega
/-- tables, as data or in cells -/
def TabsD (c : CMap) (d : D) (ts : Tabs) : Prop := ∃ y : Str → D, res c d = .lst (ts.map fun t => .tup [.str t.1, y t.1]) ∧ ∀ t ∈ ts, res c (y t.1) = .lst (t.2.map prD)
def BoxD (c : CMap) (d : D) (bs : Bxs) : Prop := res c d = .lst (bs.map bD)
theorem TabsD.sub {c c' : CMap} {d : D} {ts : Tabs} (h : TabsD c d ts) (s : SubC c c') : TabsD c' d ts := by
  obtain ⟨y, h1, h2⟩ := h
  exact ⟨y, res_sub s h1, fun t ht => res_sub s (h2 t ht)⟩
theorem TabsD.lit {c : CMap} {ts : Tabs} (hn : (ts.map (·.1)).Nodup) : TabsD c (.lst (ts.map tbD)) ts := by
  refine ⟨fun x => .lst ((tabF ts x).map prD), ?_, fun t ht => ?_⟩
  · show D.lst (ts.map tbD) = _
    congr 1
    refine List.map_congr_left fun t ht => ?_
    show tbD t = D.tup [.str t.1, .lst ((tabF ts t.1).map prD)]
    rw [tab_at hn ht]; rfl
  · show D.lst ((tabF ts t.1).map prD) = _
    rw [tab_at hn ht]
theorem itR_res0 {c0 c : CMap} {d : D} {es : List D} {N : List D → (CMap → Prop) → CMap → Prop} (h : res c0 d = .lst es) (s : SubC c0 c) (q : ∀ G : CMap → Prop, (∀ c', SubC c0 c' → G c') → N es G c) : itR d c N := by
  rcases res_or h with rfl | ⟨p, rfl, hp⟩
  · exact .inl ⟨es, rfl, q _ fun _ _ => trivial⟩
  · exact .inr ⟨p, es, rfl, s _ _ hp, q _ fun c' s => s _ _ hp⟩
theorem lst_res {c : CMap} {m : Bool} {Q : DK} {d : D} {xs : List D} (h : res c d = .lst xs) (q : newL m c xs Q) : listR m c [d] Q := by unfold listR; dsimp only; rw [h]; exact q
def sp_Going_init (K : PySem.W.Frag) : DSpec := fun ds c E Q => ∃ (p : Addr) (c0 : CMap) (ps : Pts) (bs : Bxs) (ts : Tabs) (U : List Str) (M : Int) (d1 d2 : D), ds = [.ref p, .lst (ps.map ptD), d1, d2] ∧ BoxD c0 d1 bs ∧ TabsD c0 d2 ts ∧ c p = some (.ins (He.ga K "Going") []) ∧ c0 p = none ∧ SubC c0 c ∧ Beg U M bs ts ∧ (ps.map (·.1)).Nodup ∧
  ∀ (G : GoC) c', G.g = p → G.P = (fun a => c0 a = none) → G.U = U → G.parts = ps → G.ok → GoAt K M G c' (begun bs ts) → SubC c0 c' → Q .non c'
theorem ok_Going_init {K : PySem.W.Frag} {ds c E Q} (h : sp_Going_init K ds c E Q) : b_Going_init K (endD E Q) (startE 6 ds) c := by
  obtain ⟨p, c0, ps, bs, ts, U, M, d1, d2, rfl, hd1, ⟨y, hd2, hy⟩, hp, hp0, hs, hb, hps, q⟩ := h
  have z0 : ∀ {c' : CMap} {a : Addr}, SubC c0 c' → c' a = none → c0 a = none := fun {c' a} h e => by
    cases z : c0 a with
    | none => rfl
    | some k => rw [h _ _ z] at e; cases e
  unfold b_Going_init
  walk_at "go"
  refine dict_l (res_sub hs hd1) (pairs_bx bs) fun n hn => ?_
  rw [merge_nd (acc := []) (by rw [List.nil_append]; exact hb.keys.1), List.nil_append]
  have pn : p ≠ n := ne_some_none hp hn
  have n0 := z0 hs hn
  walk_at "go"
  refine ⟨_, _, rfl, updc_ne' pn hp, (show 0 < 900 from by decide), ?_⟩
  rw [show putFD ("named" : Str) (.ref n) [] = ([("named", .ref n)] : List (Str × D)) from rfl]
  obtain ⟨c1, hc1⟩ : ∃ c1, c1 = updc (updc c n (.dK (bs.map bxK))) p (.ins (He.ga K "Going") [("named", .ref n)]) := ⟨_, rfl⟩
  rw [← hc1]
  have s1 : SubC c0 c1 := by rw [hc1]; exact (hs.newr n0).newr hp0
  have p1 : c1 p = some (.ins (He.ga K "Going") [("named", .ref n)]) := by rw [hc1, updc_same]
  have n1 : c1 n = some (.dK (bs.map bxK)) := by rw [hc1, updc_ne (Ne.symm pn), updc_same]
  clear hc1
  walk_at "go"
  intro l hl
  have pl : p ≠ l := ne_some_none p1 hl
  have nl : n ≠ l := ne_some_none n1 hl
  have l0 := z0 s1 hl
  rw [if_neg (by decide)]
  walk_at "go"
  refine ⟨_, _, rfl, updc_ne' pl p1, (show 1 < 900 from by decide), ?_⟩
  rw [show putFD ("listed" : Str) (.ref l) ([("named", .ref n)] : List (Str × D)) = ([("named", .ref n), ("listed", .ref l)] : List (Str × D)) from rfl]
  obtain ⟨c2, hc2⟩ : ∃ c2, c2 = updc (updc c1 l (.dK [])) p (.ins (He.ga K "Going") [("named", .ref n), ("listed", .ref l)]) := ⟨_, rfl⟩
  rw [← hc2]
  have s2 : SubC c0 c2 := by rw [hc2]; exact (s1.newr l0).newr hp0
  have p2 : c2 p = some (.ins (He.ga K "Going") [("named", .ref n), ("listed", .ref l)]) := by rw [hc2, updc_same]
  have l2 : c2 l = some (.dK []) := by rw [hc2, updc_ne (Ne.symm pl), updc_same]
  have n2 : c2 n = some (.dK (bs.map bxK)) := by rw [hc2, updc_ne (Ne.symm pn), updc_ne nl]; exact n1
  clear hc2
  walk_at "go"
  refine itR_res0 hd2 s2 fun GG hGG => ?_
  refine for_invG (fun i env c' => ∃ (us : Tbs) (v4 v5 : Option D), env = [some (.ref p), some (.lst (ps.map ptD)), some d1, some d2, v4, v5] ∧ c' p = some (.ins (He.ga K "Going") [("named", .ref n), ("listed", .ref l)]) ∧ c' n = some (.dK (bs.map bxK)) ∧ c' l = some (.dK (us.map tbK)) ∧ us.map (·.1) = (ts.take i).map (·.1) ∧ (us.map (·.2)).Nodup ∧ (∀ u ∈ us, c' u.2 = some (.lst ((tabF ts u.1).map prD)) ∧ c0 u.2 = none) ∧ SubC c0 c') ⟨[], none, none, rfl, p2, n2, l2, by simp, by simp, by simp, s2⟩ ?_ (fun i env c' h => by obtain ⟨_, _, _, _, _, _, _, _, _, _, h⟩ := h; exact hGG _ h) ?_
  · rintro i d env c' e ⟨us, v4, v5, rfl, hp', hn', hl', hus, hna, hua, hs'⟩
    obtain ⟨t, hti, rfl⟩ := mem_map_at e
    have ht := List.mem_of_getElem? hti
    walk_at "go"
    refine lst_res (res_sub hs' (hy t ht)) ?_
    refine newL_t fun a ha => ?_
    walk_at "go"
    have la : l ≠ a := ne_some_none hl' ha
    have pa : p ≠ a := ne_some_none hp' ha
    have na : n ≠ a := ne_some_none hn' ha
    have a0 := z0 hs' ha
    refine ⟨_, _, _, rfl, updc_ne' pa hp', (by rfl : ([(("named" : Str), D.ref n), ("listed", .ref l)] : List (Str × D)).lookup ("listed" : Str) = some (.ref l)), ?_⟩
    walk_at "go"
    have ul : us.length ≤ 60 := by
      have h1 := congrArg List.length hus
      rw [List.length_map, List.length_map, List.length_take] at h1
      have h2 := nodup_le (l := ts.map (·.1)) (m := U) hb.tn fun x hx => by
        obtain ⟨u, hu, rfl⟩ := List.mem_map.mp hx
        exact (hb.tu u hu).1
      rw [List.length_map] at h2
      have := hb.ul
      omega
    refine set_dK (updc_ne' la hl') rfl (len_lt (by rw [List.length_map]; omega)) ?_
    have hx : t.1 ∉ us.map (·.1) := fun z => by
      rw [hus] at z
      obtain ⟨u, hu, e2⟩ := List.mem_map.mp z
      obtain ⟨j, hj, ej⟩ := List.mem_take_iff_getElem.mp hu
      have hil := (List.getElem?_eq_some_iff.mp hti).1
      have hget := (List.getElem?_eq_some_iff.mp hti).2
      have hj1 : j < i := by omega
      have hnd := hb.tn
      unfold List.Nodup at hnd
      rw [List.pairwise_iff_getElem] at hnd
      refine hnd j i (by rw [List.length_map]; omega) (by rw [List.length_map]; exact hil) hj1 ?_
      rw [List.getElem_map, List.getElem_map, hget, ej, e2]
    rw [put_tb hx]
    refine ⟨us ++ [(t.1, a)], _, _, rfl, ?_, ?_, updc_same, ?_, ?_, fun u hu => ?_, ?_⟩
    · rw [updc_ne pl, updc_ne pa]; exact hp'
    · rw [updc_ne nl, updc_ne na]; exact hn'
    · rw [List.map_append, hus, List.take_add_one, hti, List.map_append]; rfl
    · rw [List.map_append, List.nodup_append]
      refine ⟨hna, by simp, fun u hu v hv z => ?_⟩
      simp only [List.map_cons, List.map_nil, List.mem_singleton] at hv
      subst hv; subst z
      obtain ⟨u2, hu2, e2⟩ := List.mem_map.mp hu
      have := (hua u2 hu2).1
      rw [e2, ha] at this
      cases this
    · rcases List.mem_append.mp hu with z | z
      · obtain ⟨h1, h2⟩ := hua u z
        exact ⟨by rw [updc_ne (ne_lst h1 hl' fun _ z => by cases z), updc_ne (ne_some_none h1 ha)]; exact h1, h2⟩
      · simp only [List.mem_singleton] at z
        subst z
        exact ⟨by rw [updc_ne (Ne.symm la), updc_same, tab_at hb.tn ht], a0⟩
    · exact (hs'.newr a0).newr l0
  rintro env c3 ⟨us, v4, v5, rfl, p3, n3, l3, hus, hna, hua, s3⟩
  rw [List.length_map, List.take_length] at hus
  clear hl hp hn p1 n1 p2 n2 l2 s1 s2
  walk_at "go"
  refine newL_t fun sp hsp => ?_
  have psp : p ≠ sp := ne_some_none p3 hsp
  have nsp : n ≠ sp := ne_some_none n3 hsp
  have lsp : l ≠ sp := ne_some_none l3 hsp
  have sp0 := z0 s3 hsp
  walk_at "go"
  refine ⟨_, _, rfl, updc_ne' psp p3, (show 2 < 900 from by decide), ?_⟩
  rw [show putFD ("spoken" : Str) (.ref sp) ([("named", .ref n), ("listed", .ref l)] : List (Str × D)) = ([("named", .ref n), ("listed", .ref l), ("spoken", .ref sp)] : List (Str × D)) from rfl]
  walk_at "go"
  refine ⟨_, _, rfl, updc_same, (show 3 < 900 from by decide), ?_⟩
  rw [updc_updc, show putFD ("ended" : Str) (.int 0) ([("named", .ref n), ("listed", .ref l), ("spoken", .ref sp)] : List (Str × D)) = ([("named", .ref n), ("listed", .ref l), ("spoken", .ref sp), ("ended", .int 0)] : List (Str × D)) from rfl]
  walk_at "go"
  refine ⟨_, _, rfl, updc_same, (show 4 < 900 from by decide), ?_⟩
  rw [updc_updc, show putFD ("counted" : Str) (.int 0) ([("named", .ref n), ("listed", .ref l), ("spoken", .ref sp), ("ended", .int 0)] : List (Str × D)) = ([("named", .ref n), ("listed", .ref l), ("spoken", .ref sp), ("ended", .int 0), ("counted", .int 0)] : List (Str × D)) from rfl]
  walk_at "go"
  refine ⟨_, _, rfl, updc_same, (show 5 < 900 from by decide), ?_⟩
  rw [updc_updc, show putFD ("within" : Str) (.int 0) ([("named", .ref n), ("listed", .ref l), ("spoken", .ref sp), ("ended", .int 0), ("counted", .int 0)] : List (Str × D)) = ([("named", .ref n), ("listed", .ref l), ("spoken", .ref sp), ("ended", .int 0), ("counted", .int 0), ("within", .int 0)] : List (Str × D)) from rfl]
  walk_at "go"
  refine dict_l rfl (pairs_pt ps) fun b hbb => ?_
  rw [merge_nd (acc := []) (by
    rw [List.nil_append, List.map_map]
    have := inr_nodup hps
    rw [List.map_map] at this
    exact this), List.nil_append]
  obtain ⟨bp, hb1⟩ := updc_none hbb
  obtain ⟨bsp, hb2⟩ := updc_none hb1
  have nb : n ≠ b := ne_some_none n3 hb2
  have lb : l ≠ b := ne_some_none l3 hb2
  have b0 := z0 s3 hb2
  walk_at "go"
  refine ⟨_, _, rfl, updc_ne' (Ne.symm bp) updc_same, (show 6 < 900 from by decide), ?_⟩
  rw [show putFD ("bodies" : Str) (.ref b) ([("named", .ref n), ("listed", .ref l), ("spoken", .ref sp), ("ended", .int 0), ("counted", .int 0), ("within", .int 0)] : List (Str × D)) = ([("named", .ref n), ("listed", .ref l), ("spoken", .ref sp), ("ended", .int 0), ("counted", .int 0), ("within", .int 0), ("bodies", .ref b)] : List (Str × D)) from rfl]
  have np : n ≠ p := Ne.symm pn
  have lp : l ≠ p := Ne.symm pl
  have spp : sp ≠ p := Ne.symm psp
  refine ⟨_, SubC.rfl', q ⟨p, n, l, sp, b, fun a => c0 a = none, U, ps⟩ _ rfl rfl rfl rfl ⟨nl, nb, lb, hp0, n0, l0, sp0, hb.ul, hb.us⟩ ⟨hb.ok, ⟨0, fun _ => rfl, updc_same⟩, ⟨bs.map bxK, ?_, hb.num, fun x => box_num x, hb.keys⟩, ⟨us, ?_, ?_, hna, fun t ht => ?_, fun x hx => ?_⟩, ?_, ?_⟩ ?_⟩
  · show updc (updc (updc (updc c3 sp _) p _) b _) p _ n = _
    rw [updc_ne np, updc_ne nb, updc_ne np, updc_ne nsp]; exact n3
  · show updc (updc (updc (updc c3 sp _) p _) b _) p _ l = _
    rw [updc_ne lp, updc_ne lb, updc_ne lp, updc_ne lsp]; exact l3
  · rw [hus]; exact hb.tn
  · obtain ⟨h1, h2⟩ := hua t ht
    have tsp := ne_some_none h1 hsp
    have tb := ne_some_none h1 hb2
    have tp := ne_lst h1 p3 fun _ z => by cases z
    refine ⟨?_, h2, ?_, tsp⟩
    · have : t.1 ∈ ts.map (·.1) := by rw [← hus]; exact List.mem_map_of_mem ht
      obtain ⟨u, hu, e⟩ := List.mem_map.mp this
      rw [← e]
      exact (hb.tu u hu).1
    · rw [updc_ne tp, updc_ne tb, updc_ne tp, updc_ne tsp]; exact h1
  · exact tab_no (by rw [← hus]; exact hx)
  · show updc (updc (updc (updc c3 sp _) p _) b _) p _ sp = _
    rw [updc_ne spp, updc_ne (Ne.symm bsp), updc_ne spp, updc_same]; rfl
  · show updc (updc (updc (updc c3 sp _) p _) b _) p _ b = _
    rw [updc_ne bp, updc_same]
  · exact (((s3.newr sp0).newr hp0).newr b0).newr hp0
/-- the answer of a run -/
structure Answer (c0 c' : CMap) (A B S : Addr) (us : Tbs) (bs : Bxs) (s : GoSt) : Prop where
  sub : SubC c0 c'
  ha : c' A = some (.lst (bs.map bD))
  hb : c' B = some (.lst (us.map tD))
  hs : c' S = some (.lst (s.said.map D.int))
  tb : Told bs s.box 0
  tt : Told (us.map fun t => (t.1, s.tab t.1)) s.tab []
  at_ : ∀ t ∈ us, c' t.2 = some (.lst ((s.tab t.1).map prD)) ∧ c0 t.2 = none ∧ t.2 ≠ A ∧ t.2 ≠ B ∧ t.2 ≠ S
  na : (us.map (·.2)).Nodup
  a0 : c0 A = none
  b0 : c0 B = none
  s0 : c0 S = none
  n1 : A ≠ B
  n2 : A ≠ S
  n3 : B ≠ S
  lb : bs.length ≤ 60
  lu : us.length ≤ 60
structure PrgOk (U : List Str) (rs : Rs) (ps : Pts) : Prop where
  nd : (ps.map (·.1)).Nodup
  rows : rs.ok U (ps.map (·.1)) ∧ rs.deep ≤ 6
  bd : ∀ p ∈ ps, p.2.ok U (ps.map (·.1)) ∧ p.2.deep ≤ 4
theorem bod_at {ps : Pts} (h : (ps.map (·.1)).Nodup) {p : Str × Rs} (hp : p ∈ ps) : bodF ps p.1 = p.2 := by
  unfold bodF
  cases e : ps.find? fun b => decide (b.1 = p.1) with
  | none =>
    have := List.find?_eq_none.mp e p hp
    simp at this
  | some u =>
    have h1 := List.mem_of_find?_eq_some e
    have h2 : u.1 = p.1 := by simpa using List.find?_some e
    rw [nodup_at h u h1 p hp h2]
    rfl
def sp_plain_run (K : PySem.W.Frag) : DSpec := fun ds c E Q => ∃ (rs : Rs) (ps : Pts) (bs : Bxs) (ts : Tabs) (U : List Str) (M : Int) (d1 d2 : D), ds = [.tup [.lst rs.ds, .lst (ps.map ptD)], d1, d2] ∧ BoxD c d1 bs ∧ TabsD c d2 ts ∧ Beg U M bs ts ∧ PrgOk U rs ps ∧
  ∀ c' A B S us cs s, Answer c c' A B S us cs s → Runs (bodF ps) rs (begun bs ts) s → Leads (bodF ps) (.rows rs) (begun bs ts) s → GoOk M s → ((∀ x, s.box x ≠ 0 → x ∈ U) ∧ ∀ x, s.tab x ≠ [] → x ∈ U) → Q (.tup [.ref A, .ref B, .ref S, .int s.ended]) c'
theorem ok_plain_run {K : PySem.W.Frag} {ds c E Q} (h : sp_plain_run K ds c E Q) : b_plain_run K (sp_do_rows K 215) sp_boxes_told sp_tables_told (sp_Going_init K) (endD E Q) (startE 4 ds) c := by
  obtain ⟨rs, ps, bs, ts, U, M, d1, d2, rfl, hd1, hd2, hb, hp, q⟩ := h
  unfold b_plain_run
  walk_at "go"
  intro p hpn
  refine ⟨p, c, ps, bs, ts, U, M, d1, d2, rfl, hd1, hd2, updc_same, hpn, SubC.new hpn, hb, hp.nd, fun G c1 e1 e2 e3 e4 hG hg s1 => ⟨rfl, ?_⟩⟩
  subst e1
  have hrun : G.run := ⟨hG, fun x hx => by
    rw [e4] at hx ⊢
    obtain ⟨u, hu, rfl⟩ := List.mem_map.mp hx
    rw [bod_at hp.nd hu, e3]
    exact hp.bd u hu⟩
  have hf : Fresh G c1 := fun a ha => by
    rw [e2]
    cases z : c a with
    | none => exact z
    | some k => rw [s1 _ _ z] at ha; cases ha
  walk_at "go"
  refine rows_i hg hrun hf (by rw [e3, e4]; exact hp.rows.1) (by have := hp.rows.2; show 2 * (rs.deep : Int) + 2 + lvl 0 ≤ 215; unfold lvl; omega) fun c2 s hl hg2 hk2 => ?_
  have s2 : SubC c c2 := fun a k e => by
    rw [hk2 a (by rw [e2]; intro z; rw [e] at z; cases z)]
    exact s1 a k e
  obtain ⟨w, hw, hi⟩ := hg2.ins
  obtain ⟨kvs, hn⟩ := hg2.named
  obtain ⟨tb, htb⟩ := hg2.listed
  have hf2 := hk2.fresh hf
  walk_at "go"
  refine ⟨_, _, _, rfl, hi, fl_named, ?_⟩
  walk_at "go"
  refine ⟨_, kvs, G.U, rfl, hn.n, hn.num, hn.key, hG.ul, fun A cs hA htA lA => ?_⟩
  have A0 : c A = none := by have := hf2 A hA; rw [e2] at this; exact this
  have gA : G.g ≠ A := ne_some_none hi hA
  have lA2 : G.l ≠ A := ne_some_none htb.l hA
  have sA : G.sp ≠ A := ne_some_none hg2.spoken hA
  walk_at "go"
  refine ⟨_, _, _, rfl, updc_ne' gA hi, fl_listed, ?_⟩
  walk_at "go"
  have tbl : tb.length ≤ 60 := by
    have := nodup_le (l := tb.map (·.1)) (m := G.U) htb.nd fun y hy => by
      obtain ⟨t, ht, rfl⟩ := List.mem_map.mp hy
      exact (htb.at_ t ht).1
    rw [List.length_map] at this
    have := hG.ul
    omega
  refine ⟨_, tb, s.tab, rfl, updc_ne' lA2 htb.l, htb.nd, tbl, fun t ht => ?_, htb.no, fun B us hB htB hus lu => ?_⟩
  · have := (htb.at_ t ht).2.2.1
    rw [updc_ne (ne_some_none this hA)]; exact this
  obtain ⟨BA, hB1⟩ := updc_none hB
  have B0 : c B = none := by have := hf2 B hB1; rw [e2] at this; exact this
  have gB : G.g ≠ B := ne_some_none hi hB1
  have sB : G.sp ≠ B := ne_some_none hg2.spoken hB1
  have S0 : c G.sp = none := by have := hG.ps; rw [e2] at this; exact this
  walk_at "go"
  refine ⟨_, _, _, rfl, updc_ne' gB (updc_ne' gA hi), fl_spoken, ?_⟩
  walk_at "go"
  refine ⟨_, _, _, rfl, updc_ne' gB (updc_ne' gA hi), fl_ended, ?_⟩
  walk_at "go"
  have hb2 : Told cs s.box 0 := by rw [show s.box = numAt kvs from (funext hn.val).symm]; exact htA
  refine ⟨_, SubC.rfl', q _ A B G.sp us cs s ⟨(s2.newr A0).newr B0, ?_, updc_same, ?_, hb2, htB, fun t ht => ?_, ?_, A0, B0, S0, Ne.symm BA, Ne.symm sA, Ne.symm sB, lA, lu⟩ ?_ ?_ hg2.ok ⟨fun x hx => ?_, fun x hx => ?_⟩⟩
  · rw [updc_ne (Ne.symm BA), updc_same]
  · rw [updc_ne sB, updc_ne sA]; exact hg2.spoken
  · obtain ⟨h1, h2, h3, h4⟩ := htb.at_ t (hus t ht)
    have tA := ne_some_none h3 hA
    have tB := ne_some_none h3 hB1
    rw [e2] at h2
    exact ⟨by rw [updc_ne tB, updc_ne tA]; exact h3, h2, tA, tB, h4⟩
  · have n1 : (us.map (·.1)).Nodup := by
      have := htB.nd
      rw [List.map_map] at this
      exact this
    have n2 := nodup_of_map n1
    unfold List.Nodup at n2 ⊢
    rw [List.pairwise_map]
    refine List.Pairwise.imp_of_mem (fun {a b} ha hb2 ne z => ne ?_) n2
    exact nodup_at htb.na a (hus a ha) b (hus b hb2) z
  · rw [← e4]; exact hl.runs
  · rw [← e4]; exact hl
  · rw [← e3]
    refine Classical.byContradiction fun z => hx ?_
    rw [← hn.val]
    refine num_no fun z2 => z ?_
    obtain ⟨kv, hkv, e⟩ := List.mem_map.mp z2
    obtain ⟨y, hy, e2⟩ := hn.key.2 kv hkv
    rw [e2] at e
    cases e
    exact hy
  · rw [← e3]
    have : x ∈ tb.map (·.1) := Classical.byContradiction fun z => hx (htb.no x z)
    obtain ⟨t, ht, rfl⟩ := List.mem_map.mp this
    exact (htb.at_ t ht).1
/-! names of small letters -/
abbrev resv : List Str := ["let", "say", "if", "else", "end", "while", "add", "drop", "count", "each", "to", "do", "stop", "who"]
structure Wd (x : Str) : Prop where
  lo : 1 ≤ x.length
  hi : x.length ≤ 8
  abc : ∀ k ∈ x.cps.toList, 97 ≤ k ∧ k ≤ 122
theorem SOk.of_abc {x : Str} {n : Nat} (h : x.length ≤ n) (h' : ∀ k ∈ x.cps.toList, 97 ≤ k ∧ k ≤ 122) : SOk n x := by
  have e : x = ⟨x.cps.toList.toArray⟩ := by cases x; simp
  rw [e]
  exact .of_list (by simpa [Str.length] using h) fun k hk => by have := h' k hk; omega
theorem Wd.sok {x : Str} (h : Wd x) : SOk 8 x := .of_abc h.hi h.abc
theorem len_cps (x : Str) : x.cps.toList.length = x.length := by simp [Str.length]
theorem app_cps (x y : Str) : (x ++ y).cps.toList = x.cps.toList ++ y.cps.toList := by
  show (x.cps ++ y.cps).toList = _
  simp
theorem cut_cps (x : Str) (lo hi : Option Int) : (cutS x lo hi).cps.toList = cutG x.cps.toList lo hi := by
  unfold cutS cutG
  simp [Str.length]
theorem join0_chars : ∀ ks : List Nat, (Txt.join "" (ks.map fun k => (⟨#[k]⟩ : Str))).cps.toList = ks
  | [] => by rw [TL.join_eq]; rfl
  | [k] => by rw [TL.join_eq]; rfl
  | k :: j :: r => by
    have ih := join0_chars (j :: r)
    rw [TL.join_eq] at ih ⊢
    show ((⟨#[k]⟩ : Str) ++ Str.ofString "" ++ Str.join "" ((j :: r).map fun k => (⟨#[k]⟩ : Str))).cps.toList = _
    show (((#[k] : Array Nat) ++ (Str.ofString "").cps) ++ (Str.join "" ((j :: r).map fun k => (⟨#[k]⟩ : Str))).cps).toList = _
    rw [Array.toList_append, Array.toList_append, ih]
    rfl
theorem abc_list : (Str.ofString "abcdefghijklmnopqrstuvwxyz").cps.toList = (List.range 26).map (97 + ·) := by decide +kernel
theorem ix_abc3 {c : CMap} {Q : DK} {i : Int} (h0 : 0 ≤ i) (h1 : i < 26) (q : Q (.str ⟨#[97 + i.toNat]⟩) c) : idxR c (.str "abcdefghijklmnopqrstuvwxyz") (.int i) Q := by
  refine ix_str (by decide +kernel) (k := 97 + i.toNat) (atn (j := i.toNat) (by omega) ?_) q
  rw [abc_list, List.getElem?_map, List.getElem?_range (by omega)]
  rfl
def sp_law_letters : DSpec := fun ds c E Q => ∃ (p : Addr) (m : Int) (k : Cell), ds = [.ref p, .int m] ∧ 1 ≤ m ∧ m ≤ 8 ∧ c p = some k ∧ RlOk k ∧ ∀ (x : Str) k', (x.length : Int) = m → (∀ j ∈ x.cps.toList, 97 ≤ j ∧ j ≤ 122) → RlOk k' → Q (.str x) (updc c p k')
/-- the words that are tried, one behind the other -/
def trW (start : Str) (s : Nat) : Str := start ++ ⟨#[97 + s / 26]⟩ ++ ⟨#[97 + s % 26]⟩
theorem trW_inj {start : Str} {a b : Nat} (h : trW start a = trW start b) : a = b := by
  have h := congrArg (fun s : Str => s.cps.toList) h
  unfold trW at h
  simp only [app_cps] at h
  rw [List.append_assoc, List.append_assoc] at h
  have h := List.append_cancel_left h
  simp at h
  omega
theorem trW_wd {start : Str} {s : Nat} (h : start.length ≤ 6) (h' : ∀ k ∈ start.cps.toList, 97 ≤ k ∧ k ≤ 122) (hs : s < 676) : Wd (trW start s) := by
  have e : (trW start s).cps.toList = start.cps.toList ++ [97 + s / 26] ++ [97 + s % 26] := by
    unfold trW
    rw [app_cps, app_cps]
  have l : (trW start s).length = start.length + 2 := by
    rw [← len_cps, e, ← len_cps start]; simp
  refine ⟨by omega, by omega, fun k hk => ?_⟩
  rw [e] at hk
  simp only [List.mem_append, List.mem_singleton] at hk
  rcases hk with (hk | rfl) | rfl
  · exact h' k hk
  · omega
  · omega
theorem tried {F : List Str} {start : Str} {s : Nat} (h : ∀ j, j < s → trW start j ∈ F) : s ≤ F.length := by
  have := nodup_le (l := (List.range s).map (trW start)) (m := F) ?_ ?_
  · simpa using this
  · unfold List.Nodup
    rw [List.pairwise_map]
    exact List.pairwise_lt_range.imp fun h z => by have := trW_inj z; omega
  · intro x hx
    obtain ⟨j, hj, rfl⟩ := List.mem_map.mp hx
    exact h j (List.mem_range.mp hj)
structure Pool (ss : List Str) : Prop where
  wd : ∀ x ∈ ss, Wd x
  nd : ss.Nodup
theorem Pool.sok {ss : List Str} (h : Pool ss) : ∀ x ∈ ss, SOk 40 x := fun x hx => (h.wd x hx).sok.mono (by decide)
/-- the loop for an unlike word -/
theorem pool_loop {E : XD} {Q : DK} {DD : DEnds} {p u : Addr} {k : Cell} {base wd : Str} {m style at' : Int} {ss : List Str} {c : CMap} {v8 : Option D} (hu : c u = some (.lst (ss.map D.str))) (hss : ss.length ≤ 30) (hw : Wd wd)
    (q : ∀ x v11, Wd x → x ∉ ss → DD.nx [some (.ref p), some (.str "abcdefghijklmnopqrstuvwxyz"), some (.lst (resv.map D.str)), some (.int m), some (.int style), some (.str base), some (.int at'), some (.ref u), v8, some (.str x), some (.str (cutS wd none (some 6))), v11] c) :
    (wWhile (wOr (wTst (wOp (inR false) (wVar 9) (wVar 7))) (wTst (wOp (inR false) (wVar 9) (wVar 2)))) (wSeq (wAsg 9 (wOp (addR false) (wOp (addR false) (wVar 10) (wOp idxR (wVar 1) (wOp (fdivR) (wVar 11) (wC (.int 26))))) (wOp idxR (wVar 1) (wOp (modR) (wVar 11) (wC (.int 26))))))
  (wAsg 11 (wOp (addR false) (wVar 11) (wC (.int 1)))))) DD [some (.ref p), some (.str "abcdefghijklmnopqrstuvwxyz"), some (.lst (resv.map D.str)), some (.int m), some (.int style), some (.str base), some (.int at'), some (.ref u), v8, some (.str wd), some (.str (cutS wd none (some 6))), some (.int 0)] c := by
  have s1 : (cutS wd none (some 6)).length ≤ 6 := by
    rw [← len_cps, cut_cps, show cutG wd.cps.toList none (some 6) = wd.cps.toList.take 6 from cut_to _ 6, List.length_take]
    omega
  have s2 : ∀ k ∈ (cutS wd none (some 6)).cps.toList, 97 ≤ k ∧ k ≤ 122 := fun k hk => by
    rw [cut_cps, show cutG wd.cps.toList none (some 6) = wd.cps.toList.take 6 from cut_to _ 6] at hk
    exact hw.abc k (List.mem_of_mem_take hk)
  generalize cutS wd none (some 6) = start at *
  refine ⟨fun n env c' => c' = c ∧ ∃ (s : Nat) (x : Str), n = 100 - s ∧ s ≤ 44 + 1 ∧ env = [some (.ref p), some (.str "abcdefghijklmnopqrstuvwxyz"), some (.lst (resv.map D.str)), some (.int m), some (.int style), some (.str base), some (.int at'), some (.ref u), v8, some (.str x), some (.str start), some (.int (s : Int))] ∧ Wd x ∧ (∀ j, j + 1 < s → trW start j ∈ ss ++ resv) ∧ (s = 0 ∨ x = trW start (s - 1)), ⟨_, rfl, 0, wd, rfl, by omega, rfl, hw, by omega, .inl rfl⟩, ?_⟩
  rintro n env c' ⟨rfl, s, x, rfl, hs, rfl, hx, hj, hx2⟩
  have more : x ∈ ss ++ resv → s ≤ 44 ∧ ∀ j, j + 1 < s + 1 → trW start j ∈ ss ++ resv := fun hm => by
    have h1 : ∀ j, j < s → trW start j ∈ ss ++ resv := fun j hjs => by
      by_cases e : j + 1 < s
      · exact hj j e
      · rcases hx2 with rfl | rfl
        · omega
        · rwa [show j = s - 1 from by omega]
    have h2 := tried h1
    rw [List.length_append] at h2
    have : resv.length = 14 := rfl
    exact ⟨by omega, fun j hjs => h1 j (by omega)⟩
  have go : x ∈ ss ++ resv → ∃ N : DEnv → CMap → Prop, (∀ env' c'', N env' c'' → ∃ m', m' < 100 - s ∧ ∃ c2, SubC c2 c'' ∧ c2 = c' ∧ ∃ (s2 : Nat) (x : Str), m' = 100 - s2 ∧ s2 ≤ 44 + 1 ∧ env' = [some (.ref p), some (.str "abcdefghijklmnopqrstuvwxyz"), some (.lst (resv.map D.str)), some (.int m), some (.int style), some (.str base), some (.int at'), some (.ref u), v8, some (.str x), some (.str start), some (.int (s2 : Int))] ∧ Wd x ∧ (∀ j, j + 1 < s2 → trW start j ∈ ss ++ resv) ∧ (s2 = 0 ∨ x = trW start (s2 - 1))) ∧
      (wSeq (wAsg 9 (wOp (addR false) (wOp (addR false) (wVar 10) (wOp idxR (wVar 1) (wOp (fdivR) (wVar 11) (wC (.int 26))))) (wOp idxR (wVar 1) (wOp (modR) (wVar 11) (wC (.int 26))))))
  (wAsg 11 (wOp (addR false) (wVar 11) (wC (.int 1))))) { DD with nx := N, ct := N, bk := DD.nx } [some (.ref p), some (.str "abcdefghijklmnopqrstuvwxyz"), some (.lst (resv.map D.str)), some (.int m), some (.int style), some (.str base), some (.int at'), some (.ref u), v8, some (.str x), some (.str start), some (.int (s : Int))] c' := by
    intro hm
    obtain ⟨h44, hj2⟩ := more hm
    refine ⟨fun env' c2 => c2 = c' ∧ ∃ x : Str, env' = [some (.ref p), some (.str "abcdefghijklmnopqrstuvwxyz"), some (.lst (resv.map D.str)), some (.int m), some (.int style), some (.str base), some (.int at'), some (.ref u), v8, some (.str x), some (.str start), some (.int ((s : Int) + 1))] ∧ x = trW start s, ?_, ?_⟩
    · rintro env' c2 ⟨rfl, x, rfl, rfl⟩
      exact ⟨100 - (s + 1), by omega, _, SubC.rfl', rfl, s + 1, _, rfl, by omega, by push_cast; rfl, trW_wd s1 s2 (by omega), hj2, .inr rfl⟩
    · walk_at "go"
      refine ix_abc3 (by omega) (by omega) ?_
      walk_at "go"
      have o1 : SOk 6 start := .of_abc s1 s2
      refine add_sok o1 (.chr (by omega)) (by decide) fun o2 => ?_
      walk_at "go"
      refine ix_abc3 (by omega) (by omega) ?_
      walk_at "go"
      refine add_sok o2 (.chr (by omega)) (by decide) fun o3 => ?_
      walk_at "go"
      refine ⟨rfl, _, rfl, ?_⟩
      unfold trW
      rw [show ((s : Int) / 26).toNat = s / 26 from by omega, show ((s : Int) % 26).toNat = s % 26 from by omega]
  walk_at "go"
  refine in_l (res_c hu) rfl (strs_flat ss) ?_
  walk_at "go"
  refine ite_fd (fun h => ?_) (fun h => ?_)
  · rw [if_pos rfl]
    exact go (List.mem_append_left _ (str_mem.mp h))
  · walk_at "go"
    refine in_l rfl rfl (strs_flat resv) ?_
    walk_at "go"
    refine ite_fd (fun h2 => ?_) (fun h2 => ?_)
    · exact go (List.mem_append_right _ (str_mem.mp h2))
    · exact q x _ hx fun z => h (str_mem.mpr z)
theorem wd_style1 {base wd : Str} {at' : Int} (hb : Wd base) (hw : Wd wd) (a0 : 0 ≤ at') (a1 : at' < (base.length : Int)) : Wd (cutS base none (some at') ++ cutS wd none (some 1) ++ cutS base (some (at' + 1)) none) := by
  obtain ⟨a, rfl⟩ : ∃ a : Nat, at' = (a : Int) := ⟨at'.toNat, by omega⟩
  have e : (cutS base none (some (a : Int)) ++ cutS wd none (some 1) ++ cutS base (some ((a : Int) + 1)) none).cps.toList = base.cps.toList.take a ++ wd.cps.toList.take 1 ++ base.cps.toList.drop (a + 1) := by
    rw [app_cps, app_cps, cut_cps, cut_cps, cut_cps, cut_to, show cutG wd.cps.toList none (some 1) = wd.cps.toList.take 1 from cut_to _ 1, show (a : Int) + 1 = ((a + 1 : Nat) : Int) from rfl, cut_from]
  have lb := len_cps base
  have lw := len_cps wd
  have := hw.lo
  have l : (cutS base none (some (a : Int)) ++ cutS wd none (some 1) ++ cutS base (some ((a : Int) + 1)) none).length = base.length := by
    rw [← len_cps, e]
    simp only [List.length_append, List.length_take, List.length_drop]
    omega
  refine ⟨by rw [l]; exact hb.lo, by rw [l]; exact hb.hi, fun k hk => ?_⟩
  rw [e] at hk
  simp only [List.mem_append] at hk
  rcases hk with (hk | hk) | hk
  · exact hb.abc k (List.mem_of_mem_take hk)
  · exact hw.abc k (List.mem_of_mem_take hk)
  · exact hb.abc k (List.mem_of_mem_drop hk)
theorem wd_style2 {base wd : Str} {m : Int} (hb : Wd base) (hw : Wd wd) (a0 : 0 ≤ m) (a1 : m < 8) : Wd (cutS (base ++ wd) none (some (1 + m))) := by
  obtain ⟨a, rfl⟩ : ∃ a : Nat, m = (a : Int) := ⟨m.toNat, by omega⟩
  have e : (cutS (base ++ wd) none (some (1 + (a : Int)))).cps.toList = (base.cps.toList ++ wd.cps.toList).take (1 + a) := by
    rw [cut_cps, show 1 + (a : Int) = ((1 + a : Nat) : Int) from by push_cast; rfl, cut_to, app_cps]
  have lb := len_cps base
  have := hb.lo
  have l := congrArg List.length e
  rw [len_cps, List.length_take, List.length_append] at l
  refine ⟨by omega, by omega, fun k hk => ?_⟩
  rw [e] at hk
  rcases List.mem_append.mp (List.mem_of_mem_take hk) with hk | hk
  · exact hb.abc k hk
  · exact hw.abc k hk
def sp_law_pool : DSpec := fun ds c E Q => ∃ (p : Addr) (k : Cell), ds = [.ref p] ∧ c p = some k ∧ RlOk k ∧ ∀ (ss : List Str) k', Pool ss → 2 ≤ ss.length → ss.length ≤ 30 → RlOk k' → Q (.lst (ss.map D.str)) (updc c p k')
def sp_law_name : DSpec := fun ds c E Q => ∃ (p : Addr) (k : Cell) (ss : List Str), ds = [.ref p, .lst (ss.map D.str)] ∧ c p = some k ∧ RlOk k ∧ 2 ≤ ss.length ∧ ss.length ≤ 30 ∧ ∀ (x : Str) k', x ∈ ss.dropLast → RlOk k' → Q (.str x) (updc c p k')
def sp_law_plain : DSpec := fun ds c E Q => ∃ (p : Addr) (k : Cell) (ss : List Str), ds = [.ref p, .lst (ss.map D.str)] ∧ c p = some k ∧ RlOk k ∧ 2 ≤ ss.length ∧ ss.length ≤ 30 ∧ Pool ss ∧ ∀ (a : Pl) k', a.ok → RlOk k' → Q a.d (updc c p k')
def sp_law_side : DSpec := fun ds c E Q => ∃ (p : Addr) (k : Cell) (ss : List Str), ds = [.ref p, .lst (ss.map D.str)] ∧ c p = some k ∧ RlOk k ∧ 2 ≤ ss.length ∧ ss.length ≤ 30 ∧ Pool ss ∧ ∀ (a : Sd) k', a.ok → RlOk k' → Q a.d (updc c p k')
/-! alike, down to the kinds -/
theorem zip_res2 {c : CMap} {d e : D} {xs ys : List D} {N : List D → (CMap → Prop) → CMap → Prop} (h : res c d = .lst xs) (h2 : res c e = .lst ys) (q : ∀ G : CMap → Prop, (∀ A k, c A = none → G (updc c A k)) → N ((xs.zip ys).map fun p => D.tup [p.1, p.2]) G c) : zipR [d, e] c N := by
  obtain ⟨G, g1, g2⟩ := res_lsG h
  obtain ⟨G', g3, g4⟩ := res_lsG h2
  exact .inl ⟨xs, ys, _, _, g1, g3, q _ fun A k hA => ⟨g2 A k hA, g4 A k hA⟩⟩
def sp_law_alike (n : Nat) : DSpec := fun ds c E Q => ∃ d e v, ds = [d, e] ∧ Rsv c n d v ∧ Rsv c n e v ∧ Q (.bl true) c
theorem void_law_alike : ∀ ds c E Q, ¬ sp_law_alike 0 ds c E Q := by rintro ds c E Q ⟨d, e, v, _, h, _⟩; exact h
theorem pair_zip2 {n : Nat} {c : CMap} : ∀ {a b v : List D}, Paired (Rsv c n) a v → Paired (Rsv c n) b v → ∀ p ∈ a.zip b, ∃ w, Rsv c n p.1 w ∧ Rsv c n p.2 w
  | _, _, _, .nil, .nil, p, h => by cases h
  | _, _, _, .cons h t, .cons k u, p, hp => by
    rw [List.zip_cons_cons] at hp
    rcases List.mem_cons.mp hp with rfl | hp
    · exact ⟨_, h, k⟩
    · exact pair_zip2 t u p hp
theorem ok_law_alike {n : Nat} {ds c E Q} (h : sp_law_alike (n + 1) ds c E Q) : b_law_alike (sp_law_alike n) (endD E Q) (startE 4 ds) c := by
  obtain ⟨d, e, v, rfl, h, k, q⟩ := h
  unfold b_law_alike
  have ff : (true ^^ decide (false = false)) = false := by decide
  have tt : (true ^^ decide (true = true)) = false := by decide
  have f3 : (false ^^ decide (false = false)) = true := by decide
  have nn : ∀ {d : D}, d ≠ .non → (false ^^ decide (d = D.non)) = false := fun h => by simp [h]
  cases v with
  | int i =>
    obtain rfl : d = .int i := h
    obtain rfl : e = .int i := k
    walk_at "go"
    rw [nn (by intro z; cases z)]
    walk_at "go"
    refine ⟨_, SubC.rfl', ?_⟩
    simpa using q
  | str x =>
    obtain ⟨rfl, ok⟩ : d = .str x ∧ PyData.strOk x = true := h
    obtain ⟨rfl, _⟩ : e = .str x ∧ PyData.strOk x = true := k
    walk_at "go"
    rw [nn (by intro z; cases z)]
    walk_at "go"
    rw [f3]
    walk_at "go"
    have hx : DL.eqOk (.str x) := ⟨ok, by simp [DL.dep]⟩
    refine eq_dd (d' := .str x) (e' := .str x) rfl rfl hx hx ?_
    exact ⟨_, SubC.rfl', by rw [decide_eq_true (rfl : D.str x = D.str x)]; exact q⟩
  | tup es =>
    obtain ⟨ds, rfl, hl, hp⟩ : ∃ ds, d = .tup ds ∧ ds.length < 16777216 ∧ Paired (Rsv c n) ds es := h
    obtain ⟨ds2, rfl, hl2, hp2⟩ : ∃ ds, e = .tup ds ∧ ds.length < 16777216 ∧ Paired (Rsv c n) ds es := k
    walk_at "go"
    rw [tt]
    walk_at "go"
    rw [ff]
    walk_at "go"
    refine ite_td (fun h => absurd (by rw [Paired.length hp, Paired.length hp2]) h) (fun _ => ?_)
    walk_at "go"
    intro A hA
    refine comp_mapL (fun _ => some (.bl true)) hA (by rw [List.length_zip]; omega) ?_ ?_
    · intro x c' k hx hc hk
      obtain ⟨w, w1, w2⟩ := pair_zip2 hp hp2 x hx
      walk_at "go"
      refine ⟨_, _, w, rfl, rsv_sub hc n _ _ w1, rsv_sub hc n _ _ w2, hk⟩
    · walk_at "go"
      obtain ⟨bs, h1, h2⟩ := bls_true (ds.zip ds2)
      refine all_l h1 ?_
      rw [h2]
      exact ⟨_, SubC.rfl', q⟩
  | lst es =>
    obtain ⟨ds, hr, hl, hp⟩ : ∃ ds, res c d = .lst ds ∧ ds.length < 16777216 ∧ Paired (Rsv c n) ds es := h
    obtain ⟨ds2, hr2, hl2, hp2⟩ : ∃ ds, res c e = .lst ds ∧ ds.length < 16777216 ∧ Paired (Rsv c n) ds es := k
    have ht := res_tyN hr
    have ht2 := res_tyN hr2
    walk_at "go"
    refine isi_i (b := false) ht2 rfl ?_
    walk_at "go"
    refine isi_i (b := true) ht2 rfl ?_
    walk_at "go"
    refine isi_i (b := false) ht rfl ?_
    walk_at "go"
    refine isi_i (b := false) ht2 rfl ?_
    walk_at "go"
    rw [ff]
    walk_at "go"
    refine isi_i (b := true) ht rfl ?_
    walk_at "go"
    refine isi_i (b := true) ht2 rfl ?_
    walk_at "go"
    rw [tt]
    walk_at "go"
    refine len_res hr ?_
    walk_at "go"
    refine len_res hr2 ?_
    walk_at "go"
    refine ite_td (fun h => absurd (by rw [Paired.length hp, Paired.length hp2]) h) (fun _ => ?_)
    walk_at "go"
    refine zip_res2 hr hr2 fun G hG => ?_
    intro A hA
    refine comp_mapG (m := false) (fun _ => some (.bl true)) hA (by rw [List.length_zip]; omega) (fun k => hG A k hA) ?_ ?_
    · intro x c' k hx hc hk
      obtain ⟨w, w1, w2⟩ := pair_zip2 hp hp2 x hx
      walk_at "go"
      refine ⟨_, _, w, rfl, rsv_sub hc n _ _ w1, rsv_sub hc n _ _ w2, hk⟩
    · rw [if_neg (by decide)]
      walk_at "go"
      obtain ⟨bs, h1, h2⟩ := bls_true (ds.zip ds2)
      refine all_l h1 ?_
      rw [h2]
      exact ⟨_, SubC.rfl', q⟩
  | _ => exact h.elim
/-! rows as data that == tells apart -/
theorem Pl.okD {a : Pl} (h : a.ok) : DL.okD a.d = true ∧ DL.dep a.d = 1 := by
  cases a with
  | num n => exact ⟨by simp only [Pl.d, DL.okD, okDs, Bool.and_true]; decide +kernel, rfl⟩
  | nam x => exact ⟨by simp only [Pl.d, DL.okD, okDs, Bool.and_true, (show SOk 40 x from h).2]; decide +kernel, rfl⟩
theorem sgn_str {s : Str} (h : s = "+" ∨ s = "-" ∨ s = "*") : PyData.strOk s = true := by rcases h with rfl | rfl | rfl <;> decide +kernel
theorem lte_str {s : Str} (h : s = "<" ∨ s = "=") : PyData.strOk s = true := by rcases h with rfl | rfl <;> decide +kernel
theorem Sd.okD {a : Sd} (h : a.ok) : DL.okD a.d = true ∧ DL.dep a.d ≤ 2 := by
  cases a with
  | one a => obtain ⟨h1, h2⟩ := Pl.okD h; exact ⟨h1, by show DL.dep a.d ≤ 2; omega⟩
  | op s a b =>
    obtain ⟨h1, h2⟩ := Pl.okD h.2.1
    obtain ⟨h3, h4⟩ := Pl.okD h.2.2
    refine ⟨?_, ?_⟩
    · simp only [Sd.d, DL.okD, okDs, Bool.and_true, h1, h3, sgn_str h.1]
    · simp only [Sd.d, DL.dep, deps, h2, h4]; decide
mutual
theorem Rw.okD {U xs : List Str} (hU : ∀ x ∈ U, SOk 40 x) (hX : ∀ x ∈ xs, SOk 40 x) : ∀ {r : Rw}, r.ok U xs → DL.okD r.d = true ∧ DL.dep r.d ≤ 2 * r.deep + 3
  | .let_ x s, h => by
    simp only [Rw.ok] at h
    obtain ⟨h1, h2⟩ := Sd.okD h.2
    refine ⟨?_, ?_⟩
    · simp only [Rw.d, DL.okD, okDs, Bool.and_true, h1, (hU _ h.1).2]; decide +kernel
    · simp only [Rw.d, DL.dep, deps, Rw.deep]; omega
  | .say s, h => by
    simp only [Rw.ok] at h
    obtain ⟨h1, h2⟩ := Sd.okD h
    refine ⟨?_, ?_⟩
    · simp only [Rw.d, DL.okD, okDs, Bool.and_true, h1]; decide +kernel
    · simp only [Rw.d, DL.dep, deps, Rw.deep]; omega
  | .add x s t, h => by
    simp only [Rw.ok] at h
    obtain ⟨h1, h2⟩ := Sd.okD h.2.1
    obtain ⟨h3, h4⟩ := Sd.okD h.2.2
    refine ⟨?_, ?_⟩
    · simp only [Rw.d, DL.okD, okDs, Bool.and_true, h1, h3, (hU _ h.1).2]; decide +kernel
    · simp only [Rw.d, DL.dep, deps, Rw.deep]; omega
  | .drop x s, h => by
    simp only [Rw.ok] at h
    obtain ⟨h1, h2⟩ := Sd.okD h.2
    refine ⟨?_, ?_⟩
    · simp only [Rw.d, DL.okD, okDs, Bool.and_true, h1, (hU _ h.1).2]; decide +kernel
    · simp only [Rw.d, DL.dep, deps, Rw.deep]; omega
  | .count x y, h => by
    simp only [Rw.ok] at h
    refine ⟨?_, ?_⟩
    · simp only [Rw.d, DL.okD, okDs, Bool.and_true, (hU _ h.1).2, h.2.2]; decide +kernel
    · simp only [Rw.d, DL.dep, deps, Rw.deep]; omega
  | .do_ x, h => by
    simp only [Rw.ok] at h
    refine ⟨?_, ?_⟩
    · simp only [Rw.d, DL.okD, okDs, Bool.and_true, (hX _ h).2]; decide +kernel
    · simp only [Rw.d, DL.dep, deps, Rw.deep]; omega
  | .stop, h => ⟨by decide +kernel, by decide⟩
  | .each t a b rs, h => by
    simp only [Rw.ok] at h
    obtain ⟨h1, h2⟩ := Rs.okD hU hX h.2.2.2
    refine ⟨?_, ?_⟩
    · simp only [Rw.d, DL.okD, okDs, Bool.and_true, h1, h.1.2, (hU _ h.2.1).2, (hU _ h.2.2.1).2]; decide +kernel
    · simp only [Rw.d, DL.dep, deps, Rw.deep]; omega
  | .whl g a b rs, h => by
    simp only [Rw.ok] at h
    obtain ⟨h1, h2⟩ := Rs.okD hU hX h.2.2.2
    obtain ⟨h3, h4⟩ := Sd.okD h.2.1
    obtain ⟨h5, h6⟩ := Sd.okD h.2.2.1
    refine ⟨?_, ?_⟩
    · simp only [Rw.d, DL.okD, okDs, Bool.and_true, h1, h3, h5, lte_str h.1]; decide +kernel
    · simp only [Rw.d, DL.dep, deps, Rw.deep]; omega
  | .ifr g a b rs es, h => by
    simp only [Rw.ok] at h
    obtain ⟨h1, h2⟩ := Rs.okD hU hX h.2.2.2.1
    obtain ⟨h3, h4⟩ := Sd.okD h.2.1
    obtain ⟨h5, h6⟩ := Sd.okD h.2.2.1
    obtain ⟨h7, h8⟩ := Rs.okD hU hX h.2.2.2.2
    refine ⟨?_, ?_⟩
    · simp only [Rw.d, DL.okD, okDs, Bool.and_true, h1, h3, h5, h7, lte_str h.1]; decide +kernel
    · simp only [Rw.d, DL.dep, deps, Rw.deep]; omega
theorem Rs.okD {U xs : List Str} (hU : ∀ x ∈ U, SOk 40 x) (hX : ∀ x ∈ xs, SOk 40 x) : ∀ {rs : Rs}, rs.ok U xs → okDs rs.ds = true ∧ deps rs.ds ≤ 2 * rs.deep + 3
  | .nil, _ => ⟨rfl, by simp only [Rs.ds, deps]; omega⟩
  | .cons r rs, h => by
    simp only [Rs.ok] at h
    obtain ⟨h1, h2⟩ := Rw.okD hU hX h.1
    obtain ⟨h3, h4⟩ := Rs.okD hU hX h.2
    refine ⟨by simp only [Rs.ds, okDs, h1, h3, Bool.and_true], ?_⟩
    simp only [Rs.ds, deps, Rs.deep]; omega
end
theorem bs_okD {U : List Str} (hU : ∀ x ∈ U, SOk 40 x) : ∀ {bs : Bxs}, (∀ b ∈ bs, b.1 ∈ U) → okDs (bs.map bD) = true ∧ deps (bs.map bD) ≤ 1
  | [], _ => ⟨rfl, by simp [deps]⟩
  | b :: r, h => by
    obtain ⟨h1, h2⟩ := bs_okD hU (bs := r) fun x hx => h x (List.mem_cons_of_mem _ hx)
    refine ⟨?_, ?_⟩
    · simp only [List.map_cons, okDs, bD, DL.okD, h1, (hU _ (h b List.mem_cons_self)).2, Bool.and_true]
    · simp only [List.map_cons, deps, bD, DL.dep]; omega
theorem ts_okD {U : List Str} (hU : ∀ x ∈ U, SOk 40 x) : ∀ {ts : Tabs}, (∀ t ∈ ts, t.1 ∈ U) → okDs (ts.map tbD) = true ∧ deps (ts.map tbD) ≤ 3
  | [], _ => ⟨rfl, by simp [deps]⟩
  | t :: r, h => by
    obtain ⟨h1, h2⟩ := ts_okD hU (ts := r) fun x hx => h x (List.mem_cons_of_mem _ hx)
    obtain ⟨h3, h4⟩ := prs_ok t.2
    refine ⟨?_, ?_⟩
    · simp only [List.map_cons, okDs, tbD, DL.okD, h1, h3, (hU _ (h t List.mem_cons_self)).2, Bool.and_true]
    · simp only [List.map_cons, deps, tbD, DL.dep]; omega
/-! answers resolved -/
theorem rsv_lst {c : CMap} {n : Nat} {d : D} {ds es : List D} (h : res c d = .lst ds) (hl : ds.length < 16777216) (p : Paired (Rsv c n) ds es) : Rsv c (n + 1) d (.lst es) := ⟨ds, h, hl, p⟩
theorem rsv_tup {c : CMap} {n : Nat} {ds es : List D} (hl : ds.length < 16777216) (p : Paired (Rsv c n) ds es) : Rsv c (n + 1) (.tup ds) (.tup es) := ⟨ds, rfl, hl, p⟩
theorem rsv_b {c : CMap} {n : Nat} {b : Str × Int} (h : SOk 40 b.1) : Rsv c (n + 2) (bD b) (bD b) := rsv_tup (by simp) (.cons ⟨rfl, h.2⟩ (.cons rfl .nil))
theorem rsv_pr {c : CMap} {n : Nat} {p : Int × Int} : Rsv c (n + 2) (prD p) (prD p) := rsv_tup (by simp) (.cons rfl (.cons rfl .nil))
theorem rsv_ints {c : CMap} {n : Nat} (xs : List Int) : Paired (Rsv c (n + 1)) (xs.map D.int) (xs.map D.int) := pair_map fun x _ => rfl
theorem rsv_tb {c : CMap} {n : Nat} {t : Str × List (Int × Int)} (h : SOk 40 t.1) (hl : t.2.length < 16777216) : Rsv c (n + 4) (tbD t) (tbD t) :=
  rsv_tup (by simp) (.cons ⟨rfl, h.2⟩ (.cons (rsv_lst rfl (by rw [List.length_map]; exact hl) (pair_map fun p _ => rsv_pr)) .nil))
/-- what is due, all frozen -/
def ansD (bs : Bxs) (us : Tabs) (said : List Int) (e : Int) : D := .tup [.lst (bs.map bD), .lst (us.map tbD), .lst (said.map D.int), .int e]
theorem Told.names {α : Type} {bs : List (Str × α)} {f : Str → α} {z : α} {U : List Str} (h : Told bs f z) (k : ∀ x, f x ≠ z → x ∈ U) : ∀ b ∈ bs, b.1 ∈ U := fun b hb => by
  have := (h.mem b.1 b.2).mp hb
  exact k b.1 (by rw [this.1]; exact this.2)
/-- boxes and tables outside the names are 0, have no rows -/
structure InU (U : List Str) (s : GoSt) : Prop where
  b : ∀ x, s.box x ≠ 0 → x ∈ U
  t : ∀ x, s.tab x ≠ [] → x ∈ U
theorem Answer.rsv {c0 c' : CMap} {A B S : Addr} {us : Tbs} {bs : Bxs} {s : GoSt} {U : List Str} {M : Int} {n : Nat} (h : Answer c0 c' A B S us bs s) (hU : ∀ x ∈ U, SOk 40 x) (hi : InU U s) (ho : GoOk M s) : Rsv c' (n + 6) (.tup [.ref A, .ref B, .ref S, .int s.ended]) (ansD bs (us.map fun t => (t.1, s.tab t.1)) s.said s.ended) := by
  have lb := h.lb
  have lu := h.lu
  have mm := ho.mm
  have c1 := ho.c1
  have sl := ho.sl
  refine rsv_tup (by simp) (.cons (rsv_lst (res_c h.ha) (by rw [List.length_map]; omega) (pair_map fun b hb => rsv_b (hU _ (h.tb.names hi.b b hb)))) (.cons (rsv_lst (res_c h.hb) (by rw [List.length_map]; omega) ?_) (.cons (rsv_lst (res_c h.hs) (by rw [List.length_map]; omega) (rsv_ints _)) (.cons rfl .nil))))
  rw [List.map_map]
  refine pair_map fun t ht => rsv_tup (by simp) (.cons ⟨rfl, ?_⟩ (.cons (rsv_lst (res_c (h.at_ t ht).1) (by have := ho.tl t.1; rw [List.length_map]; omega) (pair_map fun p _ => rsv_pr)) .nil))
  exact (hU _ (h.tt.names hi.t (t.1, s.tab t.1) (List.mem_map_of_mem ht))).2
theorem due_rsv {c : CMap} {sd : D} {us : Tabs} {bs : Bxs} {said : List Int} {e : Int} {U : List Str} {n : Nat} (hs : res c sd = .lst (said.map D.int)) (hU : ∀ x ∈ U, SOk 40 x) (hb : ∀ b ∈ bs, b.1 ∈ U) (ht : ∀ t ∈ us, t.1 ∈ U ∧ t.2.length < 16777216) (l1 : bs.length < 16777216) (l2 : us.length < 16777216) (l3 : said.length < 16777216) : Rsv c (n + 6) (.tup [.lst (bs.map bD), .lst (us.map tbD), sd, .int e]) (ansD bs us said e) :=
  rsv_tup (by simp) (.cons (rsv_lst rfl (by rw [List.length_map]; exact l1) (pair_map fun b h => rsv_b (hU _ (hb b h)))) (.cons (rsv_lst rfl (by rw [List.length_map]; exact l2) (pair_map fun t h => rsv_tb (hU _ (ht t h).1) (ht t h).2)) (.cons (rsv_lst hs (by rw [List.length_map]; exact l3) (rsv_ints _)) (.cons rfl .nil))))
theorem GoAt.inU {K : PySem.W.Frag} {M : Int} {G : GoC} {c : CMap} {s : GoSt} (h : GoAt K M G c s) : InU G.U s := by
  obtain ⟨kvs, hn⟩ := h.named
  obtain ⟨ts, hl⟩ := h.listed
  refine ⟨fun x hx => ?_, fun x hx => ?_⟩
  · refine Classical.byContradiction fun z => hx ?_
    rw [← hn.val]
    refine num_no fun z2 => z ?_
    obtain ⟨kv, hkv, e⟩ := List.mem_map.mp z2
    obtain ⟨y, hy, e2⟩ := hn.key.2 kv hkv
    rw [e2] at e
    cases e
    exact hy
  · have : x ∈ ts.map (·.1) := Classical.byContradiction fun z => hx (hl.no x z)
    obtain ⟨t, ht, rfl⟩ := List.mem_map.mp this
    exact (hl.at_ t ht).1
/-! runs that add many rows -/
theorem setF_self {α : Type} {f : Str → α} {x : Str} : setF f x (f x) = f := by
  funext y
  unfold setF
  split
  · rename_i h; rw [h]
  · rfl
theorem setF_setF {α : Type} {f : Str → α} {x : Str} {u v : α} : setF (setF f x u) x v = setF f x v := by
  funext y
  unfold setF
  split
  · rfl
  · rfl
theorem setF_at {α : Type} {f : Str → α} {x : Str} {v : α} : setF f x v x = v := by unfold setF; rw [if_pos rfl]
theorem setF_ne {α : Type} {f : Str → α} {x y : Str} {v : α} (h : y ≠ x) : setF f x v y = f y := by unfold setF; rw [if_neg h]
def Rs.cat : Rs → Rs → Rs
  | .nil, s => s
  | .cons r rs, s => .cons r (rs.cat s)
theorem Rs.cat_ds : ∀ rs s : Rs, (rs.cat s).ds = rs.ds ++ s.ds
  | .nil, s => rfl
  | .cons r rs, s => by simp only [Rs.cat, Rs.ds, Rs.cat_ds rs s, List.cons_append]
theorem Rs.cat_ok {U ps : List Str} : ∀ rs s : Rs, rs.ok U ps → s.ok U ps → (rs.cat s).ok U ps
  | .nil, s, _, h => h
  | .cons r rs, s, h1, h => by
    simp only [Rs.ok] at h1
    simp only [Rs.cat, Rs.ok]
    exact ⟨h1.1, Rs.cat_ok rs s h1.2 h⟩
theorem Rs.cat_deep : ∀ rs s : Rs, (rs.cat s).deep = max rs.deep s.deep
  | .nil, s => by simp [Rs.cat, Rs.deep]
  | .cons r rs, s => by simp only [Rs.cat, Rs.deep, Rs.cat_deep rs s]; omega
/-- rows that put given pairs behind the table t -/
def Adds (f : Str → Int) : Rs → List (Int × Int) → Prop
  | .nil, [] => True
  | .cons (.add x a b) rs, p :: l => x = "t" ∧ (a.valF f, b.valF f) = p ∧ Adds f rs l
  | _, _ => False
def putT (s : GoSt) (l : List (Int × Int)) : GoSt := { s with tab := setF s.tab "t" (s.tab "t" ++ l), counted := s.counted + l.length }
theorem putT_nil {s : GoSt} : putT s [] = s := by
  unfold putT
  rw [List.append_nil, setF_self]
  simp
theorem putT_app {s : GoSt} {l m : List (Int × Int)} : putT (putT s l) m = putT s (l ++ m) := by
  unfold putT
  simp only [setF_at, setF_setF, List.append_assoc, List.length_append]
  congr 1
  push_cast
  omega
theorem adds_pre {B : Bod} : ∀ (rs : Rs) (l : List (Int × Int)) (q : Rs) (s : GoSt), Adds s.box rs l → s.ended = 0 → s.counted + l.length ≤ 300 → ∀ K, Gs B (.rows (rs.cat q) :: K, s) (.rows q :: K, putT s l)
  | .nil, [], q, s, _, _, _, K => by rw [putT_nil]; exact .refl _
  | .nil, _ :: _, q, s, h, _, _, K => h.elim
  | .cons r rs, [], q, s, h, _, _, K => by cases r <;> exact h.elim
  | .cons r rs, p :: l, q, s, h, he, hc, K => by
    cases r with
    | add x a b =>
      obtain ⟨rfl, rfl, h3⟩ := h
      rw [List.length_cons] at hc
      push_cast at hc
      refine .step he ?_
      have e1 : goOn B K s (.rows ((Rs.cons (.add "t" a b) rs).cat q)) = (.rows (rs.cat q) :: K, putT s [(a.valF s.box, b.valF s.box)]) := by
        simp only [Rs.cat, goOn, doRow]
        rw [if_neg (by intro z; cases z), if_neg (by omega)]
        rfl
      rw [e1]
      have ih := adds_pre (B := B) rs l q (putT s [(a.valF s.box, b.valF s.box)]) h3 he (by show s.counted + (1 : Nat) + (l.length : Int) ≤ 300; push_cast; omega) K
      rw [putT_app] at ih
      exact ih
    | _ => exact h.elim
theorem adds_lost {B : Bod} : ∀ (rs : Rs) (l : List (Int × Int)) (s : GoSt), Adds s.box rs l → s.ended = 0 → s.counted ≤ 300 → 300 < s.counted + l.length → ∀ K, ∃ K', Gs B (.rows rs :: K, s) (K', { putT s (l.take (300 - s.counted).toNat) with ended := 2 })
  | .nil, [], s, _, _, h1, h2, K => by simp at h2; omega
  | .nil, _ :: _, s, h, _, _, _, K => h.elim
  | .cons r rs, [], s, h, _, _, _, K => by cases r <;> exact h.elim
  | .cons r rs, p :: l, s, h, he, h1, h2, K => by
    cases r with
    | add x a b =>
      obtain ⟨rfl, rfl, h3⟩ := h
      rw [List.length_cons] at h2
      push_cast at h2
      by_cases hc : s.counted = 300
      · refine ⟨.rows rs :: K, .step he ?_⟩
        have e1 : goOn B K s (.rows (.cons (.add "t" a b) rs)) = (.rows rs :: K, { s with ended := 2 }) := by
          simp only [goOn]
          rw [if_neg (by intro z; cases z), if_pos hc]
        rw [e1, show (300 - s.counted).toNat = 0 from by omega, List.take_zero, putT_nil]
        exact .refl _
      · have e1 : goOn B K s (.rows (.cons (.add "t" a b) rs)) = (.rows rs :: K, putT s [(a.valF s.box, b.valF s.box)]) := by
          simp only [goOn, doRow]
          rw [if_neg (by intro z; cases z), if_neg hc]
          rfl
        obtain ⟨K', ih⟩ := adds_lost (B := B) rs l (putT s [(a.valF s.box, b.valF s.box)]) h3 he (by show s.counted + (1 : Nat) ≤ 300; push_cast; omega) (by show 300 < s.counted + (1 : Nat) + (l.length : Int); push_cast; omega) K
        refine ⟨K', .step he ?_⟩
        rw [e1]
        have e2 : (300 - (putT s [(a.valF s.box, b.valF s.box)]).counted).toNat = (300 - s.counted).toNat - 1 := by
          show (300 - (s.counted + (1 : Nat))).toNat = _
          push_cast
          omega
        rw [e2, putT_app] at ih
        rw [show (300 - s.counted).toNat = ((300 - s.counted).toNat - 1) + 1 from by omega, List.take_succ_cons]
        exact ih
    | _ => exact h.elim
abbrev sd0 : Sd := .one (.num 0)
theorem so_0 {f : Str → Int} : soF "=" sd0 sd0 f = true := by unfold soF; rw [if_neg (by decide +kernel)]; rfl
/-- turns of a loop that goes on for ever -/
theorem turns {B : Bod} {rs : Rs} {l : List (Int × Int)} {K : List Fr} : ∀ (n : Nat) (s : GoSt), Adds s.box rs l → s.ended = 0 → s.counted + n * (1 + l.length) ≤ 300 → ∃ s', Gs B (.whl "=" sd0 sd0 rs :: K, s) (.whl "=" sd0 sd0 rs :: K, s') ∧ s'.box = s.box ∧ s'.ended = 0 ∧ s'.said = s.said ∧ s'.within = s.within ∧ s'.counted = s.counted + n * (1 + l.length) ∧ s'.tab = setF s.tab "t" (s.tab "t" ++ (List.replicate n l).flatten)
  | 0, s, ha, he, hc => ⟨s, .refl _, rfl, he, rfl, rfl, by simp, by simp [setF_self]⟩
  | n + 1, s, ha, he, hc => by
    have e0 : ((n + 1 : Nat) : Int) * (1 + (l.length : Int)) = (n : Int) * (1 + (l.length : Int)) + 1 + (l.length : Int) := by push_cast; rw [Int.add_mul]; omega
    rw [e0] at hc
    have hn : 0 ≤ (n : Int) * (1 + (l.length : Int)) := Int.mul_nonneg (by omega) (by omega)
    have e1 : goOn B K s (.whl "=" sd0 sd0 rs) = (.rows rs :: .whl "=" sd0 sd0 rs :: K, { s with counted := s.counted + 1 }) := by
      simp only [goOn]
      rw [if_neg (by omega), if_pos so_0]
    have g1 := adds_pre (B := B) rs l .nil { s with counted := s.counted + 1 } ha he (by show s.counted + 1 + (l.length : Int) ≤ 300; omega) (.whl "=" sd0 sd0 rs :: K)
    have rc : ∀ q : Rs, q.cat .nil = q := by
      intro q
      exact catnil q
    rw [rc] at g1
    have g2 : Gs B (.rows .nil :: .whl "=" sd0 sd0 rs :: K, putT { s with counted := s.counted + 1 } l) (.whl "=" sd0 sd0 rs :: K, putT { s with counted := s.counted + 1 } l) := .one he
    obtain ⟨s', i1, i2, i3, i4, i5, i6, i7⟩ := turns (B := B) (rs := rs) (l := l) (K := K) n (putT { s with counted := s.counted + 1 } l) ha he (by show s.counted + 1 + (l.length : Int) + (n : Int) * (1 + (l.length : Int)) ≤ 300; omega)
    refine ⟨s', .step he (by rw [e1]; exact (g1.trans g2).trans i1), i2, i3, i4, i5, ?_, ?_⟩
    · rw [i6, e0]
      show s.counted + 1 + (l.length : Int) + (n : Int) * (1 + (l.length : Int)) = _
      omega
    · rw [i7]
      show setF (setF s.tab "t" (s.tab "t" ++ l)) "t" (setF s.tab "t" (s.tab "t" ++ l) "t" ++ (List.replicate n l).flatten) = _
      rw [setF_at, setF_setF, List.replicate_succ, List.flatten_cons, List.append_assoc]
where catnil : ∀ q : Rs, q.cat .nil = q
  | .nil => rfl
  | .cons r q => by simp only [Rs.cat, catnil q]
/-- a loop of fifty adds is lost in its sixth turn -/
theorem lost50 {B : Bod} {rs : Rs} {l : List (Int × Int)} {s : GoSt} (ha : Adds s.box rs l) (h50 : l.length = 50) (he : s.ended = 0) (hc : s.counted = 0) : Runs B (.cons (.whl "=" sd0 sd0 rs) .nil) s { s with tab := setF s.tab "t" (s.tab "t" ++ ((List.replicate 5 l).flatten ++ l.take 44)), counted := 300, ended := 2 } := by
  have e1 : goOn B [] s (.rows (.cons (.whl "=" sd0 sd0 rs) .nil)) = ([.whl "=" sd0 sd0 rs, .rows .nil], s) := by
    simp only [goOn, doRow]
    rw [if_pos (show (Rw.whl "=" sd0 sd0 rs).isW = true from rfl)]
  obtain ⟨s', i1, i2, i3, i4, i5, i6, i7⟩ := turns (B := B) (rs := rs) (l := l) (K := [.rows .nil]) 5 s ha he (by rw [hc, h50]; decide)
  have c255 : s'.counted = 255 := by rw [i6, hc, h50]; decide
  have e2 : goOn B [.rows .nil] s' (.whl "=" sd0 sd0 rs) = ([.rows rs, .whl "=" sd0 sd0 rs, .rows .nil], { s' with counted := s'.counted + 1 }) := by
    simp only [goOn]
    rw [if_neg (by omega), if_pos so_0]
  obtain ⟨K', g⟩ := adds_lost (B := B) rs l { s' with counted := s'.counted + 1 } (by show Adds s'.box rs l; rw [i2]; exact ha) i3 (by show s'.counted + 1 ≤ 300; omega) (by show 300 < s'.counted + 1 + (l.length : Int); omega) [.whl "=" sd0 sd0 rs, .rows .nil]
  have e3 : ({ putT { s' with counted := s'.counted + 1 } (l.take (300 - ({ s' with counted := s'.counted + 1 } : GoSt).counted).toNat) with ended := 2 } : GoSt) = { s with tab := setF s.tab "t" (s.tab "t" ++ ((List.replicate 5 l).flatten ++ l.take 44)), counted := 300, ended := 2 } := by
    have n44 : (300 - ({ s' with counted := s'.counted + 1 } : GoSt).counted).toNat = 44 := by show (300 - (s'.counted + 1)).toNat = 44; omega
    rw [n44]
    unfold putT
    have l44 : (l.take 44).length = 44 := by rw [List.length_take]; omega
    simp only [l44, i2, i4, i5, i7, c255, setF_at, setF_setF, List.append_assoc]
    rfl
  rw [e3] at g
  exact ⟨K', .step he (by rw [e1]; exact i1.trans (.step i3 (by rw [e2]; exact g))), .inr (by show ¬ (2 : Int) = 0; decide)⟩
/-- a table walked by an each without rows -/
def eb (x y : Str) (f : Str → Int) (l : List (Int × Int)) : Str → Int := l.foldl (fun f p => setF (setF f x p.1) y p.2) f
theorem each_run {B : Bod} {x y : Str} {K : List Fr} : ∀ (l : List (Int × Int)) (s : GoSt), s.ended = 0 → Gs B (.each x y .nil l :: K, s) (K, { s with box := eb x y s.box l })
  | [], s, he => .one he
  | p :: l, s, he => by
    refine .step he ?_
    show Gs B (.rows .nil :: .each x y .nil l :: K, { s with box := setF (setF s.box x p.1) y p.2 }) _
    refine .step he ?_
    exact each_run (B := B) l { s with box := setF (setF s.box x p.1) y p.2 } he
theorem eb_app {x y : Str} {f : Str → Int} {l : List (Int × Int)} {p : Int × Int} : eb x y f (l ++ [p]) = setF (setF (eb x y f l) x p.1) y p.2 := by
  unfold eb
  rw [List.foldl_append]
  rfl
theorem eb_ne {x y z : Str} (hx : z ≠ x) (hy : z ≠ y) : ∀ (l : List (Int × Int)) (f : Str → Int), eb x y f l z = f z
  | [], f => rfl
  | p :: l, f => by
    have := eb_ne hx hy l (setF (setF f x p.1) y p.2)
    rw [setF_ne hy, setF_ne hx] at this
    exact this
/-! a table of some thousand rows -/
theorem Answer.mono {c0 c1 c2 : CMap} {A B S : Addr} {us : Tbs} {bs : Bxs} {s : GoSt} (h : Answer c0 c1 A B S us bs s) (k : SubC c1 c2) : Answer c0 c2 A B S us bs s :=
  ⟨h.sub.trans' k, k _ _ h.ha, k _ _ h.hb, k _ _ h.hs, h.tb, h.tt, fun t ht => ⟨k _ _ (h.at_ t ht).1, (h.at_ t ht).2⟩, h.na, h.a0, h.b0, h.s0, h.n1, h.n2, h.n3, h.lb, h.lu⟩
abbrev tabsOf (us : Tbs) (s : GoSt) : Tabs := us.map fun t => (t.1, s.tab t.1)
theorem Told.tab {ts : Tabs} {f : Str → List (Int × Int)} (h : Told ts f []) : tabF ts = f := by
  funext x
  by_cases z : f x = []
  · rw [z]
    refine tab_no fun hx => ?_
    obtain ⟨t, ht, e⟩ := List.mem_map.mp hx
    have := (h.mem t.1 t.2).mp ht
    rw [e] at this
    exact this.2 (this.1.symm.trans z)
  · exact tab_at h.nd ((h.mem x (f x)).mpr ⟨rfl, z⟩)
theorem TabsD.ans {c0 c' c2 : CMap} {A B S : Addr} {us : Tbs} {bs : Bxs} {s : GoSt} (h : Answer c0 c' A B S us bs s) (k : SubC c' c2) : TabsD c2 (.ref B) (tabsOf us s) := by
  have nd : (us.map (·.1)).Nodup := by
    have := h.tt.nd
    rw [List.map_map] at this
    exact this
  have fd : ∀ u ∈ us, (us.find? fun t => decide (t.1 = u.1)) = some u := fun u hu => by
    cases e : us.find? fun t => decide (t.1 = u.1) with
    | none =>
      have := List.find?_eq_none.mp e u hu
      simp at this
    | some t =>
      have h1 := List.mem_of_find?_eq_some e
      have h2 : t.1 = u.1 := by simpa using List.find?_some e
      rw [nodup_at nd t h1 u hu h2]
  refine ⟨fun x => ((us.find? fun t => decide (t.1 = x)).map fun t => D.ref t.2).getD .non, ?_, fun t ht => ?_⟩
  · rw [res_c (k _ _ h.hb)]
    unfold tabsOf
    rw [List.map_map]
    congr 1
    refine List.map_congr_left fun u hu => ?_
    show tD u = D.tup [.str u.1, ((us.find? fun t => decide (t.1 = u.1)).map fun t => D.ref t.2).getD .non]
    rw [fd u hu]; rfl
  · obtain ⟨u, hu, rfl⟩ := List.mem_map.mp ht
    show res c2 (((us.find? fun t => decide (t.1 = u.1)).map fun t => D.ref t.2).getD .non) = .lst ((s.tab u.1).map prD)
    rw [fd u hu]
    exact res_c (k _ _ (h.at_ u hu).1)
def repR : Nat → Rw → Rs
  | 0, _ => .nil
  | n + 1, r => .cons r (repR n r)
theorem rep_ds (r : Rw) : ∀ n : Nat, (List.replicate n [r.d]).flatten = (repR n r).ds
  | 0 => rfl
  | n + 1 => by
    rw [List.replicate_succ, List.flatten_cons, rep_ds r n]
    rfl
theorem rep_pr (p : Int × Int) : ∀ n : Nat, (List.replicate n [prD p]).flatten = (List.replicate n p).map prD
  | 0 => rfl
  | n + 1 => by
    rw [List.replicate_succ, List.flatten_cons, rep_pr p n]
    rfl
theorem rep_prs (l : List (Int × Int)) : ∀ n : Nat, (List.replicate n (l.map prD)).flatten = ((List.replicate n l).flatten).map prD
  | 0 => rfl
  | n + 1 => by
    rw [List.replicate_succ, List.flatten_cons, rep_prs l n, List.replicate_succ, List.flatten_cons, List.map_append]
theorem repR_len (r : Rw) : ∀ n : Nat, (repR n r).ds.length = n
  | 0 => rfl
  | n + 1 => by simp only [repR, Rs.ds, List.length_cons, repR_len r n]
theorem repR_ok {U ps : List Str} {r : Rw} (h : r.ok U ps) : ∀ n : Nat, (repR n r).ok U ps
  | 0 => trivial
  | n + 1 => ⟨h, repR_ok h n⟩
theorem repR_deep {r : Rw} (h : r.deep = 0) : ∀ n : Nat, (repR n r).deep = 0
  | 0 => rfl
  | n + 1 => by simp only [repR, Rs.deep, repR_deep h n, h]; rfl
theorem Adds.rep {f : Str → Int} {a b : Sd} {p : Int × Int} (h : (a.valF f, b.valF f) = p) : ∀ n : Nat, Adds f (repR n (.add "t" a b)) (List.replicate n p)
  | 0 => trivial
  | n + 1 => ⟨rfl, h, Adds.rep h n⟩
theorem Adds.cat {f : Str → Int} : ∀ {rs q : Rs} {l m : List (Int × Int)}, Adds f rs l → Adds f q m → Adds f (rs.cat q) (l ++ m)
  | .nil, q, [], m, _, h => h
  | .nil, q, _ :: _, m, h, _ => h.elim
  | .cons r rs, q, [], m, h, _ => by cases r <;> exact h.elim
  | .cons r rs, q, p :: l, m, h, k => by
    cases r with
    | add x a b => exact ⟨h.1, h.2.1, Adds.cat h.2.2 k⟩
    | _ => exact h.elim
abbrev one20 : Rw := .add "t" (.one (.num 1)) (.one (.nam "b"))
abbrev two20 : Rw := .add "t" (.one (.num 2)) (.one (.num 7))
abbrev U5 : List Str := ["t", "a", "b", "x", "y"]
theorem U5_sok : ∀ x ∈ U5, SOk 40 x := by
  intro x hx
  simp only [U5, List.mem_cons, List.not_mem_nil, or_false] at hx
  rcases hx with rfl | rfl | rfl | rfl | rfl <;> exact ⟨by decide +kernel, by decide +kernel⟩
theorem one_ok : one20.ok U5 [] := ⟨by simp [U5], (show (0 : Int) ≤ 1 ∧ (1 : Int) < 1000 from by decide), (⟨by decide +kernel, by decide +kernel⟩ : SOk 40 "b")⟩
theorem two_ok : two20.ok U5 [] := ⟨by simp [U5], (show (0 : Int) ≤ 2 ∧ (2 : Int) < 1000 from by decide), (show (0 : Int) ≤ 7 ∧ (7 : Int) < 1000 from by decide)⟩
abbrev tabT (T : List (Int × Int)) : Str → List (Int × Int) := setF (fun _ => []) "t" T
abbrev sing20 (rs : Rs) : Rs := .cons (.whl "=" sd0 sd0 rs) .nil
theorem prg_sing {rs : Rs} (h : rs.ok U5 []) (d : rs.deep = 0) : PrgOk U5 (sing20 rs) [] :=
  ⟨by simp, ⟨⟨⟨.inr rfl, (show (0 : Int) ≤ 0 ∧ (0 : Int) < 1000 from by decide), (show (0 : Int) ≤ 0 ∧ (0 : Int) < 1000 from by decide), h⟩, trivial⟩, by simp only [Rs.deep, Rw.deep, d]; decide⟩, fun p h => by cases h⟩
abbrev l1 : List (Int × Int) := List.replicate 50 (1, 0)
abbrev l2 : List (Int × Int) := List.replicate 25 (1, 0) ++ List.replicate 25 (2, 7)
theorem lost1 : (List.replicate 5 l1).flatten ++ l1.take 44 = List.replicate 294 (1, 0) := by decide +kernel
theorem lost2 : (List.replicate 5 l2).flatten ++ l2.take 44 = (List.replicate 5 l2).flatten ++ (List.replicate 25 (1, 0) ++ List.replicate 19 (2, 7)) := by decide +kernel
/-- a run over such tables -/
theorem run20 {K : PySem.W.Frag} {c : CMap} {d : D} {rs : Rs} {T T' : List (Int × Int)} {M : Int} {ts : Tabs} {E : XD} {Q : DK} (P : GoSt → Prop) (hT : TabsD c d ts) (hb : Beg U5 M [] ts) (hM : M ≤ 3000) (e : tabF ts = tabT T) (hp : PrgOk U5 rs [])
    (hr : ∀ s0 : GoSt, s0.box = (fun _ => 0) → s0.tab = tabT T → s0.said = [] → s0.ended = 0 → s0.counted = 0 → ∃ s', Runs (bodF []) rs s0 s' ∧ s'.tab = tabT T' ∧ P s')
    (q : ∀ c' A B S us cs s, Answer c c' A B S us cs s → GoOk M s → InU U5 s → P s → TabsD c' (.ref B) (tabsOf us s) → Beg U5 (M + 300) [] (tabsOf us s) → tabF (tabsOf us s) = tabT T' → s.tab = tabT T' → Q (.tup [.ref A, .ref B, .ref S, .int s.ended]) c') : sp_plain_run K [.tup [.lst rs.ds, .lst []], .lst [], d] c E Q := by
  refine ⟨rs, [], [], ts, U5, M, _, _, rfl, rfl, hT, hb, hp, fun c' A B S us cs s an hR _ hok hin => ?_⟩
  obtain ⟨s', r1, r2, r3⟩ := hr (begun [] ts) (funext fun x => rfl) e rfl rfl rfl
  obtain rfl := r1.uniq hR
  have hI : InU U5 s' := ⟨hin.1, hin.2⟩
  refine q c' A B S us cs s' an hok hI r3 (TabsD.ans an SubC.rfl') ⟨by simp, fun b h => (by cases h), an.tt.nd, fun t ht => ⟨an.tt.names hI.t t ht, ?_⟩, hb.ul, hb.us, ⟨by have := hb.mm; omega, by omega⟩⟩ ((Told.tab an.tt).trans r2) r2
  obtain ⟨u, hu, rfl⟩ := List.mem_map.mp ht
  refine ⟨hok.tr u.1, ?_⟩
  have := hok.tl u.1
  have := hok.c1
  show ((s'.tab u.1).length : Int) ≤ M + 300
  omega
theorem tabT_put {T l : List (Int × Int)} : setF (tabT T) "t" (tabT T "t" ++ l) = tabT (T ++ l) := by
  unfold tabT
  rw [setF_at, setF_setF]
theorem run_lost {rs : Rs} {l T : List (Int × Int)} (hl : l.length = 50) (ha : Adds (fun _ => 0) rs l) (s0 : GoSt) (hb : s0.box = (fun _ => 0)) (ht : s0.tab = tabT T) (hs : s0.said = []) (he : s0.ended = 0) (hc : s0.counted = 0) : ∃ s', Runs (bodF []) (sing20 rs) s0 s' ∧ s'.tab = tabT (T ++ ((List.replicate 5 l).flatten ++ l.take 44)) ∧ True :=
  ⟨_, lost50 (by rw [hb]; exact ha) hl he hc, by show setF s0.tab "t" (s0.tab "t" ++ _) = _; rw [ht, tabT_put], trivial⟩
theorem run_adds {n : Nat} {T : List (Int × Int)} (hn : n ≤ 60) (s0 : GoSt) (hb : s0.box = (fun _ => 0)) (ht : s0.tab = tabT T) (hs : s0.said = []) (he : s0.ended = 0) (hc : s0.counted = 0) : ∃ s', Runs (bodF []) (repR n one20) s0 s' ∧ s'.tab = tabT (T ++ List.replicate n (1, 0)) ∧ True := by
  have ha : Adds s0.box (repR n one20) (List.replicate n (1, 0)) := Adds.rep (by rw [hb]; rfl) n
  have g := adds_pre (B := bodF []) (repR n one20) (List.replicate n (1, 0)) .nil s0 ha he (by rw [hc, List.length_replicate]; omega) []
  rw [turns.catnil] at g
  have g2 : Gs (bodF []) ([.rows .nil], putT s0 (List.replicate n (1, 0))) ([], putT s0 (List.replicate n (1, 0))) := .one he
  exact ⟨_, ⟨[], g.trans g2, .inl rfl⟩, by show setF s0.tab "t" (s0.tab "t" ++ _) = _; rw [ht, tabT_put], trivial⟩
/-- the last run: adds, perhaps a drop, an each, a count -/
abbrev drop20 : Option Int → Rs → Rs
  | none, q => q
  | some v, q => .cons (.drop "t" (.one (.num v))) q
abbrev dropT : Option Int → List (Int × Int) → List (Int × Int)
  | none, l => l
  | some v, l => l.filter fun p => decide (p.1 ≠ v)
abbrev tail20 : Rs := .cons (.each "t" "x" "y" .nil) (.cons (.count "a" "t") .nil)
theorem run_last {n : Nat} {T R : List (Int × Int)} {o : Option Int} (hn : n ≤ 60) (hR : R = dropT o (T ++ List.replicate n (1, 0))) (s0 : GoSt) (hb : s0.box = (fun _ => 0)) (ht : s0.tab = tabT T) (hs : s0.said = []) (he : s0.ended = 0) (hc : s0.counted = 0) : ∃ s', Runs (bodF []) ((repR n one20).cat (drop20 o tail20)) s0 s' ∧ s'.tab = tabT R ∧ s'.said = [] ∧ s'.ended = 0 ∧ s'.box = setF (eb "x" "y" (fun _ => 0) R) "a" ((R.length : Int) % 1000) := by
  have ha : Adds s0.box (repR n one20) (List.replicate n (1, 0)) := Adds.rep (by rw [hb]; rfl) n
  have g := adds_pre (B := bodF []) (repR n one20) (List.replicate n (1, 0)) (drop20 o tail20) s0 ha he (by rw [hc, List.length_replicate]; omega) []
  have tail : ∀ s : GoSt, s.box = (fun _ => 0) → s.tab = tabT R → s.said = [] → s.ended = 0 → s.counted ≤ 200 → ∃ s', Gs (bodF []) ([.rows tail20], s) ([], s') ∧ s'.tab = tabT R ∧ s'.said = [] ∧ s'.ended = 0 ∧ s'.box = setF (eb "x" "y" (fun _ => 0) R) "a" ((R.length : Int) % 1000) := fun s b t sa en co => by
    have e1 : goOn (bodF []) [] s (.rows tail20) = ([.each "x" "y" .nil (s.tab "t"), .rows (.cons (.count "a" "t") .nil)], { s with counted := s.counted + 1 }) := by
      simp only [goOn, doRow]
      rw [if_neg (by intro z; cases z), if_neg (by omega)]
    have g1 := each_run (B := bodF []) (x := "x") (y := "y") (K := [.rows (.cons (.count "a" "t") .nil)]) (s.tab "t") { s with counted := s.counted + 1 } en
    have e2 : goOn (bodF []) [] { s with counted := s.counted + 1, box := eb "x" "y" s.box (s.tab "t") } (.rows (.cons (.count "a" "t") .nil)) = ([.rows .nil], { s with counted := s.counted + 1 + 1, box := setF (eb "x" "y" s.box (s.tab "t")) "a" (((s.tab "t").length : Int) % 1000) }) := by
      simp only [goOn, doRow]
      rw [if_neg (by intro z; cases z), if_neg (by omega)]
    have g3 : Gs (bodF []) ([.rows .nil], { s with counted := s.counted + 1 + 1, box := setF (eb "x" "y" s.box (s.tab "t")) "a" (((s.tab "t").length : Int) % 1000) }) ([], { s with counted := s.counted + 1 + 1, box := setF (eb "x" "y" s.box (s.tab "t")) "a" (((s.tab "t").length : Int) % 1000) }) := .one en
    refine ⟨{ s with counted := s.counted + 1 + 1, box := setF (eb "x" "y" s.box (s.tab "t")) "a" (((s.tab "t").length : Int) % 1000) }, .step en (by rw [e1]; exact g1.trans (.step en (by rw [e2]; exact g3))), t, sa, en, ?_⟩
    show setF (eb "x" "y" s.box (s.tab "t")) "a" (((s.tab "t").length : Int) % 1000) = _
    rw [b, t]
    unfold tabT
    rw [setF_at]
  have t1 : (putT s0 (List.replicate n (1, 0))).tab = tabT (T ++ List.replicate n (1, 0)) := by
    show setF s0.tab "t" (s0.tab "t" ++ _) = _
    rw [ht, tabT_put]
  have c1 : (putT s0 (List.replicate n (1, 0))).counted ≤ 60 := by
    show s0.counted + ((List.replicate n ((1, 0) : Int × Int)).length : Int) ≤ 60
    rw [hc, List.length_replicate]; omega
  cases o with
  | none =>
    obtain ⟨s', k1, k2⟩ := tail (putT s0 (List.replicate n (1, 0))) hb (by rw [t1, hR]) hs he (by omega)
    exact ⟨s', ⟨[], g.trans k1, .inl rfl⟩, k2⟩
  | some v =>
    have e3 : goOn (bodF []) [] (putT s0 (List.replicate n (1, 0))) (.rows (drop20 (some v) tail20)) = ([.rows tail20], { putT s0 (List.replicate n (1, 0)) with counted := (putT s0 (List.replicate n (1, 0))).counted + 1, tab := tabT R }) := by
      simp only [goOn, doRow]
      rw [if_neg (by intro z; cases z), if_neg (by omega)]
      have : setF (putT s0 (List.replicate n (1, 0))).tab "t" (((putT s0 (List.replicate n (1, 0))).tab "t").filter fun p => decide (p.1 ≠ v)) = tabT R := by
        rw [t1]
        unfold tabT
        rw [setF_at, setF_setF, hR]
      congr 2
    obtain ⟨s', k1, k2⟩ := tail { putT s0 (List.replicate n (1, 0)) with counted := (putT s0 (List.replicate n (1, 0))).counted + 1, tab := tabT R } hb rfl hs he (by show (putT s0 (List.replicate n (1, 0))).counted + 1 ≤ 200; omega)
    exact ⟨s', ⟨[], g.trans (.step he (by rw [e3]; exact k1)), .inl rfl⟩, k2⟩
/-! rows that are counted one by one: what a run has behind them -/
def ups (l : List Int) : Int := ((l.filter fun z => decide (z = -1)).length : Nat)
theorem ups_app (l m : List Int) : ups (l ++ m) = ups l + ups m := by
  unfold ups
  rw [List.filter_append, List.length_append]
  push_cast
  rfl
theorem ups_le (l : List Int) : 0 ≤ ups l ∧ ups l ≤ l.length := by
  have := List.length_filter_le (fun z : Int => decide (z = -1)) l
  unfold ups
  omega
abbrev T40 : List (Int × Int) := List.replicate 40 (0, 0)
abbrev tb24 : Str → List (Int × Int) := setF (fun _ => []) "t" T40
def stt (l : List Int) (e : Int) : GoSt := ⟨setF (fun _ => 0) "a" (ups l), tb24, l.filter fun z => decide (z > 0), e, l.length, 0⟩
theorem full_c {l : List Int} {e : Int} (h : l.length = 300) : (stt l e).counted = 300 := by
  show ((l.length : Nat) : Int) = 300
  omega
theorem part_c {l : List Int} {e : Int} (h : l.length < 300) : ¬ (stt l e).counted = 300 := by
  show ¬ ((l.length : Nat) : Int) = 300
  omega
/-- behind so many rows, three hundred at most -/
def en (l : List Int) : GoSt := stt (l.take 300) (if l.length ≤ 300 then 0 else 2)
theorem en_le {l : List Int} (h : l.length ≤ 300) : en l = stt l 0 := by
  unfold en
  rw [if_pos h, List.take_of_length_le h]
theorem en_over {l m : List Int} (h : 300 < l.length) : en (l ++ m) = en l := by
  unfold en
  rw [List.take_append_of_le_length (by omega), if_neg (by rw [List.length_append]; omega), if_neg (by omega)]
theorem en_full {l m : List Int} (h : l.length = 300) (hm : m ≠ []) : en (l ++ m) = { stt l 0 with ended := 2 } := by
  have : 0 < m.length := List.length_pos_iff.mpr hm
  unfold en
  rw [List.take_append_of_le_length (by omega), List.take_of_length_le (by omega), if_neg (by rw [List.length_append]; omega)]
  rfl
theorem en_ended {l : List Int} (h : 300 < l.length) : (en l).ended ≠ 0 := by
  show (if l.length ≤ 300 then (0 : Int) else 2) ≠ 0
  rw [if_neg (by omega)]
  decide
theorem box_x {l : List Int} {e : Int} : setF (setF (stt l e).box "x" 0) "x" 0 = (stt l e).box := by
  funext y
  show setF (setF (setF (fun _ => (0 : Int)) "a" (ups l)) "x" 0) "x" 0 y = setF (fun _ => (0 : Int)) "a" (ups l) y
  unfold setF
  by_cases h : y = "x"
  · subst h
    rw [if_pos rfl, if_neg (by decide +kernel)]
  · rw [if_neg h, if_neg h]
/-- one row that is counted and does one thing -/
structure One (r : Rw) (l : List Int) (o : Int) : Prop where
  now : r.isW = false
  row : ∀ (B : Bod) (K : List Fr), l.length < 300 → doRow B K { stt l 0 with counted := (stt l 0).counted + 1 } r = (K, stt (l ++ [o]) 0)
theorem say_one {l : List Int} {n : Int} (hn : 0 < n) : One (.say (.one (.num n))) l n := by
  refine ⟨rfl, fun B K h => ?_⟩
  unfold doRow stt
  simp only [Sd.valF, Pl.valF]
  have e1 : ups (l ++ [n]) = ups l := by
    rw [ups_app]
    have : ups [n] = 0 := by unfold ups; rw [List.filter_cons, decide_eq_false (by omega)]; rfl
    omega
  have e2 : (l ++ [n]).filter (fun z => decide (z > 0)) = l.filter (fun z => decide (z > 0)) ++ [n] := by
    rw [List.filter_append]
    congr 1
    rw [List.filter_cons, decide_eq_true (show n > 0 from hn)]
    rfl
  rw [e1, e2, List.length_append]
  rfl
theorem up_one {l : List Int} : One (.let_ "a" (.op "+" (.nam "a") (.num 1))) l (-1) := by
  refine ⟨rfl, fun B K h => ?_⟩
  have hu := ups_le l
  unfold doRow stt
  simp only [Sd.valF, Pl.valF, setF_at, setF_setF]
  have e1 : ups (l ++ [-1]) = ups l + 1 := by rw [ups_app]; rfl
  have e0 : opVal "+" (ups l) 1 = ups l + 1 := by
    unfold opVal
    rw [if_pos rfl]
    omega
  have e2 : (l ++ [-1]).filter (fun z => decide (z > 0)) = l.filter (fun z => decide (z > 0)) := by
    rw [List.filter_append]
    simp
  rw [e0, e1, e2, List.length_append]
  rfl
theorem nil_one : One (.let_ "a" (.one (.num 0))) [] 0 := by
  refine ⟨rfl, fun B K h => ?_⟩
  unfold doRow stt
  simp only [Sd.valF, Pl.valF, setF_setF]
  rfl
/-- rows gone through, whatever comes behind -/
theorem lead_over {B : Bod} {fr : Fr} {l : List Int} {X : GoSt} (h : 300 < l.length) (k : Leads B fr (en l) X) : X = en l := by
  obtain ⟨K', g, _⟩ := k []
  have := g.fin (.inr (en_ended h))
  cases this
  rfl
def Go2 (B : Bod) (rs : Rs) (l m : List Int) : Prop := ∀ (tl : Rs) (X : GoSt), Leads B (.rows tl) (en (l ++ m)) X → Leads B (.rows (rs.cat tl)) (en l) X
theorem Go2.nil {B : Bod} {l : List Int} : Go2 B .nil l [] := fun tl X h => by
  rw [List.append_nil] at h
  exact h
theorem Rs.cat_cat : ∀ a b d : Rs, (a.cat b).cat d = a.cat (b.cat d)
  | .nil, b, d => rfl
  | .cons r a, b, d => by simp only [Rs.cat, Rs.cat_cat a b d]
theorem Go2.app {B : Bod} {a b : Rs} {l m n : List Int} (h : Go2 B a l m) (k : Go2 B b (l ++ m) n) : Go2 B (a.cat b) l (m ++ n) := fun tl X hx => by
  rw [Rs.cat_cat]
  refine h _ X (k tl X ?_)
  rw [List.append_assoc]
  exact hx
/-- behind three hundred and more nothing is done -/
theorem Go2.over {B : Bod} {rs : Rs} {l m : List Int} (h : 300 < l.length) (hx : ∀ (tl : Rs) (X : GoSt), l.length ≤ 300 → Leads B (.rows tl) (en (l ++ m)) X → Leads B (.rows (rs.cat tl)) (en l) X) : Go2 B rs l m := fun tl X k => by
  have := lead_over (by rw [List.length_append]; omega) k
  rw [this, en_over h]
  exact Leads.stop (en_ended h)
theorem Go2.of {B : Bod} {rs : Rs} {l m : List Int} (hm : m ≠ []) (hf : ∀ tl : Rs, l.length = 300 → ∃ K0 : List Fr → List Fr, ∀ K, goOn B K (stt l 0) (.rows (rs.cat tl)) = (K0 K, { stt l 0 with ended := 2 })) (hx : ∀ (tl : Rs) (X : GoSt), l.length < 300 → Leads B (.rows tl) (en (l ++ m)) X → Leads B (.rows (rs.cat tl)) (en l) X) : Go2 B rs l m := fun tl X k => by
  by_cases h : 300 < l.length
  · have := lead_over (by rw [List.length_append]; omega) k
    rw [this, en_over h]
    exact Leads.stop (en_ended h)
  by_cases h2 : l.length = 300
  · have hp : 0 < m.length := List.length_pos_iff.mpr hm
    have e := lead_over (by rw [List.length_append]; omega) k
    rw [e, en_full h2 hm, en_le (by omega)]
    obtain ⟨K0, hK⟩ := hf tl h2
    intro K
    refine ⟨K0 K, .step rfl (by rw [hK K]; exact .refl _), fun z => ?_⟩
    exact absurd (show (2 : Int) = 0 from z) (by decide)
  · exact hx tl X (by omega) k
theorem Go2.one {B : Bod} {r : Rw} {l : List Int} {o : Int} (h : One r l o) : Go2 B (.cons r .nil) l [o] := by
  refine Go2.of (by simp) (fun tl hl => ⟨fun K => .rows tl :: K, fun K => ?_⟩) fun tl X hl k => ?_
  · simp only [Rs.cat, goOn]
    rw [if_neg (by rw [h.now]; decide), if_pos (full_c (by omega))]
  · rw [en_le (by rw [List.length_append]; simp; omega)] at k
    rw [en_le (by omega)]
    refine Leads.cons rfl (fun K => ?_) k
    refine ⟨.rows tl :: K, ?_, fun _ => rfl⟩
    have e : goOn B K (stt l 0) (.rows (.cons r tl)) = (.rows tl :: K, stt (l ++ [o]) 0) := by
      simp only [goOn]
      rw [if_neg (by rw [h.now]; decide), if_neg (part_c (by omega))]
      exact h.row B _ hl
    show Gs B (goOn B K (stt l 0) (.rows (.cons r tl))) _
    rw [e]
    exact .refl _
/-- says, one behind the other -/
def sayR (lo : Int) : Nat → Rs
  | 0 => .nil
  | n + 1 => .cons (.say (.one (.num lo))) (sayR (lo + 1) n)
def sayL (lo : Int) : Nat → List Int
  | 0 => []
  | n + 1 => lo :: sayL (lo + 1) n
theorem sayL_len (lo : Int) (n : Nat) : (sayL lo n).length = n := by
  induction n generalizing lo with
  | zero => rfl
  | succ n ih => simp only [sayL, List.length_cons, ih]
theorem sayL_ups {lo : Int} (h : 0 < lo) (n : Nat) : ups (sayL lo n) = 0 := by
  induction n generalizing lo with
  | zero => rfl
  | succ n ih =>
    show ups ([lo] ++ sayL (lo + 1) n) = 0
    rw [ups_app, ih (by omega)]
    have : ups [lo] = 0 := by unfold ups; rw [List.filter_cons, decide_eq_false (by omega)]; rfl
    omega
theorem Go2.cons {B : Bod} {r : Rw} {rs : Rs} {l m : List Int} {o : Int} (h : One r l o) (k : Go2 B rs (l ++ [o]) m) : Go2 B (.cons r rs) l (o :: m) := Go2.app (Go2.one h) k
theorem says_go {B : Bod} {lo : Int} (h : 0 < lo) (n : Nat) (l : List Int) : Go2 B (sayR lo n) l (sayL lo n) := by
  induction n generalizing lo l with
  | zero => exact Go2.nil
  | succ n ih => exact Go2.cons (say_one h) (ih (by omega) _)
theorem Go2.lead {B : Bod} {rs : Rs} {l m : List Int} (h : Go2 B rs l m) : Leads B (.rows rs) (en l) (en (l ++ m)) := by
  have k := h .nil _ Leads.nil
  rwa [turns.catnil] at k
theorem rep_go {B : Bod} {n : Int} (hn : 0 < n) (k : Nat) (l : List Int) : Go2 B (repR k (.say (.one (.num n)))) l (List.replicate k n) := by
  induction k generalizing l with
  | zero => exact Go2.nil
  | succ k ih => exact Go2.cons (say_one hn) (ih _)
/-- the rows of a table, one by one -/
theorem each_go {B : Bod} {rs : Rs} {m : List Int} (h : ∀ l, Go2 B rs l m) : ∀ (n : Nat) (l : List Int), Leads B (.each "x" "x" rs (List.replicate n (0, 0))) (en l) (en (l ++ (List.replicate n m).flatten))
  | 0, l => by
    rw [List.replicate_zero, List.replicate_zero, List.flatten_nil, List.append_nil]
    intro K
    by_cases e : (en l).ended = 0
    · exact ⟨K, .one e, fun _ => rfl⟩
    · exact ⟨_, .refl _, fun z => absurd z e⟩
  | n + 1, l => by
    by_cases ov : 300 < l.length
    · rw [en_over ov]
      exact Leads.stop (en_ended ov)
    intro K
    have e0 : (en l).ended = 0 := by rw [en_le (by omega)]; rfl
    have e1 : goOn B K (en l) (.each "x" "x" rs (List.replicate (n + 1) (0, 0))) = (.rows rs :: .each "x" "x" rs (List.replicate n (0, 0)) :: K, en l) := by
      rw [List.replicate_succ]
      simp only [goOn]
      rw [en_le (by omega), box_x]
    obtain ⟨K1, g1, g2⟩ := Gs.then ((h l).lead (.each "x" "x" rs (List.replicate n (0, 0)) :: K)) (each_go h n (l ++ m))
    rw [List.append_assoc] at g1 g2
    rw [show (List.replicate (n + 1) m).flatten = m ++ (List.replicate n m).flatten by rw [List.replicate_succ, List.flatten_cons]]
    exact ⟨K1, .step e0 (by rw [e1]; exact g1), g2⟩
theorem each_row {B : Bod} {rs : Rs} {m : List Int} (h : ∀ l, Go2 B rs l m) (l : List Int) : Go2 B (.cons (.each "t" "x" "x" rs) .nil) l (0 :: (List.replicate 40 m).flatten) := by
  refine Go2.of (by simp) (fun tl hl => ⟨fun K => .rows tl :: K, fun K => ?_⟩) fun tl X hl k => ?_
  · simp only [Rs.cat, goOn]
    rw [if_neg (by intro z; cases z), if_pos (full_c (by omega))]
  · rw [show l ++ 0 :: (List.replicate 40 m).flatten = (l ++ [0]) ++ (List.replicate 40 m).flatten by simp] at k
    have eg := each_go (B := B) h 40 (l ++ [0])
    rw [en_le (by omega)]
    refine Leads.cons (s1 := en ((l ++ [0]) ++ (List.replicate 40 m).flatten)) rfl (fun K => ?_) k
    have e : goOn B K (stt l 0) (.rows (.cons (.each "t" "x" "x" rs) tl)) = (.each "x" "x" rs T40 :: .rows tl :: K, en (l ++ [0])) := by
      simp only [goOn]
      rw [if_neg (by intro z; cases z), if_neg (part_c (by omega))]
      rw [en_le (by rw [List.length_append]; simp; omega)]
      unfold doRow stt
      have e1 : ups (l ++ [0]) = ups l := by rw [ups_app]; show ups l + 0 = ups l; omega
      have e2 : (l ++ [0]).filter (fun z => decide (z > 0)) = l.filter (fun z => decide (z > 0)) := by
        rw [List.filter_append]
        simp
      rw [e1, e2, List.length_append]
      simp only [setF_at]
      rfl
    show ∃ K', Gs B (goOn B K (stt l 0) (.rows (.cons (.each "t" "x" "x" rs) tl))) _ ∧ _
    rw [e]
    exact eg (.rows tl :: K)
/-- the loop that counts the box up -/
abbrev upR : Rw := .let_ "a" (.op "+" (.nam "a") (.num 1))
abbrev bodyR (says : Nat) : Rs := .cons upR (sayR 1 says)
abbrev turnL (says : Nat) : List Int := 0 :: -1 :: sayL 1 says
abbrev whlF (many : Int) (says : Nat) : Fr := .whl "<" (.one (.nam "a")) (.one (.num many)) (bodyR says)
theorem so_ups {many : Int} {l : List Int} {e : Int} : soF "<" (.one (.nam "a")) (.one (.num many)) (stt l e).box = decide (ups l < many) := by
  unfold soF
  rw [if_pos rfl]
  simp only [Sd.valF, Pl.valF]
  show decide (setF (fun _ => (0 : Int)) "a" (ups l) "a" < many) = _
  rw [setF_at]
theorem ask_en {l : List Int} (h : l.length < 300) : ({ stt l 0 with counted := (stt l 0).counted + 1 } : GoSt) = en (l ++ [0]) := by
  rw [en_le (by rw [List.length_append]; simp; omega)]
  unfold stt
  have e1 : ups (l ++ [0]) = ups l := by rw [ups_app]; show ups l + 0 = ups l; omega
  have e2 : (l ++ [0]).filter (fun z => decide (z > 0)) = l.filter (fun z => decide (z > 0)) := by
    rw [List.filter_append]
    simp
  rw [e1, e2, List.length_append]
  rfl
theorem loop_go {B : Bod} {many : Int} {says : Nat} : ∀ (n : Nat) (l : List Int), ups l + n = many → Leads B (whlF many says) (en l) (en (l ++ ((List.replicate n (turnL says)).flatten ++ [0])))
  | n, l, hu => by
    by_cases ov : 300 < l.length
    · rw [en_over ov]
      exact Leads.stop (en_ended ov)
    by_cases h2 : l.length = 300
    · rw [en_full h2 (by simp), en_le (by omega)]
      intro K
      refine ⟨K, .step rfl ?_, fun z => absurd (show (2 : Int) = 0 from z) (by decide)⟩
      have e : goOn B K (stt l 0) (whlF many says) = (K, { stt l 0 with ended := 2 }) := by
        simp only [goOn]
        rw [if_pos (full_c (by omega))]
      rw [e]
      exact .refl _
    have hl : l.length < 300 := by omega
    intro K
    rw [en_le (by omega)]
    match n, hu with
    | 0, hu =>
      have e : goOn B K (stt l 0) (whlF many says) = (K, en (l ++ [0])) := by
        simp only [goOn]
        rw [if_neg (part_c (by omega)), so_ups, decide_eq_false (by omega), if_neg (by decide), ask_en hl]
      refine ⟨K, .step rfl ?_, fun _ => rfl⟩
      rw [e]
      exact .refl _
    | n + 1, hu =>
      have e : goOn B K (stt l 0) (whlF many says) = (.rows (bodyR says) :: whlF many says :: K, en (l ++ [0])) := by
        simp only [goOn]
        rw [if_neg (part_c (by omega)), so_ups, decide_eq_true (by omega), if_pos rfl, ask_en hl]
      have hb : Go2 B (bodyR says) (l ++ [0]) (-1 :: sayL 1 says) := Go2.cons up_one (says_go (by decide) _ _)
      have hu2 : ups ((l ++ [0]) ++ (-1 :: sayL 1 says)) + (n : Int) = many := by
        rw [ups_app, ups_app]
        have a1 : ups [0] = 0 := rfl
        have a2 : ups (-1 :: sayL 1 says) = 1 := by
          show ups ([-1] ++ sayL 1 says) = 1
          rw [ups_app, sayL_ups (by decide)]
          rfl
        omega
      obtain ⟨K1, g1, g2⟩ := Gs.then (hb.lead (whlF many says :: K)) (loop_go (B := B) (many := many) (says := says) n ((l ++ [0]) ++ (-1 :: sayL 1 says)) hu2)
      have ea : (l ++ [0]) ++ (-1 :: sayL 1 says) ++ ((List.replicate n (turnL says)).flatten ++ [0]) = l ++ ((List.replicate (n + 1) (turnL says)).flatten ++ [0]) := by
        rw [List.replicate_succ, List.flatten_cons]
        simp
      rw [ea] at g1 g2
      exact ⟨K1, .step rfl (by rw [e]; exact g1), g2⟩
theorem loop_row {B : Bod} {many : Nat} {says : Nat} (l : List Int) (h : ups l = 0) : Go2 B (.cons (.whl "<" (.one (.nam "a")) (.one (.num many)) (bodyR says)) .nil) l ((List.replicate many (turnL says)).flatten ++ [0]) := by
  have lg := loop_go (B := B) (says := says) (many := (many : Int)) many l (by omega)
  intro tl X k
  by_cases ov : 300 < l.length
  · have := lead_over (by rw [List.length_append]; omega) k
    rw [this, en_over ov]
    exact Leads.stop (en_ended ov)
  have e0 : (en l).ended = 0 := by rw [en_le (by omega)]; rfl
  refine Leads.cons e0 (fun K => ?_) k
  exact lg (.rows tl :: K)
/-! do's within one another -/
abbrev U4 : List Str := ["a", "t", "x"]
theorem U4_sok : ∀ x ∈ U4, SOk 40 x := by
  intro x hx
  simp only [U4, List.mem_cons, List.not_mem_nil, or_false] at hx
  rcases hx with rfl | rfl | rfl <;> exact ⟨by decide +kernel, by decide +kernel⟩
abbrev ifW (many : Int) (y : Str) : Rw := .ifr "<" (.one (.nam "a")) (.one (.num many)) (.cons (.do_ y) .nil) .nil
abbrev bodyW (many : Int) (y : Str) : Rs := .cons upR (.cons (ifW many y) (.cons (.say (.one (.num 5))) .nil))
def sw (a : Int) (l : List Int) (e c w : Int) : GoSt := ⟨setF (fun _ => 0) "a" a, fun _ => [], l, e, c, w⟩
theorem cw {a e c w : Int} {l : List Int} (h : c < 300) : ¬ (sw a l e c w).counted = 300 := by
  show ¬ c = 300
  omega
section
variable {B : Bod} {many : Int}
theorem up_w {rs : Rs} {a c w : Int} {l : List Int} {X : GoSt} (h0 : 0 ≤ a) (h1 : a < 999) (hc : c < 300) (k : Leads B (.rows rs) (sw (a + 1) l 0 (c + 1) w) X) : Leads B (.rows (.cons upR rs)) (sw a l 0 c w) X := by
  refine Leads.cons rfl (fun K => ⟨.rows rs :: K, ?_, fun _ => rfl⟩) k
  have e : goOn B K (sw a l 0 c w) (.rows (.cons upR rs)) = (.rows rs :: K, sw (a + 1) l 0 (c + 1) w) := by
    simp only [goOn]
    rw [if_neg (by intro z; cases z), if_neg (cw (by omega))]
    unfold doRow sw
    simp only [Sd.valF, Pl.valF, setF_at, setF_setF]
    rw [show opVal "+" a 1 = a + 1 from by unfold opVal; rw [if_pos rfl]; omega]
  rw [e]
  exact .refl _
theorem say_w {rs : Rs} {a c w : Int} {l : List Int} {X : GoSt} (hc : c < 300) (k : Leads B (.rows rs) (sw a (l ++ [5]) 0 (c + 1) w) X) : Leads B (.rows (.cons (.say (.one (.num 5))) rs)) (sw a l 0 c w) X := by
  refine Leads.cons rfl (fun K => ⟨.rows rs :: K, ?_, fun _ => rfl⟩) k
  have e : goOn B K (sw a l 0 c w) (.rows (.cons (.say (.one (.num 5))) rs)) = (.rows rs :: K, sw a (l ++ [5]) 0 (c + 1) w) := by
    simp only [goOn]
    rw [if_neg (by intro z; cases z), if_neg (cw (by omega))]
    rfl
  rw [e]
  exact .refl _
theorem so_w {a c w e : Int} {l : List Int} : soF "<" (.one (.nam "a")) (.one (.num many)) (sw a l e c w).box = decide (a < many) := by
  unfold soF
  rw [if_pos rfl]
  simp only [Sd.valF, Pl.valF]
  show decide (setF (fun _ => (0 : Int)) "a" a "a" < many) = _
  rw [setF_at]
theorem if_w {rs : Rs} {y : Str} {a c w : Int} {l : List Int} {X Y : GoSt} (hc : c < 300) (h : Leads B (.rows (if a < many then (.cons (.do_ y) .nil) else .nil)) (sw a l 0 (c + 1) w) Y) (k : Leads B (.rows rs) Y X) : Leads B (.rows (.cons (ifW many y) rs)) (sw a l 0 c w) X := by
  refine Leads.cons rfl (fun K => ?_) k
  have e : goOn B K (sw a l 0 c w) (.rows (.cons (ifW many y) rs)) = (.rows (if a < many then (.cons (.do_ y) .nil) else .nil) :: .rows rs :: K, sw a l 0 (c + 1) w) := by
    simp only [goOn]
    rw [if_neg (by intro z; cases z), if_neg (cw (by omega))]
    show (Fr.rows (if soF "<" (.one (.nam "a")) (.one (.num many)) (sw a l 0 c w).box = true then _ else _) :: .rows rs :: K, sw a l 0 (c + 1) w) = _
    rw [so_w]
    by_cases z : a < many
    · rw [if_pos z, decide_eq_true z, if_pos rfl]
    · rw [if_neg z, decide_eq_false z, if_neg (by decide)]
  rw [e]
  exact h (.rows rs :: K)
theorem do_w {rs : Rs} {z : Str} {a c w : Int} {l : List Int} {X Y : GoSt} (hc : c < 300) (hw : w < 20) (h : Leads B (.rows (B z)) (sw a l 0 (c + 1) (w + 1)) Y) (k : Leads B (.rows rs) (if Y.ended = 0 then { Y with within := Y.within - 1 } else Y) X) : Leads B (.rows (.cons (.do_ z) rs)) (sw a l 0 c w) X := by
  refine Leads.cons rfl (fun K => ?_) k
  have e : goOn B K (sw a l 0 c w) (.rows (.cons (.do_ z) rs)) = (.rows (B z) :: .part :: .rows rs :: K, sw a l 0 (c + 1) (w + 1)) := by
    simp only [goOn]
    rw [if_neg (by intro z; cases z), if_neg (cw (by omega))]
    show (if w = 20 then _ else _) = _
    rw [if_neg (by omega)]
    rfl
  rw [e]
  refine Gs.then (h (.part :: .rows rs :: K)) ?_
  by_cases z : Y.ended = 0
  · rw [if_pos z]
    intro K
    exact ⟨K, .one z, fun _ => rfl⟩
  · rw [if_neg z]
    exact Leads.stop z
theorem deep_few {Z : Str → Prop} (hB : ∀ z, Z z → ∃ y, Z y ∧ B z = bodyW many y) (hm : many ≤ 20) : ∀ (n : Nat) (z : Str) (k c : Int) (l : List Int), Z z → 0 ≤ k → k + n = many → 0 < n → c + 4 * n ≤ 300 → Leads B (.rows (.cons (.do_ z) .nil)) (sw k l 0 c k) (sw many (l ++ List.replicate n 5) 0 (c + 4 * n) k)
  | 0, z, k, c, l, _, _, _, h, _ => absurd h (by decide)
  | n + 1, z, k, c, l, hz, hk, hkn, _, hc => by
    obtain ⟨y, hy, e⟩ := hB z hz
    have fin : sw many (l ++ List.replicate (n + 1) 5) 0 (c + 4 * ((n + 1 : Nat) : Int)) k = (if (sw many (l ++ List.replicate n 5 ++ [5]) 0 (c + 4 * ((n + 1 : Nat) : Int)) (k + 1)).ended = 0 then { sw many (l ++ List.replicate n 5 ++ [5]) 0 (c + 4 * ((n + 1 : Nat) : Int)) (k + 1) with within := (sw many (l ++ List.replicate n 5 ++ [5]) 0 (c + 4 * ((n + 1 : Nat) : Int)) (k + 1)).within - 1 } else sw many (l ++ List.replicate n 5 ++ [5]) 0 (c + 4 * ((n + 1 : Nat) : Int)) (k + 1)) := by
      refine Eq.trans ?_ (if_pos (show (sw many (l ++ List.replicate n 5 ++ [5]) 0 (c + 4 * ((n + 1 : Nat) : Int)) (k + 1)).ended = 0 from rfl)).symm
      rw [List.append_assoc, show List.replicate n (5 : Int) ++ [5] = List.replicate (n + 1) 5 from (List.replicate_succ' ..).symm]
      unfold sw
      congr 1
      show k = k + 1 - 1
      omega
    refine do_w (Y := sw many (l ++ List.replicate n 5 ++ [5]) 0 (c + 4 * ((n + 1 : Nat) : Int)) (k + 1)) (by omega) (by omega) ?_ (by rw [← fin]; exact Leads.nil)
    rw [e]
    refine up_w hk (by omega) (by omega) ?_
    refine if_w (Y := sw many (l ++ List.replicate n 5) 0 (c + 3 + 4 * (n : Int)) (k + 1)) (by omega) ?_ ?_
    · by_cases h : k + 1 < many
      · rw [if_pos h]
        have ih := deep_few hB hm n y (k + 1) (c + 3) l hy (by omega) (by omega) (by omega) (by omega)
        rw [show c + 1 + 1 + 1 = c + 3 by omega]
        exact ih
      · rw [if_neg h]
        have n0 : n = 0 := by omega
        subst n0
        rw [List.replicate_zero, List.append_nil, show c + 1 + 1 + 1 = c + 3 by omega, show many = k + 1 by omega]
        have : c + 3 + 4 * ((0 : Nat) : Int) = c + 3 := by omega
        rw [this]
        exact Leads.nil
    · refine say_w (by omega) ?_
      rw [show c + 3 + 4 * (n : Int) + 1 = c + 4 * ((n + 1 : Nat) : Int) by push_cast; omega]
      exact Leads.nil
theorem deep_many {Z : Str → Prop} (hB : ∀ z, Z z → ∃ y, Z y ∧ B z = bodyW many y) (hm : 20 < many) : ∀ (n : Nat) (z : Str) (k c : Int) (l : List Int), Z z → 0 ≤ k → k + n = 20 → c + 4 * n < 300 → ∃ c', Leads B (.rows (.cons (.do_ z) .nil)) (sw k l 0 c k) (sw 20 l 2 c' 20)
  | 0, z, k, c, l, hz, hk, hkn, hc => by
    have k20 : k = 20 := by omega
    subst k20
    refine ⟨c + 1, fun K => ⟨.rows .nil :: K, .step rfl ?_, fun z => absurd (show (2 : Int) = 0 from z) (by decide)⟩⟩
    have e : goOn B K (sw 20 l 0 c 20) (.rows (.cons (.do_ z) .nil)) = (.rows .nil :: K, sw 20 l 2 (c + 1) 20) := by
      simp only [goOn]
      rw [if_neg (by intro z; cases z), if_neg (cw (by omega))]
      rfl
    rw [e]
    exact .refl _
  | n + 1, z, k, c, l, hz, hk, hkn, hc => by
    obtain ⟨y, hy, e⟩ := hB z hz
    obtain ⟨c', ih⟩ := deep_many hB hm n y (k + 1) (c + 3) l hy (by omega) (by omega) (by omega)
    have two : (sw 20 l 2 c' 20).ended ≠ 0 := by show (2 : Int) ≠ 0; decide
    refine ⟨c', do_w (Y := sw 20 l 2 c' 20) (by omega) (by omega) ?_ (by rw [if_neg two]; exact Leads.stop two)⟩
    rw [e]
    refine up_w hk (by omega) (by omega) ?_
    refine if_w (Y := sw 20 l 2 c' 20) (by omega) ?_ (Leads.stop two)
    rw [if_pos (by omega), show c + 1 + 1 + 1 = c + 3 by omega]
    exact ih
theorem behind_w {p : Str} (hB : B p = .cons upR .nil) : ∀ (n : Nat) (a c : Int) (l : List Int), 0 ≤ a → a + n < 999 → c + 2 * n ≤ 300 → Leads B (.rows (repR n (.do_ p))) (sw a l 0 c 0) (sw (a + n) l 0 (c + 2 * n) 0)
  | 0, a, c, l, _, _, _ => by
    have : sw (a + ((0 : Nat) : Int)) l 0 (c + 2 * ((0 : Nat) : Int)) 0 = sw a l 0 c 0 := by congr 1 <;> omega
    rw [this]
    exact Leads.nil
  | n + 1, a, c, l, h0, h1, h2 => by
    refine do_w (Y := sw (a + 1) l 0 (c + 2) 1) (by omega) (by decide) ?_ ?_
    · rw [hB]
      refine up_w h0 (by omega) (by omega) ?_
      rw [show c + 1 + 1 = c + 2 by omega]
      exact Leads.nil
    · rw [if_pos (show (sw (a + 1) l 0 (c + 2) 1).ended = 0 from rfl)]
      have ih := behind_w hB n (a + 1) (c + 2) l (by omega) (by omega) (by omega)
      rw [show a + 1 + (n : Int) = a + ((n + 1 : Nat) : Int) by push_cast; omega, show c + 2 + 2 * (n : Int) = c + 2 * ((n + 1 : Nat) : Int) by push_cast; omega] at ih
      exact ih
end
theorem due24 {c : CMap} {A B S : Addr} {us : Tbs} {cs bs2 : Bxs} {us2 : Tabs} {said2 : List Int} {e2 : Int} {s : GoSt} {U : List Str} {M : Int} {c0 : CMap} {E : XD} {Q : DK} (hU : ∀ x ∈ U, SOk 40 x) (an : Answer c0 c A B S us cs s) (hi : InU U s) (ho : GoOk M s) (T1 : Told bs2 s.box 0) (T2 : Told us2 s.tab []) (e1 : s.said = said2) (e3 : s.ended = e2) (q : Q (.bl true) c) :
    sp_law_alike 8 [.tup [.ref A, .ref B, .ref S, .int s.ended], .tup [.lst (bs2.map bD), .lst (us2.map tbD), .lst (said2.map D.int), .int e2]] c E Q := by
  obtain rfl := T1.uniq an.tb
  obtain rfl := T2.uniq an.tt
  subst e1
  subst e3
  have hl : ∀ x, (s.tab x).length < 16777216 := fun x => by have := ho.tl x; have := ho.c1; have := ho.mm; omega
  have sl := ho.sl
  have c1 := ho.c1
  refine ⟨_, _, ansD bs2 (us.map fun t => (t.1, s.tab t.1)) s.said s.ended, rfl, an.rsv (n := 2) hU hi ho, ?_, q⟩
  have lu := an.lu
  have lb := an.lb
  refine due_rsv (n := 2) (U := U) rfl hU (an.tb.names hi.b) (fun t ht => ⟨an.tt.names hi.t t ht, ?_⟩) (by omega) (by rw [List.length_map]; omega) (by omega)
  obtain ⟨u, hu, rfl⟩ := List.mem_map.mp ht
  exact hl u.1
/-- a box, or none -/
theorem told_a {v : Int} : Told (List.replicate (if v = 0 then 0 else 1) (("a" : Str), v)) (setF (fun _ => 0) "a" v) 0 := by
  by_cases h : v = 0
  · rw [if_pos h, h]
    refine ⟨by simp, by simp, fun x w => ?_⟩
    simp only [List.replicate_zero, List.not_mem_nil, false_iff]
    rintro ⟨h1, h2⟩
    refine h2 (h1 ▸ ?_)
    unfold setF
    split <;> rfl
  · rw [if_neg h]
    refine ⟨by simp, by simp, fun x w => ?_⟩
    simp only [List.replicate_succ, List.replicate_zero, List.mem_singleton, Prod.mk.injEq]
    constructor
    · rintro ⟨rfl, rfl⟩
      exact ⟨setF_at, h⟩
    · rintro ⟨h1, h2⟩
      by_cases e : x = "a"
      · subst e
        rw [setF_at] at h1
        exact ⟨rfl, h1.symm⟩
      · rw [setF_ne e] at h1
        exact absurd h1.symm h2
theorem told_t : Told [(("t" : Str), T40)] tb24 [] := by
  refine ⟨by simp, by simp, fun x w => ?_⟩
  simp only [List.mem_singleton, Prod.mk.injEq]
  constructor
  · rintro ⟨rfl, rfl⟩
    exact ⟨setF_at, by decide⟩
  · rintro ⟨h1, h2⟩
    by_cases e : x = "t"
    · subst e
      have h3 : tb24 "t" = T40 := setF_at
      exact ⟨rfl, by rw [← h1, h3]⟩
    · have h3 : tb24 x = [] := setF_ne e
      exact absurd (by rw [← h1, h3]) h2
theorem told_0 : Told ([] : Tabs) (fun _ => []) [] := ⟨by simp, by simp, fun x w => by simp⟩
/-! just three hundred rows -/
abbrev R24 (rs : Rs) : List D := rs.ds
theorem sayR_map (f : Int → D) (hf : ∀ v, f v = D.tup [.str "say", .tup [.str "number", .int v]]) : ∀ (n : Nat) (lo : Int), (sayR lo n).ds = (List.range n).map fun (i : Nat) => f (lo + i)
  | 0, lo => rfl
  | n + 1, lo => by
    rw [List.range_succ_eq_map, List.map_cons, List.map_map]
    simp only [sayR, Rs.ds]
    rw [sayR_map f hf n (lo + 1)]
    congr 1
    · rw [hf]
      show D.tup [.str "say", .tup [.str "number", .int lo]] = D.tup [.str "say", .tup [.str "number", .int (lo + ((0 : Nat) : Int))]]
      rw [show lo + ((0 : Nat) : Int) = lo by omega]
    · refine List.map_congr_left fun i _ => ?_
      show f (lo + 1 + (i : Int)) = f (lo + ((i + 1 : Nat) : Int))
      congr 1
      push_cast
      omega
theorem sayL_map : ∀ (n : Nat) (lo : Int), sayL lo n = (List.range n).map fun (i : Nat) => lo + (i : Int)
  | 0, lo => rfl
  | n + 1, lo => by
    rw [List.range_succ_eq_map, List.map_cons, List.map_map]
    simp only [sayL]
    rw [sayL_map n (lo + 1)]
    congr 1
    · omega
    · refine List.map_congr_left fun i _ => ?_
      show lo + 1 + (i : Int) = lo + ((i + 1 : Nat) : Int)
      push_cast
      omega
theorem says_up {b : Int} {n : Nat} : ((upto 0 n).map fun k => D.tup [.str "say", .tup [.str "number", .int (b + k)]]) = (sayR b n).ds := by
  rw [sayR_map (fun v => D.tup [.str "say", .tup [.str "number", .int v]]) (fun v => rfl)]
  unfold upto
  rw [List.map_map]
  refine List.map_congr_left fun i _ => ?_
  show D.tup [.str "say", .tup [.str "number", .int (b + (0 + (i : Int)))]] = _
  rw [Int.zero_add]
theorem told_up {b : Int} {n : Nat} : ((upto 0 n).map fun k => D.int (b + k)) = (sayL b n).map D.int := by
  rw [sayL_map]
  unfold upto
  rw [List.map_map, List.map_map]
  refine List.map_congr_left fun i _ => ?_
  show D.int (b + (0 + (i : Int))) = _
  rw [Int.zero_add]
  rfl
abbrev loopR (many says : Nat) : Rs := .cons (.let_ "a" (.one (.num 0))) (.cons (.whl "<" (.one (.nam "a")) (.one (.num many)) (bodyR says)) .nil)
abbrev loopL (many says : Nat) : List Int := 0 :: ((List.replicate many (turnL says)).flatten ++ [0])
/-- rows and what is counted by them -/
structure Good (rs : Rs) (L : List Int) : Prop where
  go : ∀ B : Bod, Go2 B rs [] L
  ok : rs.ok U4 []
  dp : rs.deep ≤ 2
  ln : rs.ds.length ≤ L.length
theorem sayR_ok {lo : Int} : ∀ n : Nat, 0 ≤ lo → lo + n < 1000 → (sayR lo n).ok U4 [] ∧ (sayR lo n).deep = 0 ∧ (sayR lo n).ds.length = n
  | 0, _, _ => ⟨trivial, rfl, rfl⟩
  | n + 1, h0, h1 => by
    obtain ⟨a, b, d⟩ := sayR_ok (lo := lo + 1) n (by omega) (by omega)
    refine ⟨⟨⟨h0, by omega⟩, a⟩, ?_, ?_⟩
    · simp only [sayR, Rs.deep, Rw.deep, b]; rfl
    · simp only [sayR, Rs.ds, List.length_cons, d]
theorem flat_len (n : Nat) (m : List Int) : ((List.replicate n m).flatten).length = n * m.length := by
  rw [List.length_flatten, List.map_replicate, List.sum_replicate_nat]
theorem loop_good {many says : Nat} (hm : many ≤ 100) (hs : says ≤ 9) : Good (loopR many says) (loopL many says) := by
  obtain ⟨s1, s2, s3⟩ := sayR_ok (lo := 1) says (by decide) (by omega)
  have ua : ("a" : Str) ∈ U4 := by simp [U4]
  refine ⟨fun B => ?_, ?_, ?_, ?_⟩
  · exact Go2.cons nil_one (loop_row (many := many) (says := says) ([] ++ [0]) rfl)
  · exact ⟨⟨ua, (show (0 : Int) ≤ 0 ∧ (0 : Int) < 1000 by decide)⟩, ⟨.inl rfl, U4_sok "a" ua, ⟨by omega, by omega⟩, ⟨ua, .inl rfl, U4_sok "a" ua, (show (0 : Int) ≤ 1 ∧ (1 : Int) < 1000 by decide)⟩, s1⟩, trivial⟩
  · simp only [loopR, Rs.deep, Rw.deep, s2]; decide
  · simp only [loopR, Rs.ds, List.length_cons, List.length_nil, List.length_append]; omega
theorem Good.app {rs q : Rs} {L m : List Int} (h : Good rs L) (hq : ∀ (B : Bod) (l : List Int), Go2 B q l m) (ok : q.ok U4 []) (dp : q.deep ≤ 2) (ln : q.ds.length ≤ m.length) : Good (rs.cat q) (L ++ m) :=
  ⟨fun B => Go2.app (h.go B) (hq B _), Rs.cat_ok _ _ h.ok ok, by rw [Rs.cat_deep]; have := h.dp; omega, by rw [Rs.cat_ds, List.length_append, List.length_append]; have := h.ln; omega⟩
theorem turn_next {i says : Nat} : List.map D.int (0 :: (List.replicate i (turnL says)).flatten) ++ [D.int 0, D.int (-1)] ++ List.map D.int (sayL 1 says) = List.map D.int (0 :: (List.replicate (i + 1) (turnL says)).flatten) := by
  rw [show (List.replicate (i + 1) (turnL says)).flatten = (List.replicate i (turnL says)).flatten ++ turnL says by rw [List.replicate_succ']; simp]
  simp
def sp_law_loop : DSpec := fun ds c E Q => ∃ many says : Nat, ds = [.int (many : Nat), .int (says : Nat)] ∧ many ≤ 100 ∧ says ≤ 9 ∧ Q (.tup [.lst (loopR many says).ds, .lst ((loopL many says).map D.int)]) c
theorem ok_law_loop {ds c E Q} (h : sp_law_loop ds c E Q) : b_law_loop (endD E Q) (startE 8 ds) c := by
  obtain ⟨many, says, rfl, hm, hs, q⟩ := h
  unfold b_law_loop
  walk_at "go"
  intro A hA
  refine comp_mapL (xs := upto 0 says) (g := D.int) (fun k => some (.tup [.str "say", .tup [.str "number", .int (1 + k)]])) hA (by rw [upto_len]; omega) ?_ ?_
  · intro k c2 K hk hc hK
    walk_at "go"
    exact hK
  rw [fm_some, says_up]
  walk_at "go"
  refine add_ll (len_le (by rw [(sayR_ok (lo := 1) says (by decide) (by omega)).2.2]; simp; omega)) (newL_f ?_)
  walk_at "go"
  refine for_inv (fun i env c' => c' = c ∧ i ≤ many ∧ ∃ v4 v7, env = [some (.int (many : Nat)), some (.int (says : Nat)), some upR.d, some (.lst (sayR 1 says).ds), v4, some (.lst (loopR many says).ds), some (.lst ((0 :: (List.replicate i (turnL says)).flatten : List Int).map D.int)), v7]) ⟨rfl, Nat.zero_le _, none, none, rfl⟩ ?_ ?_
  · rintro i d env c' e ⟨rfl, hi, v4, v7, rfl⟩
    obtain ⟨y, hy, rfl⟩ := mem_map_at e
    obtain ⟨hi2, rfl⟩ := upto_at hy
    have fl : ((0 :: (List.replicate i (turnL says)).flatten : List Int).map D.int).length ≤ 2000 := by
      rw [List.length_map, List.length_cons, flat_len]
      have : (turnL says).length ≤ 11 := by simp only [turnL, List.length_cons, sayL_len]; omega
      have := Nat.mul_le_mul (show i ≤ 100 by omega) this
      omega
    walk_at "go"
    refine add_ll (len_le (by simp only [List.length_cons, List.length_nil]; omega)) (newL_f ?_)
    walk_at "go"
    intro A hA
    refine comp_mapL (xs := upto 0 says) (g := D.int) (fun k => some (.int (1 + k))) hA (by rw [upto_len]; omega) ?_ ?_
    · intro k c2 K hk hc hK
      walk_at "go"
      exact hK
    rw [fm_some, told_up]
    walk_at "go"
    refine add_ll (len_le (by simp only [List.length_append, List.length_cons, List.length_nil, List.length_map, sayL_len] at fl ⊢; omega)) (newL_f ?_)
    rw [turn_next]
    exact ⟨rfl, by omega, _, _, rfl⟩
  · rintro env c' ⟨rfl, hi, v4, v7, rfl⟩
    have el : (List.map D.int (upto 0 (many : Int).toNat)).length = many := by rw [List.length_map, upto_len]; rfl
    rw [el]
    have fl : ((0 :: (List.replicate many (turnL says)).flatten : List Int).map D.int).length ≤ 2000 := by
      rw [List.length_map, List.length_cons, flat_len]
      have : (turnL says).length ≤ 11 := by simp only [turnL, List.length_cons, sayL_len]; omega
      have := Nat.mul_le_mul hm this
      omega
    walk_at "go"
    refine add_ll (len_le (by simp only [List.length_cons, List.length_nil] at fl ⊢; omega)) (newL_f ?_)
    walk_at "go"
    refine ⟨_, SubC.rfl', ?_⟩
    rw [show List.map D.int (0 :: (List.replicate many (turnL says)).flatten) ++ [D.int 0] = (loopL many says).map D.int by simp [loopL]]
    exact q
def sp_law_filled : DSpec := fun ds c E Q => ∃ (rs : Rs) (L : List Int) (n : Nat), ds = [.lst rs.ds, .lst (L.map D.int), .int (n : Nat)] ∧ Good rs L ∧ L.length ≤ 2000 ∧ n ≤ 2000 ∧ ∀ rs' L', Good rs' L' → L'.length ≤ 2000 → Q (.tup [.lst rs'.ds, .lst (L'.map D.int)]) c
theorem ok_law_filled {ds c E Q} (h : sp_law_filled ds c E Q) : b_law_filled (endD E Q) (startE 7 ds) c := by
  obtain ⟨rs, L, n, rfl, hg, hL, hn, q⟩ := h
  unfold b_law_filled
  have ln := hg.ln
  walk_at "go"
  refine newL_t fun u hu => ?_
  walk_at "go"
  refine ⟨fun m env c' => ∃ (u : Addr) (rs' : Rs) (L' : List Int) (v4 v5 v6 : Option D), m = n - L'.length ∧ Good rs' L' ∧ L'.length ≤ 2000 ∧ env = [some (.ref u), some (.lst (L'.map D.int)), some (.int (n : Nat)), some (.int ((n : Int) - (L'.length : Int))), v4, v5, v6] ∧ c u = none ∧ c' = updc c u (.lst rs'.ds), ⟨_, u, rs, L, none, none, none, rfl, hg, hL, by rw [List.length_map]; rfl, hu, rfl⟩, ?_⟩
  rintro m env c' ⟨u, rs', L', v4, v5, v6, rfl, hg, hL, rfl, hu, rfl⟩
  have ln := hg.ln
  walk_at "go"
  refine ite_d (fun h => ?_) (fun h => ?_)
  · refine ⟨fun env2 c2 => ∃ (rs2 : Rs) (L2 : List Int) (v4 v5 v6 : Option D), Good rs2 L2 ∧ L2.length ≤ n ∧ L'.length < L2.length ∧ env2 = [some (.ref u), some (.lst (L2.map D.int)), some (.int (n : Nat)), some (.int ((n : Int) - (L2.length : Int))), v4, v5, v6] ∧ c2 = updc c u (.lst rs2.ds), ?_, ?_⟩
    · rintro env2 c2 ⟨rs2, L2, v4, v5, v6, g2, l2, l3, rfl, rfl⟩
      exact ⟨n - L2.length, by omega, _, SubC.rfl', u, rs2, L2, _, _, _, rfl, g2, by omega, rfl, hu, rfl⟩
    walk_at "go"
    obtain ⟨k, hk, k1, k5, kl⟩ : ∃ k : Nat, (k : Int) = (if ((n : Int) - (L'.length : Int) - 1) / 40 < 5 then ((n : Int) - (L'.length : Int) - 1) / 40 else 5) ∧ 1 ≤ k ∧ k ≤ 5 ∧ 40 * k + 1 + L'.length ≤ n := by
      refine ⟨(if ((n : Int) - (L'.length : Int) - 1) / 40 < 5 then ((n : Int) - (L'.length : Int) - 1) / 40 else 5).toNat, ?_, ?_, ?_, ?_⟩ <;> split <;> omega
    first | rw [← hk] | skip
    have sk := sayR_ok (lo := 11) k (by decide) (by omega)
    have fl : ((List.replicate 40 (sayL 11 k)).flatten).length = 40 * k := by rw [flat_len, sayL_len]
    intro A hA
    refine comp_mapL (xs := upto 0 k) (g := D.int) (fun v => some (.tup [.str "say", .tup [.str "number", .int (11 + v)]])) hA (by rw [upto_len]; omega) ?_ ?_
    · intro k c2 K hk hc hK
      walk_at "go"
      exact hK
    rw [fm_some, says_up]
    walk_at "go"
    refine ⟨ty_c updc_same, ?_⟩
    walk_at "go"
    refine app_c updc_same (len_lt (by omega)) ?_
    rw [updc_updc]
    walk_at "go"
    refine add_ll (len_le (by rw [List.length_map]; simp only [List.length_cons, List.length_nil]; omega)) (newL_f ?_)
    walk_at "go"
    first | rw [← hk] | skip
    intro A2 hA2
    refine comp_mapL (xs := upto 0 k) (g := D.int) (fun v => some (.int (11 + v))) hA2 (by rw [upto_len]; omega) ?_ ?_
    · intro k c2 K hk hc hK
      walk_at "go"
      exact hK
    rw [fm_some, told_up]
    walk_at "go"
    refine mul_li (by decide) (by decide) (len_le (by rw [List.length_map, sayL_len]; show k * 40 ≤ 16777216; omega)) (newL_f ?_)
    have em : (List.replicate (Int.toNat 40) ((sayL 11 k).map D.int)).flatten = ((List.replicate 40 (sayL 11 k)).flatten).map D.int := by
      rw [show Int.toNat 40 = 40 from rfl, List.map_flatten, List.map_replicate]
    rw [em]
    walk_at "go"
    refine add_ll (len_le (by rw [List.length_append, List.length_map, List.length_map, fl]; simp only [List.length_cons, List.length_nil]; omega)) (newL_f ?_)
    walk_at "go"
    rw [show List.map D.int L' ++ [D.int 0] ++ List.map D.int ((List.replicate 40 (sayL 11 k)).flatten) = (L' ++ 0 :: (List.replicate 40 (sayL 11 k)).flatten).map D.int by simp]
    have l2 : (L' ++ 0 :: (List.replicate 40 (sayL 11 k)).flatten).length = L'.length + (40 * k + 1) := by rw [List.length_append, List.length_cons, fl]
    have ux : ("x" : Str) ∈ U4 := by simp [U4]
    have ut : ("t" : Str) ∈ U4 := by simp [U4]
    refine ⟨rs'.cat (.cons (.each "t" "x" "x" (sayR 11 k)) .nil), L' ++ 0 :: (List.replicate 40 (sayL 11 k)).flatten, _, _, _, hg.app (fun B l => each_row (fun l => says_go (by decide) k l) l) ⟨⟨U4_sok "t" ut, ux, ux, sk.1⟩, trivial⟩ (by simp only [Rs.deep, Rw.deep, sk.2.1]; decide) (by simp [Rs.ds]), by omega, by omega, by rw [List.length_map]; rfl, by rw [Rs.cat_ds]; rfl⟩
  · walk_at "go"
    obtain ⟨m, hm, ml⟩ : ∃ m : Nat, (m : Int) = (if (0 : Int) < (n : Int) - (L'.length : Int) then (n : Int) - (L'.length : Int) else 0) ∧ m ≤ 40 := by
      refine ⟨(if (0 : Int) < (n : Int) - (L'.length : Int) then (n : Int) - (L'.length : Int) else 0).toNat, ?_, ?_⟩ <;> split <;> omega
    first | rw [← hm] | skip
    have rl := repR_len (.say (.one (.num 30))) m
    have rd : (List.replicate (m : Int).toNat [D.tup [D.str "say", D.tup [D.str "number", D.int 30]]]).flatten = (repR m (.say (.one (.num 30)))).ds := rep_ds (.say (.one (.num 30))) m
    refine mul_li (by omega) (by omega) (len_le (by show 1 * m ≤ 16777216; omega)) (newL_f ?_)
    rw [rd]
    refine add_res (res_c updc_same) rfl (by omega) (newL_t fun u2 hu2 => ?_)
    obtain ⟨nu, hu3⟩ := updc_none hu2
    walk_at "go"
    first | rw [← hm] | skip
    refine mul_li (by omega) (by omega) (len_le (by show 1 * m ≤ 16777216; omega)) (newL_f ?_)
    have rm : (List.replicate (m : Int).toNat [D.int 30]).flatten = (List.replicate m (30 : Int)).map D.int := by
      show (List.replicate m [D.int 30]).flatten = _
      rw [List.map_replicate]
      clear hm ml rl rd
      induction m with
      | zero => rfl
      | succ m ih => rw [List.replicate_succ, List.flatten_cons, ih, List.replicate_succ]; rfl
    rw [rm]
    walk_at "go"
    refine add_ll (len_le (by rw [List.length_map, List.length_map, List.length_replicate]; omega)) (newL_f ?_)
    walk_at "go"
    rw [← List.map_append, ← Rs.cat_ds]
    have ro : ∀ m : Nat, (repR m (.say (.one (.num 30)))).ok U4 [] ∧ (repR m (.say (.one (.num 30)))).deep = 0 := fun m => ⟨repR_ok (r := .say (.one (.num 30))) (show (0 : Int) ≤ 30 ∧ (30 : Int) < 1000 by decide) m, repR_deep rfl m⟩
    rw [delc_updc hu2]
    refine ⟨_, SubC.new hu, q (rs'.cat (repR m (.say (.one (.num 30))))) (L' ++ List.replicate m 30) (hg.app (fun B l => rep_go (by decide) m l) (ro m).1 (by rw [(ro m).2]; decide) (by rw [rl, List.length_replicate]; exact Nat.le_refl _)) (by rw [List.length_append, List.length_replicate]; split at hm <;> omega)⟩
/-! the run, and what is due of it -/
theorem begun_en : begun [] [(("t" : Str), T40)] = en [] := by
  rw [en_le (by decide)]
  unfold begun stt
  congr 1
  · funext x
    show (0 : Int) = setF (fun _ => (0 : Int)) "a" (ups []) x
    unfold setF
    split <;> rfl
  · funext x
    by_cases h : x = "t"
    · subst h; rfl
    · show tabF [(("t" : Str), T40)] x = setF (fun _ => []) "t" T40 x
      rw [setF_ne h]
      unfold tabF
      simp [List.find?, Ne.symm h]
theorem stop_run {rs : Rs} {L : List Int} (h : Good rs L) {st : Nat} (hs : st ≤ 1) : ∃ X : GoSt, Runs (bodF []) (rs.cat (repR st .stop)) (begun [] [(("t" : Str), T40)]) X ∧ X.box = setF (fun _ => 0) "a" (ups ((L ++ List.replicate st 0).take 300)) ∧ X.tab = tb24 ∧ X.said = ((L ++ List.replicate st 0).take 300).filter (fun z => decide (z > 0)) ∧ X.ended = if 300 < (L ++ List.replicate st 0).length then 2 else (st : Int) := by
  rw [begun_en]
  have g := h.go (bodF [])
  have no : ∀ l : List Int, ups (l ++ [0]) = ups l ∧ (l ++ [0]).filter (fun z => decide (z > 0)) = l.filter (fun z => decide (z > 0)) := fun l => ⟨by rw [ups_app]; show ups l + 0 = ups l; omega, by rw [List.filter_append]; simp⟩
  match st, hs with
  | 0, _ =>
    have r := (g .nil (en L) Leads.nil).runs
    rw [show List.replicate 0 (0 : Int) = [] from rfl, List.append_nil]
    refine ⟨en L, r, rfl, rfl, rfl, ?_⟩
    show (if L.length ≤ 300 then (0 : Int) else 2) = _
    by_cases z : 300 < L.length
    · rw [if_pos z, if_neg (by omega)]
    · rw [if_neg z, if_pos (by omega)]
      rfl
  | 1, _ =>
    rw [show List.replicate 1 (0 : Int) = [0] from rfl]
    have hlen : (L ++ [0]).length = L.length + 1 := by simp
    by_cases z : 300 < L.length
    · have r := (g (repR 1 .stop) (en L) (Leads.stop (en_ended z))).runs
      refine ⟨en L, r, ?_, rfl, ?_, ?_⟩
      · rw [List.take_append_of_le_length (by omega)]
        rfl
      · rw [List.take_append_of_le_length (by omega)]
        rfl
      · rw [if_pos (by omega)]
        show (if L.length ≤ 300 then (0 : Int) else 2) = 2
        rw [if_neg (by omega)]
    by_cases z2 : L.length = 300
    · have ld : Leads (bodF []) (.rows (repR 1 .stop)) (en L) { stt L 0 with ended := 2 } := by
        rw [en_le (by omega)]
        intro K
        refine ⟨.rows .nil :: K, .step rfl ?_, fun y => absurd (show (2 : Int) = 0 from y) (by decide)⟩
        have e : goOn (bodF []) K (stt L 0) (.rows (repR 1 .stop)) = (.rows .nil :: K, { stt L 0 with ended := 2 }) := by
          simp only [repR, goOn]
          rw [if_neg (by intro y; cases y), if_pos (full_c z2)]
        rw [e]
        exact .refl _
      have r := (g (repR 1 .stop) _ ld).runs
      refine ⟨_, r, ?_, rfl, ?_, ?_⟩
      · rw [List.take_append_of_le_length (by omega), List.take_of_length_le (by omega)]
        rfl
      · rw [List.take_append_of_le_length (by omega), List.take_of_length_le (by omega)]
        rfl
      · rw [if_pos (by omega)]
    · have ld : Leads (bodF []) (.rows (repR 1 .stop)) (en L) { stt L 0 with counted := (stt L 0).counted + 1, ended := 1 } := by
        rw [en_le (by omega)]
        intro K
        refine ⟨.rows .nil :: K, .step rfl ?_, fun y => absurd (show (1 : Int) = 0 from y) (by decide)⟩
        have e : goOn (bodF []) K (stt L 0) (.rows (repR 1 .stop)) = (.rows .nil :: K, { stt L 0 with counted := (stt L 0).counted + 1, ended := 1 }) := by
          simp only [repR, goOn]
          rw [if_neg (by intro y; cases y), if_neg (part_c (by omega))]
          rfl
        rw [e]
        exact .refl _
      have r := (g (repR 1 .stop) _ ld).runs
      refine ⟨_, r, ?_, rfl, ?_, ?_⟩
      · rw [List.take_of_length_le (by omega), (no L).1]
        rfl
      · rw [List.take_of_length_le (by omega), (no L).2]
        rfl
      · rw [if_neg (by omega)]
        rfl
theorem beg40 : Beg U4 40 [] [(("t" : Str), T40)] := ⟨by simp, fun b h => (by cases h), by simp, fun t ht => by
  simp only [List.mem_singleton] at ht
  subst ht
  refine ⟨by simp [U4], fun p hp => ?_, by decide⟩
  rw [(List.mem_replicate.mp hp).2]
  decide, by decide, U4_sok, by decide⟩
theorem counted_10 {K : PySem.W.Frag} {c : CMap} {E : XD} {Q : DK} {p : Addr} {RS : Rs} {LL DN : List Int} {st : Nat} {X : GoSt} {v0 v2 v9 : Option D} {up : D} (hrun : Runs (bodF []) RS (begun [] [(("t" : Str), T40)]) X) (pok : PrgOk U4 RS []) (tl : DN.length ≤ 300) (x1 : X.box = setF (fun _ => 0) "a" (ups DN)) (x2 : X.tab = tb24) (x3 : X.said = DN.filter (fun z => decide (z > 0))) (x4 : X.ended = if 300 < LL.length then 2 else (st : Int)) (q : ∀ c', SubC c c' → Q (.bl true) c') :
    b_law_counted_10 sp_law_draw sp_law_loop sp_law_filled (sp_plain_run K) (sp_law_alike 8) (endD E Q) [some (.ref p), v0, v2, some (.lst (LL.map D.int)), some (.lst RS.ds), some (.int (st : Nat)), some (.lst [.tup [.str "t", .lst (T40.map prD)]]), some (.lst (DN.map D.int)), some up, v9, some (.lst ((List.replicate (if ups DN = 0 then 0 else 1) (("a" : Str), ups DN)).map bD)), none, none] c := by
  unfold b_law_counted_10
  have rt : (List.replicate (Int.toNat 40) [D.tup [D.int 0, D.int 0]]).flatten = T40.map prD := rep_pr (0, 0) 40
  walk_at "go"
  have h2 : (300 < ((List.map D.int LL).length : Int)) ↔ 300 < LL.length := by rw [List.length_map]; omega
  refine ite_d (fun h => ?_) (fun h => ?_)
  · rw [if_pos (h2.mp h)] at x4
    walk_at "go"
    intro A2 hA2
    refine comp_mapL (xs := DN) (g := D.int) (fun z => if z > 0 then some (.int z) else none) hA2 (by omega) ?_ ?_
    · intro z c2 K2 hz hc hK
      walk_at "go"
      refine ite_d (fun h => ?_) (fun h => ?_)
      · rw [if_pos h] at hK
        walk_at "go"
        exact hK
      · rw [if_neg h] at hK
        exact hK
    rw [fm_if]
    walk_at "go"
    refine mul_li (by decide) (by decide) (len_le (by decide)) (newL_f ?_)
    rw [rt]
    walk_at "go"
    refine ⟨RS, [], [], [(("t" : Str), T40)], U4, 40, _, _, rfl, rfl, TabsD.lit (ts := [(("t" : Str), T40)]) (by simp), beg40, pok, fun c' A B S us cs s an hR _ hok hin => ?_⟩
    obtain rfl := hrun.uniq hR
    walk_at "go"
    refine due24 U4_sok an ⟨hin.1, hin.2⟩ hok (by rw [x1]; exact told_a) (by rw [x2]; exact told_t) x3 x4 ?_
    exact ⟨_, SubC.rfl', q _ an.sub⟩
  · rw [if_neg fun z => h (h2.mpr z)] at x4
    walk_at "go"
    intro A2 hA2
    refine comp_mapL (xs := DN) (g := D.int) (fun z => if z > 0 then some (.int z) else none) hA2 (by omega) ?_ ?_
    · intro z c2 K2 hz hc hK
      walk_at "go"
      refine ite_d (fun h => ?_) (fun h => ?_)
      · rw [if_pos h] at hK
        walk_at "go"
        exact hK
      · rw [if_neg h] at hK
        exact hK
    rw [fm_if]
    walk_at "go"
    refine mul_li (by decide) (by decide) (len_le (by decide)) (newL_f ?_)
    rw [rt]
    walk_at "go"
    refine ⟨RS, [], [], [(("t" : Str), T40)], U4, 40, _, _, rfl, rfl, TabsD.lit (ts := [(("t" : Str), T40)]) (by simp), beg40, pok, fun c' A B S us cs s an hR _ hok hin => ?_⟩
    obtain rfl := hrun.uniq hR
    walk_at "go"
    refine due24 U4_sok an ⟨hin.1, hin.2⟩ hok (by rw [x1]; exact told_a) (by rw [x2]; exact told_t) x3 x4 ?_
    exact ⟨_, SubC.rfl', q _ an.sub⟩
theorem counted_4 {K : PySem.W.Frag} {c : CMap} {E : XD} {Q : DK} {p : Addr} {v5 : Int} {rs : Rs} {L : List Int} {w1 w2 : Option D} (hg : Good rs L) (hL : L.length ≤ 2000) (q : ∀ c', SubC c c' → Q (.bl true) c') :
    b_law_counted_4 sp_law_draw sp_law_loop sp_law_filled (sp_plain_run K) (sp_law_alike 8) (endD E Q) [some (.ref p), w1, w2, some (.lst (L.map D.int)), some (.lst rs.ds), some (.int (if (false ^^ decide (v5 = 0)) = true then 1 else 0)), none, none, none, none, none, none, none] c := by
  unfold b_law_counted_4
  obtain ⟨st, hst, hs1⟩ : ∃ st : Nat, (st : Int) = (if (false ^^ decide (v5 = 0)) = true then 1 else 0) ∧ st ≤ 1 := by
    by_cases h : v5 = 0
    · exact ⟨1, by simp [h], by decide⟩
    · exact ⟨0, by simp [h], by decide⟩
  rw [← hst]
  have ln := hg.ln
  have hLs : (L ++ List.replicate st 0).length ≤ 2001 := by rw [List.length_append, List.length_replicate]; omega
  have r1 : ∀ (x : D), (List.replicate (st : Int).toNat [x]).flatten = List.replicate st x := fun x => by
    show (List.replicate st [x]).flatten = _
    clear hst hs1 hLs
    induction st with
    | zero => rfl
    | succ m ih => rw [List.replicate_succ, List.flatten_cons, ih, List.replicate_succ]; rfl
  have r2 : (List.replicate st (D.tup [D.str "stop"])) = (repR st .stop).ds := by
    clear hst hs1 hLs r1
    induction st with
    | zero => rfl
    | succ m ih => rw [List.replicate_succ, ih]; rfl
  walk_at "go"
  refine mul_li (by omega) (by omega) (len_le (by show 1 * st ≤ 16777216; omega)) (newL_f ?_)
  rw [r1, r2]
  have rl := repR_len .stop st
  walk_at "go"
  refine add_ll (len_le (by omega)) (newL_f ?_)
  rw [← Rs.cat_ds]
  walk_at "go"
  refine mul_li (by omega) (by omega) (len_le (by show 1 * st ≤ 16777216; omega)) (newL_f ?_)
  rw [r1]
  walk_at "go"
  refine add_ll (len_le (by rw [List.length_map, List.length_replicate]; omega)) (newL_f ?_)
  rw [show List.map D.int L ++ List.replicate st (D.int 0) = (L ++ List.replicate st 0).map D.int by rw [List.map_append, List.map_replicate]]
  obtain ⟨X, hrun, x1, x2, x3, x4⟩ := stop_run hg hs1
  have pok : PrgOk U4 (rs.cat (repR st .stop)) [] := ⟨by simp, ⟨Rs.cat_ok _ _ hg.ok (repR_ok (r := .stop) trivial st), by rw [Rs.cat_deep, repR_deep rfl]; have := hg.dp; omega⟩, fun p h => by cases h⟩
  generalize rs.cat (repR st .stop) = RS at hrun pok
  generalize L ++ List.replicate st 0 = LL at hLs x1 x3 x4
  walk_at "go"
  have rt : (List.replicate (Int.toNat 40) [D.tup [D.int 0, D.int 0]]).flatten = T40.map prD := rep_pr (0, 0) 40
  refine mul_li (by decide) (by decide) (len_le (by decide)) (newL_f ?_)
  rw [rt]
  walk_at "go"
  rw [show cutG (List.map D.int LL) none (some 300) = (LL.take 300).map D.int from by rw [show cutG (List.map D.int LL) none (some 300) = (LL.map D.int).take 300 from cut_to _ 300, List.map_take]]
  have tl : (LL.take 300).length ≤ 300 := List.length_take_le _ _
  obtain ⟨DN, hDN⟩ : ∃ DN, DN = LL.take 300 := ⟨_, rfl⟩
  rw [← hDN] at x1 x3 tl ⊢
  walk_at "go"
  intro A hA
  refine comp_mapL (xs := DN) (g := D.int) (fun z => if z = -1 then some (.int z) else none) hA (by omega) ?_ ?_
  · intro z c2 K2 hz hc hK
    walk_at "go"
    refine ite_fd (fun h => ?_) (fun h => ?_)
    · rw [if_pos h] at hK
      walk_at "go"
      exact hK
    · rw [if_neg h] at hK
      exact hK
  rw [fm_if]
  walk_at "go"
  have eu : (((List.map D.int (DN.filter fun x => decide (x = -1))).length : Nat) : Int) = ups DN := by rw [List.length_map]; rfl
  rw [eu]
  obtain ⟨u0, u1⟩ := ups_le DN
  obtain ⟨b, hb, hb2⟩ : ∃ b : Nat, (b : Int) = (if ups DN < 1 then ups DN else 1) ∧ b = (if ups DN = 0 then 0 else 1) := by
    by_cases h : ups DN = 0
    · exact ⟨0, by rw [h]; rfl, by rw [if_pos h]⟩
    · exact ⟨1, by rw [if_neg (by omega)]; rfl, by rw [if_neg h]⟩
  first | rw [← hb] | skip
  have hb1 : b ≤ 1 := by rw [hb2]; split <;> decide
  have rb : ∀ (x : D), (List.replicate (b : Int).toNat [x]).flatten = List.replicate b x := fun x => by
    show (List.replicate b [x]).flatten = _
    rcases (show b = 0 ∨ b = 1 by omega) with h | h <;> rw [h] <;> rfl
  refine mul_li (by omega) (by omega) (len_le (by show 1 * b ≤ 16777216; omega)) (newL_f ?_)
  rw [rb]
  have eb : List.replicate b (D.tup [D.str "a", D.int (ups DN)]) = (List.replicate (if ups DN = 0 then 0 else 1) (("a" : Str), ups DN)).map bD := by
    rw [hb2, List.map_replicate]
    rfl
  rw [eb]
  walk_at "go"
  exact counted_10 hrun pok tl x1 x2 x3 x4 q
def sp_law_counted (K : PySem.W.Frag) : DSpec := fun ds c E Q => ∃ (p : Addr) (k : Cell), ds = [.ref p] ∧ c p = some k ∧ RlOk k ∧ ∀ k' c', RlOk k' → SubC (updc c p k') c' → Q (.bl true) c'
theorem ok_law_counted {K : PySem.W.Frag} {ds c E Q} (h : sp_law_counted K ds c E Q) : b_law_counted sp_law_draw sp_law_loop sp_law_filled (sp_plain_run K) (sp_law_alike 8) (endD E Q) (startE 13 ds) c := by
  obtain ⟨p, k, rfl, hp, hk, q⟩ := h
  unfold b_law_counted
  walk_at "go"
  refine ⟨p, 71, k, rfl, hp, hk, by decide, by decide, fun v0 k1 a0 a1 hk1 => ?_⟩
  walk_at "go"
  refine ⟨p, 6, k1, rfl, by walk_at "cl", hk1, by decide, by decide, fun v1 k2 b0 b1 hk2 => ?_⟩
  rw [updc_updc]
  walk_at "go"
  refine ⟨p, 2, k2, rfl, by walk_at "cl", hk2, by decide, by decide, fun v2 k3 c0 c1 hk3 => ?_⟩
  rw [updc_updc]
  obtain ⟨many, em, mb⟩ : ∃ many : Nat, atI [.int v0, .int (48 + v1)] v2 = some (D.int (many : Nat)) ∧ many ≤ 100 := by
    rcases (show v2 = 0 ∨ v2 = 1 by omega) with rfl | rfl
    · exact ⟨v0.toNat, by rw [show ((v0.toNat : Nat) : Int) = v0 by omega]; rfl, by omega⟩
    · exact ⟨(48 + v1).toNat, by rw [show (((48 + v1).toNat : Nat) : Int) = 48 + v1 by omega]; rfl, by omega⟩
  refine ix_l em ?_
  walk_at "go"
  refine ⟨p, 5, k3, rfl, by walk_at "cl", hk3, by decide, by decide, fun v3 k4 d0 d1 hk4 => ?_⟩
  rw [updc_updc]
  obtain ⟨says, rfl⟩ : ∃ says : Nat, v3 = (says : Int) := ⟨v3.toNat, by omega⟩
  walk_at "go"
  refine ⟨many, says, rfl, mb, by omega, ?_⟩
  walk_at "go"
  refine ⟨p, 10, k4, rfl, by walk_at "cl", hk4, by decide, by decide, fun v4 k5 e0 e1 hk5 => ?_⟩
  rw [updc_updc]
  have lg := loop_good mb (show says ≤ 9 by omega)
  have ll : (loopL many says).length ≤ 2000 := by
    simp only [loopL, List.length_cons, List.length_append, List.length_nil]
    rw [flat_len]
    have : (turnL says).length ≤ 11 := by simp only [turnL, List.length_cons, sayL_len]; omega
    have := Nat.mul_le_mul mb this
    omega
  generalize loopR many says = rs0 at lg
  generalize loopL many says = L0 at lg ll
  walk_at "go"
  refine ⟨rs0, L0, (295 + v4).toNat, by rw [show (((295 + v4).toNat : Nat) : Int) = 295 + v4 by omega], lg, ll, by omega, fun rs L hg hL => ?_⟩
  walk_at "go"
  refine ⟨p, 3, k5, rfl, by walk_at "cl", hk5, by decide, by decide, fun v5 k6 f0 f1 hk6 => ?_⟩
  rw [updc_updc]
  walk_at "go"
  exact counted_4 hg hL fun c' hs => q k6 c' hk6 hs
def sp_law_within (K : PySem.W.Frag) : DSpec := fun ds c E Q => ∃ (p : Addr) (k : Cell), ds = [.ref p] ∧ c p = some k ∧ RlOk k ∧ ∀ k' c', RlOk k' → SubC (updc c p k') c' → Q (.bl true) c'
theorem begun_sw : begun [] [] = sw 0 [] 0 0 0 := by
  unfold begun sw
  congr 1
  funext x
  show (0 : Int) = setF (fun _ => (0 : Int)) "a" 0 x
  unfold setF
  split <;> rfl
theorem beg0 : Beg U4 0 [] [] := ⟨by simp, fun b h => (by cases h), by simp, fun t h => (by cases h), by decide, U4_sok, by decide⟩
theorem up_ok {ps : List Str} : upR.ok U4 ps := ⟨by simp [U4], .inl rfl, U4_sok "a" (by simp [U4]), (show (0 : Int) ≤ 1 ∧ (1 : Int) < 1000 by decide)⟩
theorem body_ok {ps : List Str} {many : Int} {y : Str} (h0 : 0 ≤ many) (h1 : many < 1000) (hy : y ∈ ps) : (bodyW many y).ok U4 ps ∧ (bodyW many y).deep ≤ 4 :=
  ⟨⟨up_ok, ⟨.inl rfl, U4_sok "a" (by simp [U4]), ⟨h0, h1⟩, ⟨hy, trivial⟩, trivial⟩, (show (0 : Int) ≤ 5 ∧ (5 : Int) < 1000 by decide), trivial⟩, by simp [bodyW, ifW, Rs.deep, Rw.deep]⟩
/-- the parts: one, or two in turn -/
inductive PsK : List Str → Pts → Int → Prop
  | one (many : Int) : PsK ["p", "p"] [("p", bodyW many "p")] many
  | two (many : Int) : PsK ["p", "q"] [("p", bodyW many "q"), ("q", bodyW many "p")] many
theorem PsK.facts {ns : List Str} {ps : Pts} {many : Int} (h : PsK ns ps many) : unlike ns = ps.length ∧ ns.length = 2 ∧ ps.length ≤ 2 ∧ (ps.map (·.1)).Nodup ∧ (("p" : Str) ∈ ps.map (·.1)) ∧ (∀ x ∈ ps, ∃ y, y ∈ ps.map (·.1) ∧ x.2 = bodyW many y) ∧
    (∀ i, i < ps.length → ∃ x y, atI (ns.map D.str) (i : Int) = some (.str x) ∧ atI (ns.map D.str) (1 - (i : Int)) = some (.str y) ∧ ps[i]? = some (x, bodyW many y)) ∧ ∃ Z : Str → Prop, Z "p" ∧ ∀ z, Z z → ∃ y, Z y ∧ bodF ps z = bodyW many y := by
  cases h with
  | one =>
    refine ⟨(show unlike (["p", "p"] : List Str) = 1 by decide +kernel), rfl, by simp, by simp, by simp, fun x hx => ?_, fun i hi => ?_, fun z => z = "p", rfl, fun z hz => ⟨"p", rfl, ?_⟩⟩
    · simp only [List.mem_singleton] at hx
      subst hx
      exact ⟨"p", by simp, rfl⟩
    · obtain rfl : i = 0 := by simpa using hi
      exact ⟨"p", "p", rfl, rfl, rfl⟩
    · subst hz
      rfl
  | two =>
    have pq : ("p" : Str) ≠ "q" := by decide +kernel
    refine ⟨(show unlike (["p", "q"] : List Str) = 2 by decide +kernel), rfl, by simp, by simp [pq], by simp, fun x hx => ?_, fun i hi => ?_, fun z => z = "p" ∨ z = "q", .inl rfl, fun z hz => ?_⟩
    · simp only [List.mem_cons, List.not_mem_nil, or_false] at hx
      rcases hx with rfl | rfl
      · exact ⟨"q", by simp, rfl⟩
      · exact ⟨"p", by simp, rfl⟩
    · rcases (show i = 0 ∨ i = 1 by simp at hi; omega) with rfl | rfl
      · exact ⟨"p", "q", rfl, rfl, rfl⟩
      · exact ⟨"q", "p", rfl, rfl, rfl⟩
    · rcases hz with rfl | rfl
      · exact ⟨"q", .inr rfl, rfl⟩
      · exact ⟨"p", .inl rfl, rfl⟩
theorem PsK.run {ns : List Str} {ps : Pts} {many : Nat} (h : PsK ns ps many) (h0 : 0 < many) : ∃ X : GoSt, Runs (bodF ps) (.cons (.do_ "p") .nil) (begun [] []) X ∧ X.tab = (fun _ => []) ∧
    (many ≤ 20 → X.box = setF (fun _ => 0) "a" (many : Int) ∧ X.said = List.replicate many 5 ∧ X.ended = 0) ∧ (20 < many → X.box = setF (fun _ => 0) "a" 20 ∧ X.said = [] ∧ X.ended = 2) := by
  obtain ⟨_, _, _, _, _, _, _, Z, hz, hB⟩ := h.facts
  rw [begun_sw]
  by_cases hm : many ≤ 20
  · have r := deep_few (B := bodF ps) (many := (many : Int)) hB (by omega) many "p" 0 0 [] hz (by decide) (by omega) h0 (by omega)
    exact ⟨_, r.runs, rfl, fun _ => ⟨rfl, by rfl, rfl⟩, fun z => by omega⟩
  · obtain ⟨c', r⟩ := deep_many (B := bodF ps) (many := (many : Int)) hB (by omega) 20 "p" 0 0 [] hz (by decide) (by decide) (by decide)
    exact ⟨_, r.runs, rfl, fun z => absurd z hm, fun _ => ⟨rfl, rfl, rfl⟩⟩
theorem PsK.prg {ns : List Str} {ps : Pts} {many : Nat} (h : PsK ns ps many) (h1 : many < 1000) : PrgOk U4 (.cons (.do_ "p") .nil) ps := by
  obtain ⟨_, _, _, nd, hp, hb, _⟩ := h.facts
  refine ⟨nd, ⟨⟨hp, trivial⟩, by simp [Rs.deep, Rw.deep]⟩, fun x hx => ?_⟩
  obtain ⟨y, hy, e⟩ := hb x hx
  rw [e]
  exact body_ok (by omega) (by omega) hy
theorem rep_any (x : D) : ∀ n : Nat, (List.replicate n [x]).flatten = List.replicate n x
  | 0 => rfl
  | n + 1 => by rw [List.replicate_succ, List.flatten_cons, rep_any x n, List.replicate_succ]; rfl
theorem within_8 {K : PySem.W.Frag} {c0 c1 : CMap} {E : XD} {Q : DK} {p A B S : Addr} {us : Tbs} {cs bs2 : Bxs} {us2 : Tabs} {said2 : List Int} {e2 M : Int} {X : GoSt} {many : Nat} {v2 v4 v5 v6 : Option D} (hm : 0 < many ∧ many < 26) (an : Answer c0 c1 A B S us cs X) (hi : InU U4 X) (ho : GoOk M X) (T1 : Told bs2 X.box 0) (T2 : Told us2 X.tab []) (e1 : X.said = said2) (e3 : X.ended = e2) (q : ∀ c', SubC c1 c' → Q (.bl true) c') :
    b_law_within_8 sp_law_draw (sp_plain_run K) (sp_law_alike 8) (endD E Q) [some (.ref p), some (.int (many : Nat)), v2, some upR.d, v4, v5, v6, some (.tup [.ref A, .ref B, .ref S, .int X.ended]), some (.tup [.lst (bs2.map bD), .lst (us2.map tbD), .lst (said2.map D.int), .int e2]), none] c1 := by
  unfold b_law_within_8
  have rp : (List.replicate (many : Int).toNat [D.tup [D.str "do", D.str "p"]]).flatten = (repR many (.do_ "p")).ds := rep_ds (.do_ "p") many
  walk_at "go"
  refine mul_li (by omega) (by omega) (len_le (by show 1 * many ≤ 16777216; omega)) (newL_f ?_)
  rw [rp]
  walk_at "go"
  have pok : PrgOk U4 (repR many (.do_ "p")) [(("p" : Str), .cons upR .nil)] := ⟨by simp, ⟨repR_ok (r := .do_ "p") (show ("p" : Str) ∈ [("p" : Str)] by simp) many, by rw [repR_deep rfl]; decide⟩, fun x hx => by
    simp only [List.mem_singleton] at hx
    subst hx
    exact ⟨⟨up_ok, trivial⟩, by simp [Rs.deep, Rw.deep]⟩⟩
  refine ⟨repR many (.do_ "p"), [(("p" : Str), .cons upR .nil)], [], [], U4, 0, _, _, rfl, rfl, TabsD.lit (ts := []) (by simp), beg0, pok, fun c2 A2 B2 S2 us3 cs2 s2 an2 hR2 _ hok2 hin2 => ?_⟩
  have hrun := (behind_w (B := bodF [(("p" : Str), .cons upR .nil)]) (p := "p") rfl many 0 0 [] (by decide) (by omega) (by omega)).runs
  rw [← begun_sw] at hrun
  obtain rfl := hrun.uniq hR2
  walk_at "go"
  have am : Answer c0 c2 A B S us cs X := an.mono an2.sub
  refine due24 U4_sok am hi ho T1 T2 e1 e3 ?_
  walk_at "go"
  refine due24 (bs2 := [(("a" : Str), (many : Int))]) (us2 := []) (said2 := []) (e2 := 0) U4_sok an2 ⟨hin2.1, hin2.2⟩ hok2 ?_ told_0 rfl rfl ?_
  · have := told_a (v := (many : Int))
    rw [if_neg (show ¬ (many : Int) = 0 by omega)] at this
    show Told _ (setF (fun _ => 0) "a" (0 + (many : Int))) 0
    rw [Int.zero_add]
    exact this
  · exact ⟨_, SubC.rfl', q _ an2.sub⟩
theorem ok_law_within {K : PySem.W.Frag} {ds c E Q} (h : sp_law_within K ds c E Q) : b_law_within sp_law_draw (sp_plain_run K) (sp_law_alike 8) (endD E Q) (startE 10 ds) c := by
  obtain ⟨p, k, rfl, hp, hk, q⟩ := h
  unfold b_law_within
  walk_at "go"
  refine ⟨p, 11, k, rfl, hp, hk, by decide, by decide, fun v0 k1 a0 a1 hk1 => ?_⟩
  walk_at "go"
  refine ⟨p, 2, k1, rfl, by walk_at "cl", hk1, by decide, by decide, fun v1 k2 b0 b1 hk2 => ?_⟩
  rw [updc_updc]
  obtain ⟨many, hmany⟩ : ∃ m : Nat, (m : Int) = 15 + v0 := ⟨(15 + v0).toNat, by omega⟩
  rw [← hmany]
  obtain ⟨ns, ps, hps, ens⟩ : ∃ (ns : List Str) (ps : Pts), PsK ns ps many ∧ atI [.lst [.str "p", .str "p"], .lst [.str "p", .str "q"]] v1 = some (D.lst (ns.map D.str)) := by
    rcases (show v1 = 0 ∨ v1 = 1 by omega) with rfl | rfl
    · exact ⟨_, _, .one _, rfl⟩
    · exact ⟨_, _, .two _, rfl⟩
  obtain ⟨f1, f2, f3, f4, f5, f6, f7, _⟩ := hps.facts
  refine ix_l ens ?_
  walk_at "go"
  refine newL_t fun u hu => ?_
  have pu : p ≠ u := ne_some_none (c := updc c p k2) updc_same hu
  walk_at "go"
  refine wLenSet_i ?_
  walk_at "go"
  refine ⟨ns, rfl, by omega, ?_⟩
  rw [f1]
  walk_at "go"
  refine for_inv (fun i env c' => i ≤ ps.length ∧ ∃ (v5 v6 : Option D), env = [some (.ref p), some (.int (many : Nat)), some (.lst (ns.map D.str)), some upR.d, some (.ref u), v5, v6, none, none, none] ∧ c' = updc (updc c p k2) u (.lst ((ps.take i).map ptD))) ⟨Nat.zero_le _, none, none, rfl, rfl⟩ ?_ ?_
  · rintro i d env c' e ⟨hi, v5, v6, rfl, rfl⟩
    obtain ⟨y, hy, rfl⟩ := mem_map_at e
    obtain ⟨hi2, rfl⟩ := upto_at hy
    have hi3 : i < ps.length := hi2
    obtain ⟨x, y, g1, g2, g3⟩ := f7 i hi3
    walk_at "go"
    rw [Int.zero_add]
    refine ix_l g2 ?_
    walk_at "go"
    refine ⟨ty_c updc_same, ?_⟩
    walk_at "go"
    refine app_c updc_same (len_lt (by rw [List.length_map, List.length_take]; omega)) ?_
    rw [updc_updc]
    refine ⟨by omega, _, _, rfl, ?_⟩
    rw [List.take_add_one, g3, List.map_append]
    rfl
  · rintro env c' ⟨hi, v5, v6, rfl, rfl⟩
    have el : (List.map D.int (upto 0 ((ps.length : Nat) : Int).toNat)).length = ps.length := by rw [List.length_map, upto_len]; rfl
    rw [el, List.take_length]
    walk_at "go"
    have sub0 : SubC (updc c p k2) (updc (updc c p k2) u (.lst (ps.map ptD))) := SubC.new hu
    have hdel : delc (updc (updc c p k2) u (.lst (ps.map ptD))) u = updc c p k2 := delc_updc hu
    rw [hdel]
    have hm0 : 0 < many ∧ many < 26 := by omega
    refine ⟨.cons (.do_ "p") .nil, ps, [], [], U4, 0, _, _, rfl, rfl, TabsD.lit (ts := []) (by simp), beg0, hps.prg (by omega), fun c1 A B S us cs s an hR _ hok hin => ?_⟩
    obtain ⟨X, hrun, x1, x2, x3⟩ := hps.run hm0.1
    obtain rfl := hrun.uniq hR
    have hI : InU U4 X := ⟨hin.1, hin.2⟩
    walk_at "go"
    have rm : (List.replicate (many : Int).toNat [D.int 5]).flatten = (List.replicate many (5 : Int)).map D.int := by
      show (List.replicate many [D.int 5]).flatten = _
      rw [List.map_replicate]
      generalize many = m
      induction m with
      | zero => rfl
      | succ m ih => rw [List.replicate_succ, List.flatten_cons, ih, List.replicate_succ]; rfl
    refine mul_li (by omega) (by omega) (len_le (by show 1 * many ≤ 16777216; omega)) (newL_f ?_)
    rw [rm]
    walk_at "go"
    have qq : ∀ c', SubC c1 c' → Q (.bl true) c' := fun c' hs => q k2 c' hk2 (an.sub.trans' hs)
    refine ite_d (fun hm => ?_) (fun hm => ?_)
    · obtain ⟨y1, y2, y3⟩ := x3 (by omega)
      walk_at "go"
      exact within_8 (bs2 := [(("a" : Str), 20)]) (us2 := []) (said2 := []) hm0 an hI hok (by rw [y1]; exact told_a (v := 20)) (by rw [x1]; exact told_0) y2 y3 qq
    · obtain ⟨y1, y2, y3⟩ := x2 (by omega)
      refine wSkip_i ?_
      refine within_8 (bs2 := [(("a" : Str), (many : Int))]) (us2 := []) (said2 := List.replicate many 5) hm0 an hI hok ?_ (by rw [x1]; exact told_0) y2 y3 qq
      rw [y1]
      have := told_a (v := (many : Int))
      rwa [if_neg (show ¬ (many : Int) = 0 by omega)] at this
theorem ok_law {K : PySem.W.Frag} {ds c E Q} (h : sp_law ds c E Q) : b_law sp_law_reel (sp_law_counted K) (sp_law_within K) (endD E Q) (startE 3 ds) c := by
  obtain ⟨ns, rfl, hl, q⟩ := h
  unfold b_law
  walk_at "go"
  refine ⟨ns, rfl, hl, fun p k hp hk => ?_⟩
  walk_at "go"
  refine for_invW (fun i env c' => ∃ (k' : Cell) (v2 : Option D), env = [some (.scr ns), some (.ref p), v2] ∧ c' = updc c p k' ∧ RlOk k') ⟨k, none, rfl, rfl, hk⟩ ?_ ?_
  · rintro i d env c' e ⟨k', v2, rfl, rfl, hk'⟩
    obtain ⟨y, hy, rfl⟩ := mem_map_at e
    walk_at "go"
    refine ⟨p, k', rfl, updc_same, hk', fun k1 c1 hk1 s1 => ?_⟩
    walk_at "go"
    refine ⟨p, k1, rfl, s1 _ _ updc_same, hk1, fun k2 c2 hk2 s2 => ?_⟩
    walk_at "go"
    rw [updc_updc] at s1
    exact ⟨updc c p k2, (SubC.upd ((SubC.new hp).trans' s1)).trans' s2, k2, _, rfl, rfl, hk2⟩
  · rintro env c' ⟨k', v2, rfl, rfl, hk'⟩
    walk_at "go"
    exact ⟨_, SubC.rfl', q _⟩
section
variable {GI : Hp → Hp → Prop} {P : Program} {w : World} {K : PySem.W.Frag} {mg : Str → Option Value} {base : Heap}
theorem sc_law_reel : FnScope ["script", "stir", "cell", "great"] ["script"] (defScope t_law_reel) := ⟨rfl, rfl, rfl, by decide +kernel, rfl, by decide +kernel, by decide +kernel⟩
theorem d_law_reel {k : Nat}  {cdv : Value} {A : Around} {outer : List Env} {s : Shared} {H : Hp} {E : XK} {f : Addr} (hr : Room k (A.deeper (envOfC "_law_reel" (defScope t_law_reel) s.heap.objs.size f cdv))) :
    CSs GI (cxOf (L2.CX P w) P w K mg base ["script", "stir", "cell", "great"] "_law_reel" (defScope t_law_reel) f cdv A outer s H E) (defBody t_law_reel) (b_law_reel) := by
  have r0 := hr.mono (Nat.zero_le k)
  have nd := sc_law_reel.nd
  exact (css_cons (cs_asg 1 (ce_pow ce_int ce_int))
  (css_cons (cs_for [2] rfl (ci_any (ce_slice false (ce_var 0) co_none (co_some ce_int))) (cg_name 2) (css_one (cs_asg 1 (ce_mod (ce_add false (ce_add false (ce_mul false (ce_var 1) (ce_var 1)) (ce_mod (ce_var 2) ce_int)) ce_int) (ce_sub (ce_mul false (ce_pow ce_int ce_int) (ce_pow ce_int ce_int)) ce_int)))))
  (css_cons (cs_setcomp false 3 [("cell", 2)] nd rfl (ci_any (ce_slice false (ce_var 0) co_none (co_some ce_int))) (blkOk_by (N := ["script", "stir", "cell", "great"]) (sc := defScope t_law_reel) (own := [("cell", 2)]) (by decide +kernel)) (fun _ _ _ _ _ => (cg_name 2)) (fun _ _ _ _ _ => (cts_one (ct_ge (ce_var 2) (ce_pow ce_int ce_int)))) (fun _ _ _ _ _ => (ce_sub (ce_var 2) (ce_pow ce_int ce_int))))
  (css_one (cs_ret (ce_lst true (ca_cons (ce_var 3) (ca_cons (ce_add false (ce_comp false [("cell", 2)] nd rfl (ci_any (ce_slice false (ce_var 0) co_none (co_some ce_int))) (blkOk_by (N := ["script", "stir", "cell", "great"]) (sc := defScope t_law_reel) (own := [("cell", 2)]) (by decide +kernel)) (fun _ _ _ _ _ => (cg_name 2)) (fun _ _ _ _ _ => cts_nil) (fun _ _ _ _ _ => (ce_mod (ce_var 2) ce_int))) (ce_lst false (ca_cons ce_int ca_nil))) (ca_cons ce_int (ca_cons (ce_var 1) ca_nil))))))))))

theorem sc_law_draw : FnScope ["reel", "many", "rest", "told", "stir"] ["reel", "many"] (defScope t_law_draw) := ⟨rfl, rfl, rfl, by decide +kernel, rfl, by decide +kernel, by decide +kernel⟩
theorem d_law_draw {k : Nat} (m_int : mg "int" = none) (m_len : mg "len" = none) {cdv : Value} {A : Around} {outer : List Env} {s : Shared} {H : Hp} {E : XK} {f : Addr} (hr : Room k (A.deeper (envOfC "_law_draw" (defScope t_law_draw) s.heap.objs.size f cdv))) :
    CSs GI (cxOf (L2.CX P w) P w K mg base ["reel", "many", "rest", "told", "stir"] "_law_draw" (defScope t_law_draw) f cdv A outer s H E) (defBody t_law_draw) (b_law_draw) := by
  have r0 := hr.mono (Nat.zero_le k)
  have nd := sc_law_draw.nd
  exact (css_cons (cs_if (ct_ne r0 (ce_idx r0 (ce_var 0) ce_int) (ce_lst false ca_nil)) (css_cons (cs_asg 2 (ce_idx r0 (ce_idx r0 (ce_var 0) ce_int) ce_int))
  (css_cons (cs_set r0 (ce_var 0) ce_int (ce_add false (ce_mul false (ce_lst false (ca_cons (ce_fdiv (ce_var 2) (ce_var 1)) ca_nil)) (ce_intc m_int (ca_cons (ce_ge (ce_var 2) (ce_var 1)) ca_nil))) (ce_slice false (ce_idx r0 (ce_var 0) ce_int) (co_some ce_int) co_none)))
  (css_one (cs_ret (ce_mod (ce_var 2) (ce_var 1)))))) css_nil)
  (css_cons (cs_set r0 (ce_var 0) ce_int (ce_add false (ce_idx r0 (ce_var 0) ce_int) ce_int))
  (css_cons (cs_asg 3 (ce_idx r0 (ce_idx r0 (ce_var 0) ce_int) (ce_mod (ce_idx r0 (ce_var 0) ce_int) (ce_len m_len (ca_cons (ce_idx r0 (ce_var 0) ce_int) ca_nil)))))
  (css_cons (cs_asg 4 (ce_add false (ce_add false (ce_mul false (ce_idx r0 (ce_var 0) ce_int) (ce_idx r0 (ce_var 0) ce_int)) (ce_mul false (ce_add false (ce_var 3) ce_int) ce_int)) (ce_mul false (ce_idx r0 (ce_var 0) ce_int) ce_int)))
  (css_cons (cs_set r0 (ce_var 0) ce_int (ce_mod (ce_var 4) (ce_sub (ce_mul false (ce_pow ce_int ce_int) (ce_pow ce_int ce_int)) ce_int)))
  (css_one (cs_ret (ce_mod (ce_fdiv (ce_idx r0 (ce_var 0) ce_int) (ce_pow ce_int ce_int)) (ce_var 1)))))))))

theorem sc_law_loop : FnScope ["many", "says", "up", "said", "k", "rows", "told", "turn"] ["many", "says"] (defScope t_law_loop) := ⟨rfl, rfl, rfl, by decide +kernel, rfl, by decide +kernel, by decide +kernel⟩
theorem d_law_loop {k : Nat} (m_range : mg "range" = none) {cdv : Value} {A : Around} {outer : List Env} {s : Shared} {H : Hp} {E : XK} {f : Addr} (hr : Room k (A.deeper (envOfC "_law_loop" (defScope t_law_loop) s.heap.objs.size f cdv))) :
    CSs GI (cxOf (L2.CX P w) P w K mg base ["many", "says", "up", "said", "k", "rows", "told", "turn"] "_law_loop" (defScope t_law_loop) f cdv A outer s H E) (defBody t_law_loop) (b_law_loop) := by
  have r0 := hr.mono (Nat.zero_le k)
  have nd := sc_law_loop.nd
  exact (css_cons (cs_asg 2 (ce_tup (ca_cons ce_str (ca_cons ce_str (ca_cons (ce_tup (ca_cons ce_str (ca_cons (ce_tup (ca_cons ce_str (ca_cons ce_str ca_nil))) (ca_cons (ce_tup (ca_cons ce_str (ca_cons ce_int ca_nil))) ca_nil)))) ca_nil)))))
  (css_cons (cs_setcomp false 3 [("k", 4)] nd rfl (ci_range1 m_range (ca_cons (ce_var 1) ca_nil)) (blkOk_by (N := ["many", "says", "up", "said", "k", "rows", "told", "turn"]) (sc := defScope t_law_loop) (own := [("k", 4)]) (by decide +kernel)) (fun _ _ _ _ _ => (cg_name 4)) (fun _ _ _ _ _ => cts_nil) (fun _ _ _ _ _ => (ce_tup (ca_cons ce_str (ca_cons (ce_tup (ca_cons ce_str (ca_cons (ce_add false ce_int (ce_var 4)) ca_nil))) ca_nil)))))
  (css_cons (cs_asg 5 (ce_lst false (ca_cons (ce_tup (ca_cons ce_str (ca_cons ce_str (ca_cons (ce_tup (ca_cons ce_str (ca_cons ce_int ca_nil))) ca_nil)))) (ca_cons (ce_tup (ca_cons ce_str (ca_cons ce_str (ca_cons (ce_tup (ca_cons ce_str (ca_cons ce_str ca_nil))) (ca_cons (ce_tup (ca_cons ce_str (ca_cons (ce_var 0) ca_nil))) (ca_cons (ce_add false (ce_lst false (ca_cons (ce_var 2) ca_nil)) (ce_var 3)) ca_nil)))))) ca_nil))))
  (css_cons (cs_asg 6 (ce_lst false (ca_cons ce_int ca_nil)))
  (css_cons (cs_for [7] rfl (ci_range1 m_range (ca_cons (ce_var 0) ca_nil)) (cg_name 7) (css_one (cs_asg 6 (ce_add false (ce_add false (ce_var 6) (ce_lst false (ca_cons ce_int (ca_cons (ce_neg ce_int) ca_nil)))) (ce_comp false [("k", 4)] nd rfl (ci_range1 m_range (ca_cons (ce_var 1) ca_nil)) (blkOk_by (N := ["many", "says", "up", "said", "k", "rows", "told", "turn"]) (sc := defScope t_law_loop) (own := [("k", 4)]) (by decide +kernel)) (fun _ _ _ _ _ => (cg_name 4)) (fun _ _ _ _ _ => cts_nil) (fun _ _ _ _ _ => (ce_add false ce_int (ce_var 4))))))))
  (css_one (cs_ret (ce_tup (ca_cons (ce_var 5) (ca_cons (ce_add false (ce_var 6) (ce_lst false (ca_cons ce_int ca_nil))) ca_nil))))))))))

theorem sc_law_filled : FnScope ["rows", "told", "total", "left", "says", "some", "k"] ["rows", "told", "total"] (defScope t_law_filled) := ⟨rfl, rfl, rfl, by decide +kernel, rfl, by decide +kernel, by decide +kernel⟩
theorem d_law_filled {k : Nat} (m_list : mg "list" = none) (m_len : mg "len" = none) (m_min : mg "min" = none) (m_range : mg "range" = none) (m_max : mg "max" = none) {cdv : Value} {A : Around} {outer : List Env} {s : Shared} {H : Hp} {E : XK} {f : Addr} (hr : Room k (A.deeper (envOfC "_law_filled" (defScope t_law_filled) s.heap.objs.size f cdv))) :
    CSs GI (cxOf (L2.CX P w) P w K mg base ["rows", "told", "total", "left", "says", "some", "k"] "_law_filled" (defScope t_law_filled) f cdv A outer s H E) (defBody t_law_filled) (b_law_filled) := by
  have r0 := hr.mono (Nat.zero_le k)
  have nd := sc_law_filled.nd
  exact (css_cons (cs_asg 0 (ce_listc true rfl m_list (ca_cons (ce_var 0) ca_nil)))
  (css_cons (cs_asg 1 (ce_listc false rfl m_list (ca_cons (ce_var 1) ca_nil)))
  (css_cons (cs_asg 3 (ce_sub (ce_var 2) (ce_len m_len (ca_cons (ce_var 1) ca_nil))))
  (css_cons (cs_while (ct_gt (ce_var 3) ce_int) (css_cons (cs_asg 4 (ce_min2 rfl m_min (ca_cons ce_int (ca_cons (ce_fdiv (ce_sub (ce_var 3) ce_int) ce_int) ca_nil))))
  (css_cons (cs_setcomp false 5 [("k", 6)] nd rfl (ci_range1 m_range (ca_cons (ce_var 4) ca_nil)) (blkOk_by (N := ["rows", "told", "total", "left", "says", "some", "k"]) (sc := defScope t_law_filled) (own := [("k", 6)]) (by decide +kernel)) (fun _ _ _ _ _ => (cg_name 6)) (fun _ _ _ _ _ => cts_nil) (fun _ _ _ _ _ => (ce_tup (ca_cons ce_str (ca_cons (ce_tup (ca_cons ce_str (ca_cons (ce_add false ce_int (ce_var 6)) ca_nil))) ca_nil)))))
  (css_cons (cs_expr (ce_append (ce_var 0) (ca_cons (ce_tup (ca_cons ce_str (ca_cons ce_str (ca_cons ce_str (ca_cons ce_str (ca_cons (ce_var 5) ca_nil)))))) ca_nil)))
  (css_cons (cs_asg 1 (ce_add false (ce_add false (ce_var 1) (ce_lst false (ca_cons ce_int ca_nil))) (ce_mul false (ce_comp false [("k", 6)] nd rfl (ci_range1 m_range (ca_cons (ce_var 4) ca_nil)) (blkOk_by (N := ["rows", "told", "total", "left", "says", "some", "k"]) (sc := defScope t_law_filled) (own := [("k", 6)]) (by decide +kernel)) (fun _ _ _ _ _ => (cg_name 6)) (fun _ _ _ _ _ => cts_nil) (fun _ _ _ _ _ => (ce_add false ce_int (ce_var 6)))) ce_int)))
  (css_one (cs_asg 3 (ce_sub (ce_var 2) (ce_len m_len (ca_cons (ce_var 1) ca_nil))))))))))
  (css_cons (cs_asg 0 (ce_add true (ce_var 0) (ce_mul false (ce_lst false (ca_cons (ce_tup (ca_cons ce_str (ca_cons (ce_tup (ca_cons ce_str (ca_cons ce_int ca_nil))) ca_nil))) ca_nil)) (ce_max2 rfl m_max (ca_cons ce_int (ca_cons (ce_var 3) ca_nil))))))
  (css_one (cs_ret (ce_tup (ca_cons (ce_frz (ce_var 0)) (ca_cons (ce_add false (ce_var 1) (ce_mul false (ce_lst false (ca_cons ce_int ca_nil)) (ce_max2 rfl m_max (ca_cons ce_int (ca_cons (ce_var 3) ca_nil))))) ca_nil))))))))))

theorem sc_come_to : FnScope ["going"] ["going"] (defScope t_come_to) := ⟨rfl, rfl, rfl, by decide +kernel, rfl, by decide +kernel, by decide +kernel⟩
theorem d_come_to {k : Nat} (g_MOST_COUNTED : GlD K mg "MOST_COUNTED" (.int 300)) (k_Going : ClsD K mg "Going" ["named", "listed", "spoken", "ended", "counted", "within", "bodies"]) {cdv : Value} {A : Around} {outer : List Env} {s : Shared} {H : Hp} {E : XK} {f : Addr} (hr : Room k (A.deeper (envOfC "come_to" (defScope t_come_to) s.heap.objs.size f cdv))) :
    CSs GI (cxOf (L2.CX P w) P w K mg base ["going"] "come_to" (defScope t_come_to) f cdv A outer s H E) (defBody t_come_to) (b_come_to K) := by
  have r0 := hr.mono (Nat.zero_le k)
  have nd := sc_come_to.nd
  exact (css_cons (cs_if (ct_eq r0 (ce_fld k_Going (ce_var 0)) (ce_glob g_MOST_COUNTED)) (css_cons (cs_fldset k_Going (ce_var 0) ce_int)
  (css_one (cs_ret ce_bl))) css_nil)
  (css_cons (cs_fldadd k_Going (ce_var 0) ce_int)
  (css_one (cs_ret ce_bl))))

theorem sc_added : FnScope ["one", "other"] ["one", "other"] (defScope t_added) := ⟨rfl, rfl, rfl, by decide +kernel, rfl, by decide +kernel, by decide +kernel⟩
theorem d_added {k : Nat}  {cdv : Value} {A : Around} {outer : List Env} {s : Shared} {H : Hp} {E : XK} {f : Addr} (hr : Room k (A.deeper (envOfC "added" (defScope t_added) s.heap.objs.size f cdv))) :
    CSs GI (cxOf (L2.CX P w) P w K mg base ["one", "other"] "added" (defScope t_added) f cdv A outer s H E) (defBody t_added) (b_added) := by
  have r0 := hr.mono (Nat.zero_le k)
  have nd := sc_added.nd
  exact (css_one (cs_ret (ce_add false (ce_var 0) (ce_var 1))))

theorem sc_lessened : FnScope ["one", "other"] ["one", "other"] (defScope t_lessened) := ⟨rfl, rfl, rfl, by decide +kernel, rfl, by decide +kernel, by decide +kernel⟩
theorem d_lessened {k : Nat}  {cdv : Value} {A : Around} {outer : List Env} {s : Shared} {H : Hp} {E : XK} {f : Addr} (hr : Room k (A.deeper (envOfC "lessened" (defScope t_lessened) s.heap.objs.size f cdv))) :
    CSs GI (cxOf (L2.CX P w) P w K mg base ["one", "other"] "lessened" (defScope t_lessened) f cdv A outer s H E) (defBody t_lessened) (b_lessened) := by
  have r0 := hr.mono (Nat.zero_le k)
  have nd := sc_lessened.nd
  exact (css_one (cs_ret (ce_sub (ce_var 0) (ce_var 1))))

theorem sc_multiplied : FnScope ["one", "other"] ["one", "other"] (defScope t_multiplied) := ⟨rfl, rfl, rfl, by decide +kernel, rfl, by decide +kernel, by decide +kernel⟩
theorem d_multiplied {k : Nat}  {cdv : Value} {A : Around} {outer : List Env} {s : Shared} {H : Hp} {E : XK} {f : Addr} (hr : Room k (A.deeper (envOfC "multiplied" (defScope t_multiplied) s.heap.objs.size f cdv))) :
    CSs GI (cxOf (L2.CX P w) P w K mg base ["one", "other"] "multiplied" (defScope t_multiplied) f cdv A outer s H E) (defBody t_multiplied) (b_multiplied) := by
  have r0 := hr.mono (Nat.zero_le k)
  have nd := sc_multiplied.nd
  exact (css_one (cs_ret (ce_mul false (ce_var 0) (ce_var 1))))

theorem sc_number_of : FnScope ["side", "named", "deed"] ["side", "named"] (defScope t_number_of) := ⟨rfl, rfl, rfl, by decide +kernel, rfl, by decide +kernel, by decide +kernel⟩
theorem d_number_of {s_number_of s_added s_lessened s_multiplied : DSpec} {k : Nat} (h_number_of : HasG GI P w K mg base k "number_of" 2 s_number_of) (tf_SUMS : TabF GI P w K mg base k [("added", s_added), ("lessened", s_lessened), ("multiplied", s_multiplied)]) (t_SUMS : TabD K w mg "SUMS" [("+", .glo "added"), ("-", .glo "lessened"), ("*", .glo "multiplied")]) (g_ROUND : GlD K mg "ROUND" (.int 1000)) {cdv : Value} {A : Around} {outer : List Env} {s : Shared} {H : Hp} {E : XK} {f : Addr} (hr : Room k (A.deeper (envOfC "number_of" (defScope t_number_of) s.heap.objs.size f cdv))) :
    CSs GI (cxOf (L2.CX P w) P w K mg base ["side", "named", "deed"] "number_of" (defScope t_number_of) f cdv A outer s H E) (defBody t_number_of) (b_number_of K s_number_of s_added s_lessened s_multiplied) := by
  have r0 := hr.mono (Nat.zero_le k)
  have nd := sc_number_of.nd
  exact (css_cons (cs_if (ct_eq r0 (ce_idx r0 (ce_var 0) ce_int) ce_str) (css_one (cs_ret (ce_idx r0 (ce_var 0) ce_int))) css_nil)
  (css_cons (cs_if (ct_eq r0 (ce_idx r0 (ce_var 0) ce_int) ce_str) (css_one (cs_ret (ce_get2 r0 (ce_var 1) (ce_idx r0 (ce_var 0) ce_int) ce_int))) css_nil)
  (css_cons (cs_asg 2 (ce_tab t_SUMS (ce_idx r0 (ce_var 0) ce_int)))
  (css_one (cs_ret (ce_mod (ce_callT 2 tf_SUMS hr (ca_cons (ce_call h_number_of hr (ca_cons (ce_idx r0 (ce_var 0) ce_int) (ca_cons (ce_var 1) ca_nil))) (ca_cons (ce_call h_number_of hr (ca_cons (ce_idx r0 (ce_var 0) ce_int) (ca_cons (ce_var 1) ca_nil))) ca_nil))) (ce_glob g_ROUND)))))))

theorem sc_is_so : FnScope ["row", "named", "one", "other"] ["row", "named"] (defScope t_is_so) := ⟨rfl, rfl, rfl, by decide +kernel, rfl, by decide +kernel, by decide +kernel⟩
theorem d_is_so {s_number_of : DSpec} {k : Nat} (h_number_of : HasG GI P w K mg base k "number_of" 2 s_number_of) {cdv : Value} {A : Around} {outer : List Env} {s : Shared} {H : Hp} {E : XK} {f : Addr} (hr : Room k (A.deeper (envOfC "is_so" (defScope t_is_so) s.heap.objs.size f cdv))) :
    CSs GI (cxOf (L2.CX P w) P w K mg base ["row", "named", "one", "other"] "is_so" (defScope t_is_so) f cdv A outer s H E) (defBody t_is_so) (b_is_so s_number_of) := by
  have r0 := hr.mono (Nat.zero_le k)
  have nd := sc_is_so.nd
  exact (css_cons (cs_asg 2 (ce_call h_number_of hr (ca_cons (ce_idx r0 (ce_var 0) ce_int) (ca_cons (ce_var 1) ca_nil))))
  (css_cons (cs_asg 3 (ce_call h_number_of hr (ca_cons (ce_idx r0 (ce_var 0) ce_int) (ca_cons (ce_var 1) ca_nil))))
  (css_cons (cs_if (ct_eq r0 (ce_idx r0 (ce_var 0) ce_int) ce_str) (css_one (cs_ret (ce_lt (ce_var 2) (ce_var 3)))) css_nil)
  (css_one (cs_ret (ce_eq r0 (ce_var 2) (ce_var 3)))))))

theorem sc_do_while : FnScope ["going", "row"] ["going", "row"] (defScope t_do_while) := ⟨rfl, rfl, rfl, by decide +kernel, rfl, by decide +kernel, by decide +kernel⟩
theorem d_do_while {s_come_to s_is_so s_do_rows : DSpec} {k : Nat} (h_come_to : HasG GI P w K mg base k "come_to" 1 s_come_to) (h_is_so : HasG GI P w K mg base k "is_so" 2 s_is_so) (h_do_rows : HasG GI P w K mg base k "do_rows" 2 s_do_rows) (k_Going : ClsD K mg "Going" ["named", "listed", "spoken", "ended", "counted", "within", "bodies"]) {cdv : Value} {A : Around} {outer : List Env} {s : Shared} {H : Hp} {E : XK} {f : Addr} (hr : Room k (A.deeper (envOfC "do_while" (defScope t_do_while) s.heap.objs.size f cdv))) :
    CSs GI (cxOf (L2.CX P w) P w K mg base ["going", "row"] "do_while" (defScope t_do_while) f cdv A outer s H E) (defBody t_do_while) (b_do_while K s_come_to s_is_so s_do_rows) := by
  have r0 := hr.mono (Nat.zero_le k)
  have nd := sc_do_while.nd
  exact (css_one (cs_while (cw_and (ct_eq r0 (ce_fld k_Going (ce_var 0)) ce_int) (cw_and (ct_val (ce_call h_come_to hr (ca_cons (ce_var 0) ca_nil))) (cw_and1 (ct_val (ce_call h_is_so hr (ca_cons (ce_var 1) (ca_cons (ce_fld k_Going (ce_var 0)) ca_nil))))))).ct (css_one (cs_expr (ce_call h_do_rows hr (ca_cons (ce_var 0) (ca_cons (ce_idx r0 (ce_var 1) ce_int) ca_nil)))))))

theorem sc_do_let : FnScope ["going", "row"] ["going", "row"] (defScope t_do_let) := ⟨rfl, rfl, rfl, by decide +kernel, rfl, by decide +kernel, by decide +kernel⟩
theorem d_do_let {s_number_of : DSpec} {k : Nat} (h_number_of : HasG GI P w K mg base k "number_of" 2 s_number_of) (k_Going : ClsD K mg "Going" ["named", "listed", "spoken", "ended", "counted", "within", "bodies"]) {cdv : Value} {A : Around} {outer : List Env} {s : Shared} {H : Hp} {E : XK} {f : Addr} (hr : Room k (A.deeper (envOfC "do_let" (defScope t_do_let) s.heap.objs.size f cdv))) :
    CSs GI (cxOf (L2.CX P w) P w K mg base ["going", "row"] "do_let" (defScope t_do_let) f cdv A outer s H E) (defBody t_do_let) (b_do_let K s_number_of) := by
  have r0 := hr.mono (Nat.zero_le k)
  have nd := sc_do_let.nd
  exact (css_one (cs_set r0 (ce_fld k_Going (ce_var 0)) (ce_idx r0 (ce_var 1) ce_int) (ce_call h_number_of hr (ca_cons (ce_idx r0 (ce_var 1) ce_int) (ca_cons (ce_fld k_Going (ce_var 0)) ca_nil)))))

theorem sc_do_say : FnScope ["going", "row"] ["going", "row"] (defScope t_do_say) := ⟨rfl, rfl, rfl, by decide +kernel, rfl, by decide +kernel, by decide +kernel⟩
theorem d_do_say {s_number_of : DSpec} {k : Nat} (h_number_of : HasG GI P w K mg base k "number_of" 2 s_number_of) (k_Going : ClsD K mg "Going" ["named", "listed", "spoken", "ended", "counted", "within", "bodies"]) {cdv : Value} {A : Around} {outer : List Env} {s : Shared} {H : Hp} {E : XK} {f : Addr} (hr : Room k (A.deeper (envOfC "do_say" (defScope t_do_say) s.heap.objs.size f cdv))) :
    CSs GI (cxOf (L2.CX P w) P w K mg base ["going", "row"] "do_say" (defScope t_do_say) f cdv A outer s H E) (defBody t_do_say) (b_do_say K s_number_of) := by
  have r0 := hr.mono (Nat.zero_le k)
  have nd := sc_do_say.nd
  exact (css_one (cs_expr (ce_append (ce_fld k_Going (ce_var 0)) (ca_cons (ce_call h_number_of hr (ca_cons (ce_idx r0 (ce_var 1) ce_int) (ca_cons (ce_fld k_Going (ce_var 0)) ca_nil))) ca_nil))))

theorem sc_do_add : FnScope ["going", "row", "made"] ["going", "row"] (defScope t_do_add) := ⟨rfl, rfl, rfl, by decide +kernel, rfl, by decide +kernel, by decide +kernel⟩
theorem d_do_add {s_number_of : DSpec} {k : Nat} (h_number_of : HasG GI P w K mg base k "number_of" 2 s_number_of) (k_Going : ClsD K mg "Going" ["named", "listed", "spoken", "ended", "counted", "within", "bodies"]) {cdv : Value} {A : Around} {outer : List Env} {s : Shared} {H : Hp} {E : XK} {f : Addr} (hr : Room k (A.deeper (envOfC "do_add" (defScope t_do_add) s.heap.objs.size f cdv))) :
    CSs GI (cxOf (L2.CX P w) P w K mg base ["going", "row", "made"] "do_add" (defScope t_do_add) f cdv A outer s H E) (defBody t_do_add) (b_do_add K s_number_of) := by
  have r0 := hr.mono (Nat.zero_le k)
  have nd := sc_do_add.nd
  exact (css_cons (cs_asg 2 (ce_tup (ca_cons (ce_call h_number_of hr (ca_cons (ce_idx r0 (ce_var 1) ce_int) (ca_cons (ce_fld k_Going (ce_var 0)) ca_nil))) (ca_cons (ce_call h_number_of hr (ca_cons (ce_idx r0 (ce_var 1) ce_int) (ca_cons (ce_fld k_Going (ce_var 0)) ca_nil))) ca_nil))))
  (css_one (cs_expr (ce_append (ce_setdef (ce_fld k_Going (ce_var 0)) (ce_idx r0 (ce_var 1) ce_int) (ce_lst true ca_nil)) (ca_cons (ce_var 2) ca_nil)))))

theorem sc_do_drop : FnScope ["going", "row", "number", "left", "made"] ["going", "row"] (defScope t_do_drop) := ⟨rfl, rfl, rfl, by decide +kernel, rfl, by decide +kernel, by decide +kernel⟩
theorem d_do_drop {s_number_of : DSpec} {k : Nat} (h_number_of : HasG GI P w K mg base k "number_of" 2 s_number_of) (k_Going : ClsD K mg "Going" ["named", "listed", "spoken", "ended", "counted", "within", "bodies"]) {cdv : Value} {A : Around} {outer : List Env} {s : Shared} {H : Hp} {E : XK} {f : Addr} (hr : Room k (A.deeper (envOfC "do_drop" (defScope t_do_drop) s.heap.objs.size f cdv))) :
    CSs GI (cxOf (L2.CX P w) P w K mg base ["going", "row", "number", "left", "made"] "do_drop" (defScope t_do_drop) f cdv A outer s H E) (defBody t_do_drop) (b_do_drop K s_number_of) := by
  have r0 := hr.mono (Nat.zero_le k)
  have nd := sc_do_drop.nd
  exact (css_cons (cs_asg 2 (ce_call h_number_of hr (ca_cons (ce_idx r0 (ce_var 1) ce_int) (ca_cons (ce_fld k_Going (ce_var 0)) ca_nil))))
  (css_cons (cs_setcomp true 3 [("made", 4)] nd rfl (ci_any (ce_get2 r0 (ce_fld k_Going (ce_var 0)) (ce_idx r0 (ce_var 1) ce_int) (ce_lst false ca_nil))) (blkOk_by (N := ["going", "row", "number", "left", "made"]) (sc := defScope t_do_drop) (own := [("made", 4)]) (by decide +kernel)) (fun _ _ _ _ _ => (cg_name 4)) (fun _ _ _ _ _ => (cts_one (ct_ne r0 (ce_idx r0 (ce_var 4) ce_int) (ce_var 2)))) (fun _ _ _ _ _ => (ce_var 4)))
  (css_one (cs_set r0 (ce_fld k_Going (ce_var 0)) (ce_idx r0 (ce_var 1) ce_int) (ce_var 3)))))

theorem sc_do_count : FnScope ["going", "row"] ["going", "row"] (defScope t_do_count) := ⟨rfl, rfl, rfl, by decide +kernel, rfl, by decide +kernel, by decide +kernel⟩
theorem d_do_count {k : Nat} (m_len : mg "len" = none) (g_ROUND : GlD K mg "ROUND" (.int 1000)) (k_Going : ClsD K mg "Going" ["named", "listed", "spoken", "ended", "counted", "within", "bodies"]) {cdv : Value} {A : Around} {outer : List Env} {s : Shared} {H : Hp} {E : XK} {f : Addr} (hr : Room k (A.deeper (envOfC "do_count" (defScope t_do_count) s.heap.objs.size f cdv))) :
    CSs GI (cxOf (L2.CX P w) P w K mg base ["going", "row"] "do_count" (defScope t_do_count) f cdv A outer s H E) (defBody t_do_count) (b_do_count K) := by
  have r0 := hr.mono (Nat.zero_le k)
  have nd := sc_do_count.nd
  exact (css_one (cs_set r0 (ce_fld k_Going (ce_var 0)) (ce_idx r0 (ce_var 1) ce_int) (ce_mod (ce_len m_len (ca_cons (ce_get2 r0 (ce_fld k_Going (ce_var 0)) (ce_idx r0 (ce_var 1) ce_int) (ce_lst false ca_nil)) ca_nil)) (ce_glob g_ROUND))))

theorem sc_do_if : FnScope ["going", "row"] ["going", "row"] (defScope t_do_if) := ⟨rfl, rfl, rfl, by decide +kernel, rfl, by decide +kernel, by decide +kernel⟩
theorem d_do_if {s_is_so s_do_rows : DSpec} {k : Nat} (h_is_so : HasG GI P w K mg base k "is_so" 2 s_is_so) (h_do_rows : HasG GI P w K mg base k "do_rows" 2 s_do_rows) (k_Going : ClsD K mg "Going" ["named", "listed", "spoken", "ended", "counted", "within", "bodies"]) {cdv : Value} {A : Around} {outer : List Env} {s : Shared} {H : Hp} {E : XK} {f : Addr} (hr : Room k (A.deeper (envOfC "do_if" (defScope t_do_if) s.heap.objs.size f cdv))) :
    CSs GI (cxOf (L2.CX P w) P w K mg base ["going", "row"] "do_if" (defScope t_do_if) f cdv A outer s H E) (defBody t_do_if) (b_do_if K s_is_so s_do_rows) := by
  have r0 := hr.mono (Nat.zero_le k)
  have nd := sc_do_if.nd
  exact (css_one (cs_if (ct_val (ce_call h_is_so hr (ca_cons (ce_var 1) (ca_cons (ce_fld k_Going (ce_var 0)) ca_nil)))) (css_one (cs_expr (ce_call h_do_rows hr (ca_cons (ce_var 0) (ca_cons (ce_idx r0 (ce_var 1) ce_int) ca_nil))))) (css_one (cs_expr (ce_call h_do_rows hr (ca_cons (ce_var 0) (ca_cons (ce_idx r0 (ce_var 1) ce_int) ca_nil)))))))

theorem sc_do_each : FnScope ["going", "row", "first", "second"] ["going", "row"] (defScope t_do_each) := ⟨rfl, rfl, rfl, by decide +kernel, rfl, by decide +kernel, by decide +kernel⟩
theorem d_do_each {s_do_rows : DSpec} {k : Nat} (h_do_rows : HasG GI P w K mg base k "do_rows" 2 s_do_rows) (m_list : mg "list" = none) (k_Going : ClsD K mg "Going" ["named", "listed", "spoken", "ended", "counted", "within", "bodies"]) {cdv : Value} {A : Around} {outer : List Env} {s : Shared} {H : Hp} {E : XK} {f : Addr} (hr : Room k (A.deeper (envOfC "do_each" (defScope t_do_each) s.heap.objs.size f cdv))) :
    CSs GI (cxOf (L2.CX P w) P w K mg base ["going", "row", "first", "second"] "do_each" (defScope t_do_each) f cdv A outer s H E) (defBody t_do_each) (b_do_each K s_do_rows) := by
  have r0 := hr.mono (Nat.zero_le k)
  have nd := sc_do_each.nd
  exact (css_one (cs_for [2, 3] rfl (ci_any (ce_listc false rfl m_list (ca_cons (ce_get2 r0 (ce_fld k_Going (ce_var 0)) (ce_idx r0 (ce_var 1) ce_int) (ce_lst false ca_nil)) ca_nil))) (cg_tup 2 rfl (cgs_cons (cg_name 2) (cgs_cons (cg_name 3) cgs_nil))) (css_one (cs_if (ct_eq r0 (ce_fld k_Going (ce_var 0)) ce_int) (css_cons (cs_set r0 (ce_fld k_Going (ce_var 0)) (ce_idx r0 (ce_var 1) ce_int) (ce_var 2))
  (css_cons (cs_set r0 (ce_fld k_Going (ce_var 0)) (ce_idx r0 (ce_var 1) ce_int) (ce_var 3))
  (css_one (cs_expr (ce_call h_do_rows hr (ca_cons (ce_var 0) (ca_cons (ce_idx r0 (ce_var 1) ce_int) ca_nil))))))) css_nil))))

theorem sc_do_part : FnScope ["going", "row"] ["going", "row"] (defScope t_do_part) := ⟨rfl, rfl, rfl, by decide +kernel, rfl, by decide +kernel, by decide +kernel⟩
theorem d_do_part {s_do_rows : DSpec} {k : Nat} (h_do_rows : HasG GI P w K mg base k "do_rows" 2 s_do_rows) (g_MOST_WITHIN : GlD K mg "MOST_WITHIN" (.int 20)) (k_Going : ClsD K mg "Going" ["named", "listed", "spoken", "ended", "counted", "within", "bodies"]) {cdv : Value} {A : Around} {outer : List Env} {s : Shared} {H : Hp} {E : XK} {f : Addr} (hr : Room k (A.deeper (envOfC "do_part" (defScope t_do_part) s.heap.objs.size f cdv))) :
    CSs GI (cxOf (L2.CX P w) P w K mg base ["going", "row"] "do_part" (defScope t_do_part) f cdv A outer s H E) (defBody t_do_part) (b_do_part K s_do_rows) := by
  have r0 := hr.mono (Nat.zero_le k)
  have nd := sc_do_part.nd
  exact (css_cons (cs_if (ct_eq r0 (ce_fld k_Going (ce_var 0)) (ce_glob g_MOST_WITHIN)) (css_cons (cs_fldset k_Going (ce_var 0) ce_int)
  (css_one cs_retN)) css_nil)
  (css_cons (cs_fldadd k_Going (ce_var 0) ce_int)
  (css_cons (cs_expr (ce_call h_do_rows hr (ca_cons (ce_var 0) (ca_cons (ce_idx r0 (ce_fld k_Going (ce_var 0)) (ce_idx r0 (ce_var 1) ce_int)) ca_nil))))
  (css_one (cs_fldsub k_Going (ce_var 0) ce_int)))))

theorem sc_do_stop : FnScope ["going", "row"] ["going", "row"] (defScope t_do_stop) := ⟨rfl, rfl, rfl, by decide +kernel, rfl, by decide +kernel, by decide +kernel⟩
theorem d_do_stop {k : Nat} (k_Going : ClsD K mg "Going" ["named", "listed", "spoken", "ended", "counted", "within", "bodies"]) {cdv : Value} {A : Around} {outer : List Env} {s : Shared} {H : Hp} {E : XK} {f : Addr} (hr : Room k (A.deeper (envOfC "do_stop" (defScope t_do_stop) s.heap.objs.size f cdv))) :
    CSs GI (cxOf (L2.CX P w) P w K mg base ["going", "row"] "do_stop" (defScope t_do_stop) f cdv A outer s H E) (defBody t_do_stop) (b_do_stop K) := by
  have r0 := hr.mono (Nat.zero_le k)
  have nd := sc_do_stop.nd
  exact (css_one (cs_fldset k_Going (ce_var 0) ce_int))

theorem sc_do_rows : FnScope ["going", "some", "row", "deed"] ["going", "some"] (defScope t_do_rows) := ⟨rfl, rfl, rfl, by decide +kernel, rfl, by decide +kernel, by decide +kernel⟩
theorem d_do_rows {s_do_while s_come_to s_do_let s_do_say s_do_add s_do_drop s_do_count s_do_if s_do_each s_do_part s_do_stop : DSpec} {k : Nat} (h_do_while : HasG GI P w K mg base k "do_while" 2 s_do_while) (h_come_to : HasG GI P w K mg base k "come_to" 1 s_come_to) (tf_DEEDS : TabF GI P w K mg base k [("do_let", s_do_let), ("do_say", s_do_say), ("do_add", s_do_add), ("do_drop", s_do_drop), ("do_count", s_do_count), ("do_if", s_do_if), ("do_each", s_do_each), ("do_part", s_do_part), ("do_stop", s_do_stop)]) (t_DEEDS : TabD K w mg "DEEDS" [("let", .glo "do_let"), ("say", .glo "do_say"), ("add", .glo "do_add"), ("drop", .glo "do_drop"), ("count", .glo "do_count"), ("if", .glo "do_if"), ("each", .glo "do_each"), ("do", .glo "do_part"), ("stop", .glo "do_stop")]) (k_Going : ClsD K mg "Going" ["named", "listed", "spoken", "ended", "counted", "within", "bodies"]) {cdv : Value} {A : Around} {outer : List Env} {s : Shared} {H : Hp} {E : XK} {f : Addr} (hr : Room k (A.deeper (envOfC "do_rows" (defScope t_do_rows) s.heap.objs.size f cdv))) :
    CSs GI (cxOf (L2.CX P w) P w K mg base ["going", "some", "row", "deed"] "do_rows" (defScope t_do_rows) f cdv A outer s H E) (defBody t_do_rows) (b_do_rows K s_do_while s_come_to s_do_let s_do_say s_do_add s_do_drop s_do_count s_do_if s_do_each s_do_part s_do_stop) := by
  have r0 := hr.mono (Nat.zero_le k)
  have nd := sc_do_rows.nd
  exact (css_one (cs_for [2] rfl (ci_any (ce_var 1)) (cg_name 2) (css_one (cs_if (cw_and (ct_eq r0 (ce_fld k_Going (ce_var 0)) ce_int) (cw_and1 (ct_eq r0 (ce_idx r0 (ce_var 2) ce_int) ce_str))).ct (css_one (cs_expr (ce_call h_do_while hr (ca_cons (ce_var 0) (ca_cons (ce_var 2) ca_nil))))) (css_one (cs_if (cw_and (ct_eq r0 (ce_fld k_Going (ce_var 0)) ce_int) (cw_and1 (ct_val (ce_call h_come_to hr (ca_cons (ce_var 0) ca_nil))))).ct (css_cons (cs_asg 3 (ce_tab t_DEEDS (ce_idx r0 (ce_var 2) ce_int)))
  (css_one (cs_expr (ce_callT 3 tf_DEEDS hr (ca_cons (ce_var 0) (ca_cons (ce_var 2) ca_nil)))))) css_nil))))))

theorem sc_boxes_told : FnScope ["named", "name"] ["named"] (defScope t_boxes_told) := ⟨rfl, rfl, rfl, by decide +kernel, rfl, by decide +kernel, by decide +kernel⟩
theorem d_boxes_told {k : Nat} (m_sorted : mg "sorted" = none) {cdv : Value} {A : Around} {outer : List Env} {s : Shared} {H : Hp} {E : XK} {f : Addr} (hr : Room k (A.deeper (envOfC "boxes_told" (defScope t_boxes_told) s.heap.objs.size f cdv))) :
    CSs GI (cxOf (L2.CX P w) P w K mg base ["named", "name"] "boxes_told" (defScope t_boxes_told) f cdv A outer s H E) (defBody t_boxes_told) (b_boxes_told) := by
  have r0 := hr.mono (Nat.zero_le k)
  have nd := sc_boxes_told.nd
  exact (css_one (cs_ret (ce_comp true [("name", 1)] nd rfl (ci_any (ce_sortedKS false rfl m_sorted (ca_cons (ce_var 0) ca_nil))) (blkOk_by (N := ["named", "name"]) (sc := defScope t_boxes_told) (own := [("name", 1)]) (by decide +kernel)) (fun _ _ _ _ _ => (cg_name 1)) (fun _ _ _ _ _ => (cts_one (ct_ne r0 (ce_idx r0 (ce_var 0) (ce_var 1)) ce_int))) (fun _ _ _ _ _ => (ce_tup (ca_cons (ce_var 1) (ca_cons (ce_idx r0 (ce_var 0) (ce_var 1)) ca_nil)))))))

theorem sc_tables_told : FnScope ["listed", "name"] ["listed"] (defScope t_tables_told) := ⟨rfl, rfl, rfl, by decide +kernel, rfl, by decide +kernel, by decide +kernel⟩
theorem d_tables_told {k : Nat} (m_sorted : mg "sorted" = none) {cdv : Value} {A : Around} {outer : List Env} {s : Shared} {H : Hp} {E : XK} {f : Addr} (hr : Room k (A.deeper (envOfC "tables_told" (defScope t_tables_told) s.heap.objs.size f cdv))) :
    CSs GI (cxOf (L2.CX P w) P w K mg base ["listed", "name"] "tables_told" (defScope t_tables_told) f cdv A outer s H E) (defBody t_tables_told) (b_tables_told) := by
  have r0 := hr.mono (Nat.zero_le k)
  have nd := sc_tables_told.nd
  exact (css_one (cs_ret (ce_comp true [("name", 1)] nd rfl (ci_any (ce_sortedKS false rfl m_sorted (ca_cons (ce_var 0) ca_nil))) (blkOk_by (N := ["listed", "name"]) (sc := defScope t_tables_told) (own := [("name", 1)]) (by decide +kernel)) (fun _ _ _ _ _ => (cg_name 1)) (fun _ _ _ _ _ => (cts_one (ct_ne r0 (ce_idx r0 (ce_var 0) (ce_var 1)) (ce_lst false ca_nil)))) (fun _ _ _ _ _ => (ce_tup (ca_cons (ce_var 1) (ca_cons (ce_idx r0 (ce_var 0) (ce_var 1)) ca_nil)))))))

theorem sc_Going_init : FnScope ["self", "parts", "boxes", "tables", "name", "some"] ["self", "parts", "boxes", "tables"] (defScope t_Going_init) := ⟨rfl, rfl, rfl, by decide +kernel, rfl, by decide +kernel, by decide +kernel⟩
theorem d_Going_init {k : Nat} (m_dict : mg "dict" = none) (m_list : mg "list" = none) (k_Going : ClsD K mg "Going" ["named", "listed", "spoken", "ended", "counted", "within", "bodies"]) {cdv : Value} {A : Around} {outer : List Env} {s : Shared} {H : Hp} {E : XK} {f : Addr} (hr : Room k (A.deeper (envOfC "Going.__init__" (defScope t_Going_init) s.heap.objs.size f cdv))) :
    CSs GI (cxOf (L2.CX P w) P w K mg base ["self", "parts", "boxes", "tables", "name", "some"] "Going.__init__" (defScope t_Going_init) f cdv A outer s H E) (defBody t_Going_init) (b_Going_init K) := by
  have r0 := hr.mono (Nat.zero_le k)
  have nd := sc_Going_init.nd
  exact (css_cons (cs_fldset k_Going (ce_var 0) (ce_dictc rfl m_dict (ca_cons (ce_var 2) ca_nil)))
  (css_cons (cs_fldset k_Going (ce_var 0) (ce_dict false))
  (css_cons (cs_for [4, 5] rfl (ci_any (ce_var 3)) (cg_tup 2 rfl (cgs_cons (cg_name 4) (cgs_cons (cg_name 5) cgs_nil))) (css_one (cs_set r0 (ce_fld k_Going (ce_var 0)) (ce_var 4) (ce_listc true rfl m_list (ca_cons (ce_var 5) ca_nil)))))
  (css_cons (cs_fldset k_Going (ce_var 0) (ce_lst true ca_nil))
  (css_cons (cs_fldset k_Going (ce_var 0) ce_int)
  (css_cons (cs_fldset k_Going (ce_var 0) ce_int)
  (css_cons (cs_fldset k_Going (ce_var 0) ce_int)
  (css_one (cs_fldset k_Going (ce_var 0) (ce_dictc rfl m_dict (ca_cons (ce_var 1) ca_nil)))))))))))

theorem sc_plain_run : FnScope ["program", "boxes", "tables", "going"] ["program", "boxes", "tables"] (defScope t_plain_run) := ⟨rfl, rfl, rfl, by decide +kernel, rfl, by decide +kernel, by decide +kernel⟩
theorem d_plain_run {s_do_rows s_boxes_told s_tables_told s_Going_init : DSpec} {k : Nat} (h_do_rows : HasG GI P w K mg base k "do_rows" 2 s_do_rows) (h_boxes_told : HasG GI P w K mg base k "boxes_told" 1 s_boxes_told) (h_tables_told : HasG GI P w K mg base k "tables_told" 1 s_tables_told) (k_Going : ClsD K mg "Going" ["named", "listed", "spoken", "ended", "counted", "within", "bodies"]) {km_Going : Nat} (mk_Going : MkD GI P w K mg base km_Going "Going" 4 s_Going_init) (hk_Going : km_Going + 1 ≤ k) {cdv : Value} {A : Around} {outer : List Env} {s : Shared} {H : Hp} {E : XK} {f : Addr} (hr : Room k (A.deeper (envOfC "plain_run" (defScope t_plain_run) s.heap.objs.size f cdv))) :
    CSs GI (cxOf (L2.CX P w) P w K mg base ["program", "boxes", "tables", "going"] "plain_run" (defScope t_plain_run) f cdv A outer s H E) (defBody t_plain_run) (b_plain_run K s_do_rows s_boxes_told s_tables_told s_Going_init) := by
  have r0 := hr.mono (Nat.zero_le k)
  have nd := sc_plain_run.nd
  exact (css_cons (cs_asg 3 (ce_make mk_Going (hr.mono hk_Going) (ca_cons (ce_idx r0 (ce_var 0) ce_int) (ca_cons (ce_var 1) (ca_cons (ce_var 2) ca_nil)))))
  (css_cons (cs_expr (ce_call h_do_rows hr (ca_cons (ce_var 3) (ca_cons (ce_idx r0 (ce_var 0) ce_int) ca_nil))))
  (css_one (cs_ret (ce_tup (ca_cons (ce_call h_boxes_told hr (ca_cons (ce_fld k_Going (ce_var 3)) ca_nil)) (ca_cons (ce_call h_tables_told hr (ca_cons (ce_fld k_Going (ce_var 3)) ca_nil)) (ca_cons (ce_fld k_Going (ce_var 3)) (ca_cons (ce_fld k_Going (ce_var 3)) ca_nil)))))))))

theorem sc_law_alike : FnScope ["found", "due", "mine", "other"] ["found", "due"] (defScope t_law_alike) := ⟨rfl, rfl, rfl, by decide +kernel, rfl, by decide +kernel, by decide +kernel⟩
theorem d_law_alike {s_law_alike : DSpec} {k : Nat} (h_law_alike : HasG GI P w K mg base k "_law_alike" 2 s_law_alike) (m_tuple : mg "tuple" = none) (m_isinstance : mg "isinstance" = none) (m_list : mg "list" = none) (m_len : mg "len" = none) (m_zip : mg "zip" = none) (m_all : mg "all" = none) (m_bool : mg "bool" = none) (m_str : mg "str" = none) (m_int : mg "int" = none) {cdv : Value} {A : Around} {outer : List Env} {s : Shared} {H : Hp} {E : XK} {f : Addr} (hr : Room k (A.deeper (envOfC "_law_alike" (defScope t_law_alike) s.heap.objs.size f cdv))) :
    CSs GI (cxOf (L2.CX P w) P w K mg base ["found", "due", "mine", "other"] "_law_alike" (defScope t_law_alike) f cdv A outer s H E) (defBody t_law_alike) (b_law_alike s_law_alike) := by
  have r0 := hr.mono (Nat.zero_le k)
  have nd := sc_law_alike.nd
  exact (css_cons (cs_if (cw_or (ct_val (ce_isi m_isinstance (ca_cons (ce_var 1) (ca_cons (ce_bty m_tuple) ca_nil)))) (cw_or1 (ct_val (ce_isi m_isinstance (ca_cons (ce_var 1) (ca_cons (ce_bty m_list) ca_nil)))))).ct (css_cons (cs_if (cw_or (ct_ne r0 (ce_isi m_isinstance (ca_cons (ce_var 0) (ca_cons (ce_bty m_tuple) ca_nil))) (ce_isi m_isinstance (ca_cons (ce_var 1) (ca_cons (ce_bty m_tuple) ca_nil)))) (cw_or1 (ct_ne r0 (ce_isi m_isinstance (ca_cons (ce_var 0) (ca_cons (ce_bty m_list) ca_nil))) (ce_isi m_isinstance (ca_cons (ce_var 1) (ca_cons (ce_bty m_list) ca_nil)))))).ct (css_one (cs_ret ce_bl)) css_nil)
  (css_cons (cs_if (ct_ne r0 (ce_len m_len (ca_cons (ce_var 0) ca_nil)) (ce_len m_len (ca_cons (ce_var 1) ca_nil))) (css_one (cs_ret ce_bl)) css_nil)
  (css_one (cs_ret (ce_all rfl m_all (ca_cons (ce_comp false [("mine", 2), ("other", 3)] nd rfl (ci_zip m_zip (ca_cons (ce_var 0) (ca_cons (ce_var 1) ca_nil))) (blkOk_by (N := ["found", "due", "mine", "other"]) (sc := defScope t_law_alike) (own := [("mine", 2), ("other", 3)]) (by decide +kernel)) (fun _ _ _ _ _ => (cg_tup 2 rfl (cgs_cons (cg_name 2) (cgs_cons (cg_name 3) cgs_nil)))) (fun _ _ _ _ _ => cts_nil) (fun _ _ _ _ _ => (ce_call h_law_alike hr (ca_cons (ce_var 2) (ca_cons (ce_var 3) ca_nil))))) ca_nil)))))) css_nil)
  (css_cons (cs_if (ct_is (ce_var 1) ce_non) (css_one (cs_ret (ce_is (ce_var 0) ce_non))) css_nil)
  (css_cons (cs_if (cw_or (ct_val (ce_isi m_isinstance (ca_cons (ce_var 1) (ca_cons (ce_bty m_bool) ca_nil)))) (cw_or1 (ct_val (ce_isi m_isinstance (ca_cons (ce_var 1) (ca_cons (ce_bty m_str) ca_nil)))))).ct (css_one (cs_ret (ce_and (ce_eq r0 (ce_isi m_isinstance (ca_cons (ce_var 0) (ca_cons (ce_bty m_bool) ca_nil))) (ce_isi m_isinstance (ca_cons (ce_var 1) (ca_cons (ce_bty m_bool) ca_nil)))) (ce_bone (ce_eq r0 (ce_var 0) (ce_var 1)))))) css_nil)
  (css_one (cs_ret (ce_and (ce_isi m_isinstance (ca_cons (ce_var 0) (ca_cons (ce_bty m_int) ca_nil))) (ce_and (ce_not (ce_isi m_isinstance (ca_cons (ce_var 0) (ca_cons (ce_bty m_bool) ca_nil)))) (ce_bone (ce_eq r0 (ce_var 0) (ce_var 1))))))))))

theorem sc_law_counted : FnScope ["reel", "many", "loop", "told", "rows", "stops", "table", "done", "up", "one", "boxes", "end", "due"] ["reel"] (defScope t_law_counted) := ⟨rfl, rfl, rfl, by decide +kernel, rfl, by decide +kernel, by decide +kernel⟩
theorem d_law_counted {s_law_draw s_law_loop s_law_filled s_plain_run s_law_alike : DSpec} {k : Nat} (h_law_draw : HasG GI P w K mg base k "_law_draw" 2 s_law_draw) (h_law_loop : HasG GI P w K mg base k "_law_loop" 2 s_law_loop) (h_law_filled : HasG GI P w K mg base k "_law_filled" 3 s_law_filled) (h_plain_run : HasG GI P w K mg base k "plain_run" 3 s_plain_run) (h_law_alike : HasG GI P w K mg base k "_law_alike" 2 s_law_alike) (m_int : mg "int" = none) (m_len : mg "len" = none) (m_min : mg "min" = none) {cdv : Value} {A : Around} {outer : List Env} {s : Shared} {H : Hp} {E : XK} {f : Addr} (hr : Room k (A.deeper (envOfC "_law_counted" (defScope t_law_counted) s.heap.objs.size f cdv))) :
    CSs GI (cxOf (L2.CX P w) P w K mg base ["reel", "many", "loop", "told", "rows", "stops", "table", "done", "up", "one", "boxes", "end", "due"] "_law_counted" (defScope t_law_counted) f cdv A outer s H E) (defBody t_law_counted) (b_law_counted s_law_draw s_law_loop s_law_filled s_plain_run s_law_alike) := by
  have r0 := hr.mono (Nat.zero_le k)
  have nd := sc_law_counted.nd
  exact (css_cons (cs_asg 1 (ce_idx r0 (ce_lst false (ca_cons (ce_call h_law_draw hr (ca_cons (ce_var 0) (ca_cons ce_int ca_nil))) (ca_cons (ce_add false ce_int (ce_call h_law_draw hr (ca_cons (ce_var 0) (ca_cons ce_int ca_nil)))) ca_nil))) (ce_call h_law_draw hr (ca_cons (ce_var 0) (ca_cons ce_int ca_nil)))))
  (css_cons (cs_asgG [2, 3] (ce_call h_law_loop hr (ca_cons (ce_var 1) (ca_cons (ce_call h_law_draw hr (ca_cons (ce_var 0) (ca_cons ce_int ca_nil))) ca_nil))) (cg_tup 2 rfl (cgs_cons (cg_name 2) (cgs_cons (cg_name 3) cgs_nil))))
  (css_cons (cs_asgG [4, 3] (ce_call h_law_filled hr (ca_cons (ce_var 2) (ca_cons (ce_var 3) (ca_cons (ce_add false ce_int (ce_call h_law_draw hr (ca_cons (ce_var 0) (ca_cons ce_int ca_nil)))) ca_nil)))) (cg_tup 2 rfl (cgs_cons (cg_name 4) (cgs_cons (cg_name 3) cgs_nil))))
  (css_cons (cs_asg 5 (ce_intc m_int (ca_cons (ce_eq r0 (ce_call h_law_draw hr (ca_cons (ce_var 0) (ca_cons ce_int ca_nil))) ce_int) ca_nil)))
  (css_cons (cs_asg 4 (ce_add false (ce_var 4) (ce_mul false (ce_lst false (ca_cons (ce_tup (ca_cons ce_str ca_nil)) ca_nil)) (ce_var 5))))
  (css_cons (cs_asg 3 (ce_add false (ce_var 3) (ce_mul false (ce_lst false (ca_cons ce_int ca_nil)) (ce_var 5))))
  (css_cons (cs_asg 6 (ce_lst false (ca_cons (ce_tup (ca_cons ce_str (ca_cons (ce_mul false (ce_lst false (ca_cons (ce_tup (ca_cons ce_int (ca_cons ce_int ca_nil))) ca_nil)) ce_int) ca_nil))) ca_nil)))
  (css_cons (cs_asg 7 (ce_slice false (ce_var 3) co_none (co_some ce_int)))
  (css_cons (cs_asg 8 (ce_len m_len (ca_cons (ce_comp false [("one", 9)] nd rfl (ci_any (ce_var 7)) (blkOk_by (N := ["reel", "many", "loop", "told", "rows", "stops", "table", "done", "up", "one", "boxes", "end", "due"]) (sc := defScope t_law_counted) (own := [("one", 9)]) (by decide +kernel)) (fun _ _ _ _ _ => (cg_name 9)) (fun _ _ _ _ _ => (cts_one (ct_eq r0 (ce_var 9) (ce_neg ce_int)))) (fun _ _ _ _ _ => (ce_var 9))) ca_nil)))
  (css_cons (cs_asg 10 (ce_mul false (ce_lst false (ca_cons (ce_tup (ca_cons ce_str (ca_cons (ce_var 8) ca_nil))) ca_nil)) (ce_min2 rfl m_min (ca_cons ce_int (ca_cons (ce_var 8) ca_nil)))))
  (css_cons (cs_asg 11 (ce_if (ct_gt (ce_len m_len (ca_cons (ce_var 3) ca_nil)) ce_int) ce_int (ce_var 5)))
  (css_cons (cs_asg 12 (ce_tup (ca_cons (ce_var 10) (ca_cons (ce_var 6) (ca_cons (ce_comp false [("one", 9)] nd rfl (ci_any (ce_var 7)) (blkOk_by (N := ["reel", "many", "loop", "told", "rows", "stops", "table", "done", "up", "one", "boxes", "end", "due"]) (sc := defScope t_law_counted) (own := [("one", 9)]) (by decide +kernel)) (fun _ _ _ _ _ => (cg_name 9)) (fun _ _ _ _ _ => (cts_one (ct_gt (ce_var 9) ce_int))) (fun _ _ _ _ _ => (ce_var 9))) (ca_cons (ce_var 11) ca_nil))))))
  (css_one (cs_ret (ce_call h_law_alike hr (ca_cons (ce_call h_plain_run hr (ca_cons (ce_tup (ca_cons (ce_var 4) (ca_cons (ce_lst false ca_nil) ca_nil))) (ca_cons (ce_lst false ca_nil) (ca_cons (ce_lst false (ca_cons (ce_tup (ca_cons ce_str (ca_cons (ce_mul false (ce_lst false (ca_cons (ce_tup (ca_cons ce_int (ca_cons ce_int ca_nil))) ca_nil)) ce_int) ca_nil))) ca_nil)) ca_nil)))) (ca_cons (ce_var 12) ca_nil)))))))))))))))))

theorem sc_law_within : FnScope ["reel", "many", "names", "up", "parts", "k", "more", "found", "due", "behind"] ["reel"] (defScope t_law_within) := ⟨rfl, rfl, rfl, by decide +kernel, rfl, by decide +kernel, by decide +kernel⟩
theorem d_law_within {s_law_draw s_plain_run s_law_alike : DSpec} {k : Nat} (h_law_draw : HasG GI P w K mg base k "_law_draw" 2 s_law_draw) (h_plain_run : HasG GI P w K mg base k "plain_run" 3 s_plain_run) (h_law_alike : HasG GI P w K mg base k "_law_alike" 2 s_law_alike) (m_len : mg "len" = none) (m_set : mg "set" = none) (m_range : mg "range" = none) {cdv : Value} {A : Around} {outer : List Env} {s : Shared} {H : Hp} {E : XK} {f : Addr} (hr : Room k (A.deeper (envOfC "_law_within" (defScope t_law_within) s.heap.objs.size f cdv))) :
    CSs GI (cxOf (L2.CX P w) P w K mg base ["reel", "many", "names", "up", "parts", "k", "more", "found", "due", "behind"] "_law_within" (defScope t_law_within) f cdv A outer s H E) (defBody t_law_within) (b_law_within s_law_draw s_plain_run s_law_alike) := by
  have r0 := hr.mono (Nat.zero_le k)
  have nd := sc_law_within.nd
  exact (css_cons (cs_asg 1 (ce_add false ce_int (ce_call h_law_draw hr (ca_cons (ce_var 0) (ca_cons ce_int ca_nil)))))
  (css_cons (cs_asg 2 (ce_idx r0 (ce_lst false (ca_cons (ce_lst false (ca_cons ce_str (ca_cons ce_str ca_nil))) (ca_cons (ce_lst false (ca_cons ce_str (ca_cons ce_str ca_nil))) ca_nil))) (ce_call h_law_draw hr (ca_cons (ce_var 0) (ca_cons ce_int ca_nil)))))
  (css_cons (cs_asg 3 (ce_tup (ca_cons ce_str (ca_cons ce_str (ca_cons (ce_tup (ca_cons ce_str (ca_cons (ce_tup (ca_cons ce_str (ca_cons ce_str ca_nil))) (ca_cons (ce_tup (ca_cons ce_str (ca_cons ce_int ca_nil))) ca_nil)))) ca_nil)))))
  (css_cons (cs_asg 4 (ce_lst true ca_nil))
  (css_cons (cs_for [5] rfl (ci_range1 m_range (ca_cons (ce_lenSet rfl m_len m_set (ce_var 2)) ca_nil)) (cg_name 5) (css_cons (cs_asg 6 (ce_tup (ca_cons ce_str (ca_cons ce_str (ca_cons (ce_tup (ca_cons ce_str (ca_cons ce_str ca_nil))) (ca_cons (ce_tup (ca_cons ce_str (ca_cons (ce_var 1) ca_nil))) (ca_cons (ce_lst false (ca_cons (ce_tup (ca_cons ce_str (ca_cons (ce_idx r0 (ce_var 2) (ce_sub ce_int (ce_var 5))) ca_nil))) ca_nil)) (ca_cons (ce_lst false ca_nil) ca_nil))))))))
  (css_one (cs_expr (ce_append (ce_var 4) (ca_cons (ce_tup (ca_cons (ce_idx r0 (ce_var 2) (ce_var 5)) (ca_cons (ce_lst false (ca_cons (ce_var 3) (ca_cons (ce_var 6) (ca_cons (ce_tup (ca_cons ce_str (ca_cons (ce_tup (ca_cons ce_str (ca_cons ce_int ca_nil))) ca_nil))) ca_nil)))) ca_nil))) ca_nil))))))
  (css_cons (cs_asg 7 (ce_call h_plain_run hr (ca_cons (ce_tup (ca_cons (ce_lst false (ca_cons (ce_tup (ca_cons ce_str (ca_cons ce_str ca_nil))) ca_nil)) (ca_cons (ce_frz (ce_var 4)) ca_nil))) (ca_cons (ce_lst false ca_nil) (ca_cons (ce_lst false ca_nil) ca_nil)))))
  (css_cons (cs_asg 8 (ce_tup (ca_cons (ce_lst false (ca_cons (ce_tup (ca_cons ce_str (ca_cons (ce_var 1) ca_nil))) ca_nil)) (ca_cons (ce_lst false ca_nil) (ca_cons (ce_mul false (ce_lst false (ca_cons ce_int ca_nil)) (ce_var 1)) (ca_cons ce_int ca_nil))))))
  (css_cons (cs_if (ct_gt (ce_var 1) ce_int) (css_one (cs_asg 8 (ce_tup (ca_cons (ce_lst false (ca_cons (ce_tup (ca_cons ce_str (ca_cons ce_int ca_nil))) ca_nil)) (ca_cons (ce_lst false ca_nil) (ca_cons (ce_lst false ca_nil) (ca_cons ce_int ca_nil))))))) css_nil)
  (css_cons (cs_asg 9 (ce_call h_plain_run hr (ca_cons (ce_tup (ca_cons (ce_mul false (ce_lst false (ca_cons (ce_tup (ca_cons ce_str (ca_cons ce_str ca_nil))) ca_nil)) (ce_var 1)) (ca_cons (ce_lst false (ca_cons (ce_tup (ca_cons ce_str (ca_cons (ce_lst false (ca_cons (ce_var 3) ca_nil)) ca_nil))) ca_nil)) ca_nil))) (ca_cons (ce_lst false ca_nil) (ca_cons (ce_lst false ca_nil) ca_nil)))))
  (css_one (cs_ret (ce_and (ce_call h_law_alike hr (ca_cons (ce_var 7) (ca_cons (ce_var 8) ca_nil))) (ce_bone (ce_call h_law_alike hr (ca_cons (ce_var 9) (ca_cons (ce_tup (ca_cons (ce_lst false (ca_cons (ce_tup (ca_cons ce_str (ca_cons (ce_var 1) ca_nil))) ca_nil)) (ca_cons (ce_lst false ca_nil) (ca_cons (ce_lst false ca_nil) (ca_cons ce_int ca_nil))))) ca_nil))))))))))))))))

theorem sc_law : FnScope ["script", "reel", "k"] ["script"] (defScope t_law) := ⟨rfl, rfl, rfl, by decide +kernel, rfl, by decide +kernel, by decide +kernel⟩
theorem d_law {s_law_reel s_law_counted s_law_within : DSpec} {k : Nat} (h_law_reel : HasG GI P w K mg base k "_law_reel" 1 s_law_reel) (h_law_counted : HasG GI P w K mg base k "_law_counted" 1 s_law_counted) (h_law_within : HasG GI P w K mg base k "_law_within" 1 s_law_within) (m_len : mg "len" = none) (m_min : mg "min" = none) (m_range : mg "range" = none) {cdv : Value} {A : Around} {outer : List Env} {s : Shared} {H : Hp} {E : XK} {f : Addr} (hr : Room k (A.deeper (envOfC "law" (defScope t_law) s.heap.objs.size f cdv))) :
    CSs GI (cxOf (L2.CX P w) P w K mg base ["script", "reel", "k"] "law" (defScope t_law) f cdv A outer s H E) (defBody t_law) (b_law s_law_reel s_law_counted s_law_within) := by
  have r0 := hr.mono (Nat.zero_le k)
  have nd := sc_law.nd
  exact (css_cons (cs_asg 1 (ce_call h_law_reel hr (ca_cons (ce_var 0) ca_nil)))
  (css_cons (cs_for [2] rfl (ci_range1 m_range (ca_cons (ce_add false ce_int (ce_min2 rfl m_min (ca_cons (ce_len m_len (ca_cons (ce_var 0) ca_nil)) (ca_cons ce_int ca_nil)))) ca_nil)) (cg_name 2) (css_one (cs_if (cw_or (ct_not (ct_val (ce_call h_law_counted hr (ca_cons (ce_var 1) ca_nil)))) (cw_or1 (ct_not (ct_val (ce_call h_law_within hr (ca_cons (ce_var 1) ca_nil)))))).ct (css_one (cs_ret ce_bl)) css_nil)))
  (css_one (cs_ret ce_bl))))
end
theorem link {l : PySem.W.OpenLaw} {w : World} {K : PySem.W.Frag} {h : Heap} {mg : Str → Option Value} {fa : Addr} (X : K.In h) (G : h.Ns mainGlobals mg) (hfa : mg "law" = some (.ref fa)) (nd : ndM mksH K = true)
    (q_Going_init : ∃ f fd, MethAt K "Going" "__init__" "Going.__init__" t_Going_init f fd)
    (q_law_reel : ∃ f fd, DefAt K "_law_reel" "_law_reel" t_law_reel f fd)
    (q_law_draw : ∃ f fd, DefAt K "_law_draw" "_law_draw" t_law_draw f fd)
    (q_law_loop : ∃ f fd, DefAt K "_law_loop" "_law_loop" t_law_loop f fd)
    (q_law_filled : ∃ f fd, DefAt K "_law_filled" "_law_filled" t_law_filled f fd)
    (q_come_to : ∃ f fd, DefAt K "come_to" "come_to" t_come_to f fd)
    (q_added : ∃ f fd, DefAt K "added" "added" t_added f fd)
    (q_lessened : ∃ f fd, DefAt K "lessened" "lessened" t_lessened f fd)
    (q_multiplied : ∃ f fd, DefAt K "multiplied" "multiplied" t_multiplied f fd)
    (q_number_of : ∃ f fd, DefAt K "number_of" "number_of" t_number_of f fd)
    (q_is_so : ∃ f fd, DefAt K "is_so" "is_so" t_is_so f fd)
    (q_do_while : ∃ f fd, DefAt K "do_while" "do_while" t_do_while f fd)
    (q_do_let : ∃ f fd, DefAt K "do_let" "do_let" t_do_let f fd)
    (q_do_say : ∃ f fd, DefAt K "do_say" "do_say" t_do_say f fd)
    (q_do_add : ∃ f fd, DefAt K "do_add" "do_add" t_do_add f fd)
    (q_do_drop : ∃ f fd, DefAt K "do_drop" "do_drop" t_do_drop f fd)
    (q_do_count : ∃ f fd, DefAt K "do_count" "do_count" t_do_count f fd)
    (q_do_if : ∃ f fd, DefAt K "do_if" "do_if" t_do_if f fd)
    (q_do_each : ∃ f fd, DefAt K "do_each" "do_each" t_do_each f fd)
    (q_do_part : ∃ f fd, DefAt K "do_part" "do_part" t_do_part f fd)
    (q_do_stop : ∃ f fd, DefAt K "do_stop" "do_stop" t_do_stop f fd)
    (q_do_rows : ∃ f fd, DefAt K "do_rows" "do_rows" t_do_rows f fd)
    (q_boxes_told : ∃ f fd, DefAt K "boxes_told" "boxes_told" t_boxes_told f fd)
    (q_tables_told : ∃ f fd, DefAt K "tables_told" "tables_told" t_tables_told f fd)
    (q_plain_run : ∃ f fd, DefAt K "plain_run" "plain_run" t_plain_run f fd)
    (q_law_alike : ∃ f fd, DefAt K "_law_alike" "_law_alike" t_law_alike f fd)
    (q_law_counted : ∃ f fd, DefAt K "_law_counted" "_law_counted" t_law_counted f fd)
    (q_law_within : ∃ f fd, DefAt K "_law_within" "_law_within" t_law_within f fd)
    (q_law : ∃ f fd, DefAt K "law" "law" t_law f fd)
    (z_all : PySem.W.nsIn K mainGlobals "all" = some none)
    (z_bool : PySem.W.nsIn K mainGlobals "bool" = some none)
    (z_dict : PySem.W.nsIn K mainGlobals "dict" = some none)
    (z_int : PySem.W.nsIn K mainGlobals "int" = some none)
    (z_isinstance : PySem.W.nsIn K mainGlobals "isinstance" = some none)
    (z_len : PySem.W.nsIn K mainGlobals "len" = some none)
    (z_list : PySem.W.nsIn K mainGlobals "list" = some none)
    (z_max : PySem.W.nsIn K mainGlobals "max" = some none)
    (z_min : PySem.W.nsIn K mainGlobals "min" = some none)
    (z_range : PySem.W.nsIn K mainGlobals "range" = some none)
    (z_set : PySem.W.nsIn K mainGlobals "set" = some none)
    (z_sorted : PySem.W.nsIn K mainGlobals "sorted" = some none)
    (z_str : PySem.W.nsIn K mainGlobals "str" = some none)
    (z_tuple : PySem.W.nsIn K mainGlobals "tuple" = some none)
    (z_zip : PySem.W.nsIn K mainGlobals "zip" = some none)
    (g_MOST_COUNTED : ∀ mg, h.Ns mainGlobals mg → GlD K mg "MOST_COUNTED" (.int 300))
    (g_MOST_WITHIN : ∀ mg, h.Ns mainGlobals mg → GlD K mg "MOST_WITHIN" (.int 20))
    (g_ROUND : ∀ mg, h.Ns mainGlobals mg → GlD K mg "ROUND" (.int 1000))
    (t_DEEDS : ∀ mg, h.Ns mainGlobals mg → TabD K w mg "DEEDS" [("let", .glo "do_let"), ("say", .glo "do_say"), ("add", .glo "do_add"), ("drop", .glo "do_drop"), ("count", .glo "do_count"), ("if", .glo "do_if"), ("each", .glo "do_each"), ("do", .glo "do_part"), ("stop", .glo "do_stop")])
    (t_SUMS : ∀ mg, h.Ns mainGlobals mg → TabD K w mg "SUMS" [("+", .glo "added"), ("-", .glo "lessened"), ("*", .glo "multiplied")])
    (k_Going : ∀ mg, h.Ns mainGlobals mg → ClsD K mg "Going" ["named", "listed", "spoken", "ended", "counted", "within", "bodies"])
    (mkr_Going : Mk K (He.ga K "Going") (He.ma K (He.ga K "Going") "__init__"))
    : ∃ fd : FuncData, (∀ (s : Shared) (v : Value), BindsTo s fd ⟨[v], []⟩ [("script", v)]) ∧ ∀ base : Heap, K.In base → base.Ns mainGlobals mg → (∀ p ∈ csM K mksH, LamX.TabB base mg p.1 p.2) → FnOk l.prog w K mg base (L2.CX l.prog w) 224 fa fd ["script"] (lowSp K (GIT (tabsM K mksH)) sp_law) := by
  obtain ⟨f_law_reel, fd_law_reel, q_law_reel⟩ := q_law_reel
  obtain ⟨f_law_draw, fd_law_draw, q_law_draw⟩ := q_law_draw
  obtain ⟨f_law_loop, fd_law_loop, q_law_loop⟩ := q_law_loop
  obtain ⟨f_law_filled, fd_law_filled, q_law_filled⟩ := q_law_filled
  obtain ⟨f_come_to, fd_come_to, q_come_to⟩ := q_come_to
  obtain ⟨f_added, fd_added, q_added⟩ := q_added
  obtain ⟨f_lessened, fd_lessened, q_lessened⟩ := q_lessened
  obtain ⟨f_multiplied, fd_multiplied, q_multiplied⟩ := q_multiplied
  obtain ⟨f_number_of, fd_number_of, q_number_of⟩ := q_number_of
  obtain ⟨f_is_so, fd_is_so, q_is_so⟩ := q_is_so
  obtain ⟨f_do_while, fd_do_while, q_do_while⟩ := q_do_while
  obtain ⟨f_do_let, fd_do_let, q_do_let⟩ := q_do_let
  obtain ⟨f_do_say, fd_do_say, q_do_say⟩ := q_do_say
  obtain ⟨f_do_add, fd_do_add, q_do_add⟩ := q_do_add
  obtain ⟨f_do_drop, fd_do_drop, q_do_drop⟩ := q_do_drop
  obtain ⟨f_do_count, fd_do_count, q_do_count⟩ := q_do_count
  obtain ⟨f_do_if, fd_do_if, q_do_if⟩ := q_do_if
  obtain ⟨f_do_each, fd_do_each, q_do_each⟩ := q_do_each
  obtain ⟨f_do_part, fd_do_part, q_do_part⟩ := q_do_part
  obtain ⟨f_do_stop, fd_do_stop, q_do_stop⟩ := q_do_stop
  obtain ⟨f_do_rows, fd_do_rows, q_do_rows⟩ := q_do_rows
  obtain ⟨f_boxes_told, fd_boxes_told, q_boxes_told⟩ := q_boxes_told
  obtain ⟨f_tables_told, fd_tables_told, q_tables_told⟩ := q_tables_told
  obtain ⟨f_Going_init, fd_Going_init, q_Going_init⟩ := q_Going_init
  obtain ⟨f_plain_run, fd_plain_run, q_plain_run⟩ := q_plain_run
  obtain ⟨f_law_alike, fd_law_alike, q_law_alike⟩ := q_law_alike
  obtain ⟨f_law_counted, fd_law_counted, q_law_counted⟩ := q_law_counted
  obtain ⟨f_law_within, fd_law_within, q_law_within⟩ := q_law_within
  obtain ⟨f_law, fd_law, q_law⟩ := q_law
  have hx := hfa.symm.trans (PySem.W.mg_of X G q_law.ns)
  cases hx
  have m_all := PySem.W.mg_none_of X G z_all
  have m_bool := PySem.W.mg_none_of X G z_bool
  have m_dict := PySem.W.mg_none_of X G z_dict
  have m_int := PySem.W.mg_none_of X G z_int
  have m_isinstance := PySem.W.mg_none_of X G z_isinstance
  have m_len := PySem.W.mg_none_of X G z_len
  have m_list := PySem.W.mg_none_of X G z_list
  have m_max := PySem.W.mg_none_of X G z_max
  have m_min := PySem.W.mg_none_of X G z_min
  have m_range := PySem.W.mg_none_of X G z_range
  have m_set := PySem.W.mg_none_of X G z_set
  have m_sorted := PySem.W.mg_none_of X G z_sorted
  have m_str := PySem.W.mg_none_of X G z_str
  have m_tuple := PySem.W.mg_none_of X G z_tuple
  have m_zip := PySem.W.mg_none_of X G z_zip
  have g_MOST_COUNTED := g_MOST_COUNTED mg G
  have g_MOST_WITHIN := g_MOST_WITHIN mg G
  have g_ROUND := g_ROUND mg G
  have t_DEEDS := t_DEEDS mg G
  have t_SUMS := t_SUMS mg G
  have k_Going := k_Going mg G
  have b_law_reel := q_law_reel.fn.binds (ps := ["script"]) fun _ _ _ _ _ _ us hl => match us, hl with | [_], _ => rfl
  have b_law_draw := q_law_draw.fn.binds (ps := ["reel", "many"]) fun _ _ _ _ _ _ us hl => match us, hl with | [_, _], _ => rfl
  have b_law_loop := q_law_loop.fn.binds (ps := ["many", "says"]) fun _ _ _ _ _ _ us hl => match us, hl with | [_, _], _ => rfl
  have b_law_filled := q_law_filled.fn.binds (ps := ["rows", "told", "total"]) fun _ _ _ _ _ _ us hl => match us, hl with | [_, _, _], _ => rfl
  have b_come_to := q_come_to.fn.binds (ps := ["going"]) fun _ _ _ _ _ _ us hl => match us, hl with | [_], _ => rfl
  have b_added := q_added.fn.binds (ps := ["one", "other"]) fun _ _ _ _ _ _ us hl => match us, hl with | [_, _], _ => rfl
  have b_lessened := q_lessened.fn.binds (ps := ["one", "other"]) fun _ _ _ _ _ _ us hl => match us, hl with | [_, _], _ => rfl
  have b_multiplied := q_multiplied.fn.binds (ps := ["one", "other"]) fun _ _ _ _ _ _ us hl => match us, hl with | [_, _], _ => rfl
  have b_number_of := q_number_of.fn.binds (ps := ["side", "named"]) fun _ _ _ _ _ _ us hl => match us, hl with | [_, _], _ => rfl
  have b_is_so := q_is_so.fn.binds (ps := ["row", "named"]) fun _ _ _ _ _ _ us hl => match us, hl with | [_, _], _ => rfl
  have b_do_while := q_do_while.fn.binds (ps := ["going", "row"]) fun _ _ _ _ _ _ us hl => match us, hl with | [_, _], _ => rfl
  have b_do_let := q_do_let.fn.binds (ps := ["going", "row"]) fun _ _ _ _ _ _ us hl => match us, hl with | [_, _], _ => rfl
  have b_do_say := q_do_say.fn.binds (ps := ["going", "row"]) fun _ _ _ _ _ _ us hl => match us, hl with | [_, _], _ => rfl
  have b_do_add := q_do_add.fn.binds (ps := ["going", "row"]) fun _ _ _ _ _ _ us hl => match us, hl with | [_, _], _ => rfl
  have b_do_drop := q_do_drop.fn.binds (ps := ["going", "row"]) fun _ _ _ _ _ _ us hl => match us, hl with | [_, _], _ => rfl
  have b_do_count := q_do_count.fn.binds (ps := ["going", "row"]) fun _ _ _ _ _ _ us hl => match us, hl with | [_, _], _ => rfl
  have b_do_if := q_do_if.fn.binds (ps := ["going", "row"]) fun _ _ _ _ _ _ us hl => match us, hl with | [_, _], _ => rfl
  have b_do_each := q_do_each.fn.binds (ps := ["going", "row"]) fun _ _ _ _ _ _ us hl => match us, hl with | [_, _], _ => rfl
  have b_do_part := q_do_part.fn.binds (ps := ["going", "row"]) fun _ _ _ _ _ _ us hl => match us, hl with | [_, _], _ => rfl
  have b_do_stop := q_do_stop.fn.binds (ps := ["going", "row"]) fun _ _ _ _ _ _ us hl => match us, hl with | [_, _], _ => rfl
  have b_do_rows := q_do_rows.fn.binds (ps := ["going", "some"]) fun _ _ _ _ _ _ us hl => match us, hl with | [_, _], _ => rfl
  have b_boxes_told := q_boxes_told.fn.binds (ps := ["named"]) fun _ _ _ _ _ _ us hl => match us, hl with | [_], _ => rfl
  have b_tables_told := q_tables_told.fn.binds (ps := ["listed"]) fun _ _ _ _ _ _ us hl => match us, hl with | [_], _ => rfl
  have b_Going_init := q_Going_init.fn.binds (ps := ["self", "parts", "boxes", "tables"]) fun _ _ _ _ _ _ us hl => match us, hl with | [_, _, _, _], _ => rfl
  have b_plain_run := q_plain_run.fn.binds (ps := ["program", "boxes", "tables"]) fun _ _ _ _ _ _ us hl => match us, hl with | [_, _, _], _ => rfl
  have b_law_alike := q_law_alike.fn.binds (ps := ["found", "due"]) fun _ _ _ _ _ _ us hl => match us, hl with | [_, _], _ => rfl
  have b_law_counted := q_law_counted.fn.binds (ps := ["reel"]) fun _ _ _ _ _ _ us hl => match us, hl with | [_], _ => rfl
  have b_law_within := q_law_within.fn.binds (ps := ["reel"]) fun _ _ _ _ _ _ us hl => match us, hl with | [_], _ => rfl
  have b_law := q_law.fn.binds (ps := ["script"]) fun _ _ _ _ _ _ us hl => match us, hl with | [_], _ => rfl
  have gm_added := q_added.mgA X G
  have gm_do_add := q_do_add.mgA X G
  have gm_do_count := q_do_count.mgA X G
  have gm_do_drop := q_do_drop.mgA X G
  have gm_do_each := q_do_each.mgA X G
  have gm_do_if := q_do_if.mgA X G
  have gm_do_let := q_do_let.mgA X G
  have gm_do_part := q_do_part.mgA X G
  have gm_do_say := q_do_say.mgA X G
  have gm_do_stop := q_do_stop.mgA X G
  have gm_lessened := q_lessened.mgA X G
  have gm_multiplied := q_multiplied.mgA X G
  refine ⟨fd_law, fun s v => ?_, fun base KB GB TB => ?_⟩
  · obtain ⟨oc, od, kV, doc, pm, an, cdv, ct, osl, rfl, lk, hcd⟩ := q_law.fn.ex
    exact .of_eq rfl
  have H_law_reel : ∀ {GI : Hp → Hp → Prop} (LG : LamG GI (tabsM K mksH)) {B : Heap} (sub : ∀ b o, base.get? b = some o → B.get? b = some o), HasG GI l.prog w K mg B (1) "_law_reel" 1 sp_law_reel := by
    intro GI LG B sub
    exact hasG_of X G q_law_reel b_law_reel sc_law_reel rfl (fun ds c E Q h => by repeat (first | (obtain ⟨rfl, _⟩ := h; rfl) | (obtain ⟨_, h⟩ := h))) (fun cdv A outer s H E hr => d_law_reel  hr) (fun ds c E Q h => ok_law_reel  h)
  have H_law_draw : ∀ {GI : Hp → Hp → Prop} (LG : LamG GI (tabsM K mksH)) {B : Heap} (sub : ∀ b o, base.get? b = some o → B.get? b = some o), HasG GI l.prog w K mg B (1) "_law_draw" 2 sp_law_draw := by
    intro GI LG B sub
    exact hasG_of X G q_law_draw b_law_draw sc_law_draw rfl (fun ds c E Q h => by repeat (first | (obtain ⟨rfl, _⟩ := h; rfl) | (obtain ⟨_, h⟩ := h))) (fun cdv A outer s H E hr => d_law_draw m_int m_len hr) (fun ds c E Q h => ok_law_draw  h)
  have H_law_loop : ∀ {GI : Hp → Hp → Prop} (LG : LamG GI (tabsM K mksH)) {B : Heap} (sub : ∀ b o, base.get? b = some o → B.get? b = some o), HasG GI l.prog w K mg B (1) "_law_loop" 2 sp_law_loop := by
    intro GI LG B sub
    exact hasG_of X G q_law_loop b_law_loop sc_law_loop rfl (fun ds c E Q h => by repeat (first | (obtain ⟨rfl, _⟩ := h; rfl) | (obtain ⟨_, h⟩ := h))) (fun cdv A outer s H E hr => d_law_loop m_range hr) (fun ds c E Q h => ok_law_loop  h)
  have H_law_filled : ∀ {GI : Hp → Hp → Prop} (LG : LamG GI (tabsM K mksH)) {B : Heap} (sub : ∀ b o, base.get? b = some o → B.get? b = some o), HasG GI l.prog w K mg B (1) "_law_filled" 3 sp_law_filled := by
    intro GI LG B sub
    exact hasG_of X G q_law_filled b_law_filled sc_law_filled rfl (fun ds c E Q h => by repeat (first | (obtain ⟨rfl, _⟩ := h; rfl) | (obtain ⟨_, h⟩ := h))) (fun cdv A outer s H E hr => d_law_filled m_list m_len m_min m_range m_max hr) (fun ds c E Q h => ok_law_filled  h)
  have H_come_to : ∀ {GI : Hp → Hp → Prop} (LG : LamG GI (tabsM K mksH)) {B : Heap} (sub : ∀ b o, base.get? b = some o → B.get? b = some o), HasG GI l.prog w K mg B (1) "come_to" 1 (sp_come_to K) := by
    intro GI LG B sub
    exact hasG_of X G q_come_to b_come_to sc_come_to rfl (fun ds c E Q h => by repeat (first | (obtain ⟨rfl, _⟩ := h; rfl) | (obtain ⟨_, h⟩ := h))) (fun cdv A outer s H E hr => d_come_to g_MOST_COUNTED k_Going hr) (fun ds c E Q h => ok_come_to  h)
  have H_added : ∀ {GI : Hp → Hp → Prop} (LG : LamG GI (tabsM K mksH)) {B : Heap} (sub : ∀ b o, base.get? b = some o → B.get? b = some o), HasG GI l.prog w K mg B (1) "added" 2 sp_added := by
    intro GI LG B sub
    exact hasG_of X G q_added b_added sc_added rfl (fun ds c E Q h => by repeat (first | (obtain ⟨rfl, _⟩ := h; rfl) | (obtain ⟨_, h⟩ := h))) (fun cdv A outer s H E hr => d_added  hr) (fun ds c E Q h => ok_added  h)
  have H_lessened : ∀ {GI : Hp → Hp → Prop} (LG : LamG GI (tabsM K mksH)) {B : Heap} (sub : ∀ b o, base.get? b = some o → B.get? b = some o), HasG GI l.prog w K mg B (1) "lessened" 2 sp_lessened := by
    intro GI LG B sub
    exact hasG_of X G q_lessened b_lessened sc_lessened rfl (fun ds c E Q h => by repeat (first | (obtain ⟨rfl, _⟩ := h; rfl) | (obtain ⟨_, h⟩ := h))) (fun cdv A outer s H E hr => d_lessened  hr) (fun ds c E Q h => ok_lessened  h)
  have H_multiplied : ∀ {GI : Hp → Hp → Prop} (LG : LamG GI (tabsM K mksH)) {B : Heap} (sub : ∀ b o, base.get? b = some o → B.get? b = some o), HasG GI l.prog w K mg B (1) "multiplied" 2 sp_multiplied := by
    intro GI LG B sub
    exact hasG_of X G q_multiplied b_multiplied sc_multiplied rfl (fun ds c E Q h => by repeat (first | (obtain ⟨rfl, _⟩ := h; rfl) | (obtain ⟨_, h⟩ := h))) (fun cdv A outer s H E hr => d_multiplied  hr) (fun ds c E Q h => ok_multiplied  h)
  have H_number_of : ∀ {GI : Hp → Hp → Prop} (LG : LamG GI (tabsM K mksH)) {B : Heap} (sub : ∀ b o, base.get? b = some o → B.get? b = some o), HasG GI l.prog w K mg B (5) "number_of" 2 (sp_number_of 4) := by
    intro GI LG B sub
    have R : ∀ n, HasG GI l.prog w K mg B (1 + n) "number_of" 2 (sp_number_of n) := by
      intro n
      induction n with
      | zero => exact hasG_void X G q_number_of b_number_of rfl void_number_of
      | succ n ih => exact hasG_of X G q_number_of b_number_of sc_number_of rfl (fun ds c E Q h => by repeat (first | (obtain ⟨rfl, _⟩ := h; rfl) | (obtain ⟨_, h⟩ := h))) (fun cdv A outer s H E hr => d_number_of ih ⟨⟨⟨_, ((H_added LG sub).mono (by omega))⟩, gm_added⟩, ⟨⟨⟨_, ((H_lessened LG sub).mono (by omega))⟩, gm_lessened⟩, ⟨⟨⟨_, ((H_multiplied LG sub).mono (by omega))⟩, gm_multiplied⟩, trivial⟩⟩⟩ t_SUMS g_ROUND hr) (fun ds c E Q h => ok_number_of  h)
    exact R 4
  have H_is_so : ∀ {GI : Hp → Hp → Prop} (LG : LamG GI (tabsM K mksH)) {B : Heap} (sub : ∀ b o, base.get? b = some o → B.get? b = some o), HasG GI l.prog w K mg B (6) "is_so" 2 sp_is_so := by
    intro GI LG B sub
    exact hasG_of X G q_is_so b_is_so sc_is_so rfl (fun ds c E Q h => by repeat (first | (obtain ⟨rfl, _⟩ := h; rfl) | (obtain ⟨_, h⟩ := h))) (fun cdv A outer s H E hr => d_is_so ((H_number_of LG sub).mono (by omega)) hr) (fun ds c E Q h => ok_is_so  h)
  have H_do_let : ∀ {GI : Hp → Hp → Prop} (LG : LamG GI (tabsM K mksH)) {B : Heap} (sub : ∀ b o, base.get? b = some o → B.get? b = some o), HasG GI l.prog w K mg B (6) "do_let" 2 (sp_do_let K) := by
    intro GI LG B sub
    exact hasG_of X G q_do_let b_do_let sc_do_let rfl (fun ds c E Q h => by repeat (first | (obtain ⟨rfl, _⟩ := h; rfl) | (obtain ⟨_, h⟩ := h))) (fun cdv A outer s H E hr => d_do_let ((H_number_of LG sub).mono (by omega)) k_Going hr) (fun ds c E Q h => ok_do_let  h)
  have H_do_say : ∀ {GI : Hp → Hp → Prop} (LG : LamG GI (tabsM K mksH)) {B : Heap} (sub : ∀ b o, base.get? b = some o → B.get? b = some o), HasG GI l.prog w K mg B (6) "do_say" 2 (sp_do_say K) := by
    intro GI LG B sub
    exact hasG_of X G q_do_say b_do_say sc_do_say rfl (fun ds c E Q h => by repeat (first | (obtain ⟨rfl, _⟩ := h; rfl) | (obtain ⟨_, h⟩ := h))) (fun cdv A outer s H E hr => d_do_say ((H_number_of LG sub).mono (by omega)) k_Going hr) (fun ds c E Q h => ok_do_say  h)
  have H_do_add : ∀ {GI : Hp → Hp → Prop} (LG : LamG GI (tabsM K mksH)) {B : Heap} (sub : ∀ b o, base.get? b = some o → B.get? b = some o), HasG GI l.prog w K mg B (6) "do_add" 2 (sp_do_add K) := by
    intro GI LG B sub
    exact hasG_of X G q_do_add b_do_add sc_do_add rfl (fun ds c E Q h => by repeat (first | (obtain ⟨rfl, _⟩ := h; rfl) | (obtain ⟨_, h⟩ := h))) (fun cdv A outer s H E hr => d_do_add ((H_number_of LG sub).mono (by omega)) k_Going hr) (fun ds c E Q h => ok_do_add  h)
  have H_do_drop : ∀ {GI : Hp → Hp → Prop} (LG : LamG GI (tabsM K mksH)) {B : Heap} (sub : ∀ b o, base.get? b = some o → B.get? b = some o), HasG GI l.prog w K mg B (6) "do_drop" 2 (sp_do_drop K) := by
    intro GI LG B sub
    exact hasG_of X G q_do_drop b_do_drop sc_do_drop rfl (fun ds c E Q h => by repeat (first | (obtain ⟨rfl, _⟩ := h; rfl) | (obtain ⟨_, h⟩ := h))) (fun cdv A outer s H E hr => d_do_drop ((H_number_of LG sub).mono (by omega)) k_Going hr) (fun ds c E Q h => ok_do_drop  h)
  have H_do_count : ∀ {GI : Hp → Hp → Prop} (LG : LamG GI (tabsM K mksH)) {B : Heap} (sub : ∀ b o, base.get? b = some o → B.get? b = some o), HasG GI l.prog w K mg B (1) "do_count" 2 (sp_do_count K) := by
    intro GI LG B sub
    exact hasG_of X G q_do_count b_do_count sc_do_count rfl (fun ds c E Q h => by repeat (first | (obtain ⟨rfl, _⟩ := h; rfl) | (obtain ⟨_, h⟩ := h))) (fun cdv A outer s H E hr => d_do_count m_len g_ROUND k_Going hr) (fun ds c E Q h => ok_do_count  h)
  have H_do_stop : ∀ {GI : Hp → Hp → Prop} (LG : LamG GI (tabsM K mksH)) {B : Heap} (sub : ∀ b o, base.get? b = some o → B.get? b = some o), HasG GI l.prog w K mg B (1) "do_stop" 2 (sp_do_stop K) := by
    intro GI LG B sub
    exact hasG_of X G q_do_stop b_do_stop sc_do_stop rfl (fun ds c E Q h => by repeat (first | (obtain ⟨rfl, _⟩ := h; rfl) | (obtain ⟨_, h⟩ := h))) (fun cdv A outer s H E hr => d_do_stop k_Going hr) (fun ds c E Q h => ok_do_stop  h)
  have R_do_rows : ∀ {GI : Hp → Hp → Prop} (LG : LamG GI (tabsM K mksH)) {B : Heap} (sub : ∀ b o, base.get? b = some o → B.get? b = some o) (n : Nat), HasG GI l.prog w K mg B (6 + n) "do_rows" 2 (sp_do_rows K n) ∧ HasG GI l.prog w K mg B (6 + n) "do_while" 2 (sp_do_while K n) ∧ HasG GI l.prog w K mg B (6 + n) "do_if" 2 (sp_do_if K n) ∧ HasG GI l.prog w K mg B (6 + n) "do_each" 2 (sp_do_each K n) ∧ HasG GI l.prog w K mg B (6 + n) "do_part" 2 (sp_do_part K n) := by
    intro GI LG B sub n
    induction n with
    | zero => exact ⟨hasG_void X G q_do_rows b_do_rows rfl void_do_rows, hasG_void X G q_do_while b_do_while rfl void_do_while, hasG_void X G q_do_if b_do_if rfl void_do_if, hasG_void X G q_do_each b_do_each rfl void_do_each, hasG_void X G q_do_part b_do_part rfl void_do_part⟩
    | succ n ih => exact ⟨hasG_of (k := 6 + n) X G q_do_rows b_do_rows sc_do_rows rfl (fun ds c E Q h => by repeat (first | (obtain ⟨rfl, _⟩ := h; rfl) | (obtain ⟨_, h⟩ := h))) (fun cdv A outer s H E hr => d_do_rows ((ih.2.1).mono (by omega)) ((H_come_to LG sub).mono (by omega)) ⟨⟨⟨_, ((H_do_let LG sub).mono (by omega))⟩, gm_do_let⟩, ⟨⟨⟨_, ((H_do_say LG sub).mono (by omega))⟩, gm_do_say⟩, ⟨⟨⟨_, ((H_do_add LG sub).mono (by omega))⟩, gm_do_add⟩, ⟨⟨⟨_, ((H_do_drop LG sub).mono (by omega))⟩, gm_do_drop⟩, ⟨⟨⟨_, ((H_do_count LG sub).mono (by omega))⟩, gm_do_count⟩, ⟨⟨⟨_, ((ih.2.2.1).mono (by omega))⟩, gm_do_if⟩, ⟨⟨⟨_, ((ih.2.2.2.1).mono (by omega))⟩, gm_do_each⟩, ⟨⟨⟨_, ((ih.2.2.2.2).mono (by omega))⟩, gm_do_part⟩, ⟨⟨⟨_, ((H_do_stop LG sub).mono (by omega))⟩, gm_do_stop⟩, trivial⟩⟩⟩⟩⟩⟩⟩⟩⟩ t_DEEDS k_Going hr) (fun ds c E Q h => ok_do_rows  h), hasG_of (k := 6 + n) X G q_do_while b_do_while sc_do_while rfl (fun ds c E Q h => by repeat (first | (obtain ⟨rfl, _⟩ := h; rfl) | (obtain ⟨_, h⟩ := h))) (fun cdv A outer s H E hr => d_do_while ((H_come_to LG sub).mono (by omega)) ((H_is_so LG sub).mono (by omega)) ((ih.1).mono (by omega)) k_Going hr) (fun ds c E Q h => ok_do_while  h), hasG_of (k := 6 + n) X G q_do_if b_do_if sc_do_if rfl (fun ds c E Q h => by repeat (first | (obtain ⟨rfl, _⟩ := h; rfl) | (obtain ⟨_, h⟩ := h))) (fun cdv A outer s H E hr => d_do_if ((H_is_so LG sub).mono (by omega)) ((ih.1).mono (by omega)) k_Going hr) (fun ds c E Q h => ok_do_if  h), hasG_of (k := 6 + n) X G q_do_each b_do_each sc_do_each rfl (fun ds c E Q h => by repeat (first | (obtain ⟨rfl, _⟩ := h; rfl) | (obtain ⟨_, h⟩ := h))) (fun cdv A outer s H E hr => d_do_each ((ih.1).mono (by omega)) m_list k_Going hr) (fun ds c E Q h => ok_do_each  h), hasG_of (k := 6 + n) X G q_do_part b_do_part sc_do_part rfl (fun ds c E Q h => by repeat (first | (obtain ⟨rfl, _⟩ := h; rfl) | (obtain ⟨_, h⟩ := h))) (fun cdv A outer s H E hr => d_do_part ((ih.1).mono (by omega)) g_MOST_WITHIN k_Going hr) (fun ds c E Q h => ok_do_part  h)⟩
  have H_do_rows : ∀ {GI : Hp → Hp → Prop} (LG : LamG GI (tabsM K mksH)) {B : Heap} (sub : ∀ b o, base.get? b = some o → B.get? b = some o), HasG GI l.prog w K mg B 221 "do_rows" 2 (sp_do_rows K 215) := fun {GI} LG {B} sub => (R_do_rows LG sub 215).1
  have H_do_while : ∀ {GI : Hp → Hp → Prop} (LG : LamG GI (tabsM K mksH)) {B : Heap} (sub : ∀ b o, base.get? b = some o → B.get? b = some o), HasG GI l.prog w K mg B 221 "do_while" 2 (sp_do_while K 215) := fun {GI} LG {B} sub => (R_do_rows LG sub 215).2.1
  have H_do_if : ∀ {GI : Hp → Hp → Prop} (LG : LamG GI (tabsM K mksH)) {B : Heap} (sub : ∀ b o, base.get? b = some o → B.get? b = some o), HasG GI l.prog w K mg B 221 "do_if" 2 (sp_do_if K 215) := fun {GI} LG {B} sub => (R_do_rows LG sub 215).2.2.1
  have H_do_each : ∀ {GI : Hp → Hp → Prop} (LG : LamG GI (tabsM K mksH)) {B : Heap} (sub : ∀ b o, base.get? b = some o → B.get? b = some o), HasG GI l.prog w K mg B 221 "do_each" 2 (sp_do_each K 215) := fun {GI} LG {B} sub => (R_do_rows LG sub 215).2.2.2.1
  have H_do_part : ∀ {GI : Hp → Hp → Prop} (LG : LamG GI (tabsM K mksH)) {B : Heap} (sub : ∀ b o, base.get? b = some o → B.get? b = some o), HasG GI l.prog w K mg B 221 "do_part" 2 (sp_do_part K 215) := fun {GI} LG {B} sub => (R_do_rows LG sub 215).2.2.2.2
  have H_boxes_told : ∀ {GI : Hp → Hp → Prop} (LG : LamG GI (tabsM K mksH)) {B : Heap} (sub : ∀ b o, base.get? b = some o → B.get? b = some o), HasG GI l.prog w K mg B (1) "boxes_told" 1 sp_boxes_told := by
    intro GI LG B sub
    exact hasG_of X G q_boxes_told b_boxes_told sc_boxes_told rfl (fun ds c E Q h => by repeat (first | (obtain ⟨rfl, _⟩ := h; rfl) | (obtain ⟨_, h⟩ := h))) (fun cdv A outer s H E hr => d_boxes_told m_sorted hr) (fun ds c E Q h => ok_boxes_told  h)
  have H_tables_told : ∀ {GI : Hp → Hp → Prop} (LG : LamG GI (tabsM K mksH)) {B : Heap} (sub : ∀ b o, base.get? b = some o → B.get? b = some o), HasG GI l.prog w K mg B (1) "tables_told" 1 sp_tables_told := by
    intro GI LG B sub
    exact hasG_of X G q_tables_told b_tables_told sc_tables_told rfl (fun ds c E Q h => by repeat (first | (obtain ⟨rfl, _⟩ := h; rfl) | (obtain ⟨_, h⟩ := h))) (fun cdv A outer s H E hr => d_tables_told m_sorted hr) (fun ds c E Q h => ok_tables_told  h)
  have MK_Going : ∀ {GI : Hp → Hp → Prop} (LG : LamG GI (tabsM K mksH)) {B : Heap} (sub : ∀ b o, base.get? b = some o → B.get? b = some o), MkD GI l.prog w K mg B 1 "Going" 4 (sp_Going_init K) := by
    intro GI LG B sub
    exact mkD_of k_Going.g mkr_Going q_Going_init b_Going_init sc_Going_init rfl (fun ds c E Q h => by repeat (first | (obtain ⟨rfl, _⟩ := h; rfl) | (obtain ⟨_, h⟩ := h))) (fun cdv A outer s H E hr => d_Going_init m_dict m_list k_Going hr) (fun ds c E Q h => ok_Going_init  h)
  have H_plain_run : ∀ {GI : Hp → Hp → Prop} (LG : LamG GI (tabsM K mksH)) {B : Heap} (sub : ∀ b o, base.get? b = some o → B.get? b = some o), HasG GI l.prog w K mg B (222) "plain_run" 3 (sp_plain_run K) := by
    intro GI LG B sub
    exact hasG_of X G q_plain_run b_plain_run sc_plain_run rfl (fun ds c E Q h => by repeat (first | (obtain ⟨rfl, _⟩ := h; rfl) | (obtain ⟨_, h⟩ := h))) (fun cdv A outer s H E hr => d_plain_run ((H_do_rows LG sub).mono (by omega)) ((H_boxes_told LG sub).mono (by omega)) ((H_tables_told LG sub).mono (by omega)) k_Going (MK_Going LG sub) (by omega) hr) (fun ds c E Q h => ok_plain_run  h)
  have H_law_alike : ∀ {GI : Hp → Hp → Prop} (LG : LamG GI (tabsM K mksH)) {B : Heap} (sub : ∀ b o, base.get? b = some o → B.get? b = some o), HasG GI l.prog w K mg B (8) "_law_alike" 2 (sp_law_alike 8) := by
    intro GI LG B sub
    have R : ∀ n, HasG GI l.prog w K mg B (0 + n) "_law_alike" 2 (sp_law_alike n) := by
      intro n
      induction n with
      | zero => exact hasG_void X G q_law_alike b_law_alike rfl void_law_alike
      | succ n ih => exact hasG_of X G q_law_alike b_law_alike sc_law_alike rfl (fun ds c E Q h => by repeat (first | (obtain ⟨rfl, _⟩ := h; rfl) | (obtain ⟨_, h⟩ := h))) (fun cdv A outer s H E hr => d_law_alike ih m_tuple m_isinstance m_list m_len m_zip m_all m_bool m_str m_int hr) (fun ds c E Q h => ok_law_alike  h)
    exact R 8
  have H_law_counted : ∀ {GI : Hp → Hp → Prop} (LG : LamG GI (tabsM K mksH)) {B : Heap} (sub : ∀ b o, base.get? b = some o → B.get? b = some o), HasG GI l.prog w K mg B (223) "_law_counted" 1 (sp_law_counted K) := by
    intro GI LG B sub
    exact hasG_of X G q_law_counted b_law_counted sc_law_counted rfl (fun ds c E Q h => by repeat (first | (obtain ⟨rfl, _⟩ := h; rfl) | (obtain ⟨_, h⟩ := h))) (fun cdv A outer s H E hr => d_law_counted ((H_law_draw LG sub).mono (by omega)) ((H_law_loop LG sub).mono (by omega)) ((H_law_filled LG sub).mono (by omega)) ((H_plain_run LG sub).mono (by omega)) ((H_law_alike LG sub).mono (by omega)) m_int m_len m_min hr) (fun ds c E Q h => ok_law_counted  h)
  have H_law_within : ∀ {GI : Hp → Hp → Prop} (LG : LamG GI (tabsM K mksH)) {B : Heap} (sub : ∀ b o, base.get? b = some o → B.get? b = some o), HasG GI l.prog w K mg B (223) "_law_within" 1 (sp_law_within K) := by
    intro GI LG B sub
    exact hasG_of X G q_law_within b_law_within sc_law_within rfl (fun ds c E Q h => by repeat (first | (obtain ⟨rfl, _⟩ := h; rfl) | (obtain ⟨_, h⟩ := h))) (fun cdv A outer s H E hr => d_law_within ((H_law_draw LG sub).mono (by omega)) ((H_plain_run LG sub).mono (by omega)) ((H_law_alike LG sub).mono (by omega)) m_len m_set m_range hr) (fun ds c E Q h => ok_law_within  h)
  have LG := lamG_git (tabsM K mksH)
  have sub : ∀ b o, base.get? b = some o → base.get? b = some o := fun _ _ h => h
  exact fnok_of q_law.fn sc_law (fun ds c E Q h => by repeat (first | (obtain ⟨rfl, _⟩ := h; rfl) | (obtain ⟨_, h⟩ := h))) (fun cdv A outer s H E hr => d_law ((H_law_reel LG sub).mono (by omega)) ((H_law_counted LG sub).mono (by omega)) ((H_law_within LG sub).mono (by omega)) m_len m_min m_range hr) (fun ds c E Q h => ok_law  h)
end DL
open PySem PySem.W PyProof.Rows
set_option maxRecDepth 100000 in
set_option maxHeartbeats 0 in
theorem PySem.Challenge.cw_manyfaces_k24_just_three_hundred_holds : PySem.Challenge.rw_manyfaces_k24_just_three_hundred.Holds := by
  w_on; o_law
  refine HandSHeadRun.head_any (r := PySem.W.OpenLaw.row PySem.Challenge.rw_manyfaces_k24_just_three_hundred) (q := PySem.W.view (PySem.W.OpenLaw.row PySem.Challenge.rw_manyfaces_k24_just_three_hundred).prog [35]) (H := DL.hkH) (ob := DL.obH) (M := 4000) (loose := DL.looseH) (d := HandSHeadRun.topDef (PySem.W.OpenLaw.row PySem.Challenge.rw_manyfaces_k24_just_three_hundred).prog 35) (kwd := []) DL.obH_eq
    (by kernel_rfl) (fun s => by kernel_rfl) DL.runH (by kernel_rfl) (by kernel_rfl) (by kernel_rfl) (by rfl) (by first | assumption | decide +kernel) (by decide +kernel) ⟨rfl, rfl, rfl, rfl, rfl, by decide +kernel⟩ ?hw ?hc
  case hw => w_witness2
  case hc =>
    refine LamX.walk_ofTsE (l := PySem.Challenge.rw_manyfaces_k24_just_three_hundred) (n := 63) (k := 224) (x := "script") (CX := fun w => L2.CX PySem.Challenge.rw_manyfaces_k24_just_three_hundred.prog w) rfl (by decide) (by kernel_rfl) ⟨rfl, by decide, by decide⟩ ?F (fun _ _ _ _ _ h => DL.cx_none h)
    intro w mg fa h Y G hmg0
    obtain ⟨K, KX, c⟩ := Y
    have hmg : mg ("law" : PySem.Str) = some (.ref fa) := by
      have e : (HandSHeadRun.topDef (PySem.W.OpenLaw.row PySem.Challenge.rw_manyfaces_k24_just_three_hundred).prog 35).name = ("law" : PySem.Str) := by kernel_rfl
      rw [← e]
      exact hmg0
    obtain ⟨fd, hb, hF⟩ := DL.link (l := PySem.Challenge.rw_manyfaces_k24_just_three_hundred) (w := w) KX G hmg (DL.exH_ok c.more).1 (DL.methAt_of c.t.d 23 rfl) (DL.defAt_of c.t.d 0 0 rfl rfl) (DL.defAt_of c.t.d 1 1 rfl rfl) (DL.defAt_of c.t.d 2 2 rfl rfl) (DL.defAt_of c.t.d 3 3 rfl rfl) (DL.defAt_of c.t.d 4 4 rfl rfl) (DL.defAt_of c.t.d 5 5 rfl rfl) (DL.defAt_of c.t.d 6 6 rfl rfl) (DL.defAt_of c.t.d 7 7 rfl rfl) (DL.defAt_of c.t.d 8 8 rfl rfl) (DL.defAt_of c.t.d 9 9 rfl rfl) (DL.defAt_of c.t.d 10 10 rfl rfl) (DL.defAt_of c.t.d 11 11 rfl rfl) (DL.defAt_of c.t.d 12 12 rfl rfl) (DL.defAt_of c.t.d 13 13 rfl rfl) (DL.defAt_of c.t.d 14 14 rfl rfl) (DL.defAt_of c.t.d 15 15 rfl rfl) (DL.defAt_of c.t.d 16 16 rfl rfl) (DL.defAt_of c.t.d 17 17 rfl rfl) (DL.defAt_of c.t.d 18 18 rfl rfl) (DL.defAt_of c.t.d 19 19 rfl rfl) (DL.defAt_of c.t.d 20 20 rfl rfl) (DL.defAt_of c.t.d 21 21 rfl rfl) (DL.defAt_of c.t.d 22 22 rfl rfl) (DL.defAt_of c.t.d 24 24 rfl rfl) (DL.defAt_of c.t.d 25 25 rfl rfl) (DL.defAt_of c.t.d 26 26 rfl rfl) (DL.defAt_of c.t.d 27 27 rfl rfl) (DL.defAt_of c.t.d 28 28 rfl rfl) (DL.free_of c.t.d 29 rfl) (DL.free_of c.t.d 30 rfl) (DL.free_of c.t.d 31 rfl) (DL.free_of c.t.d 32 rfl) (DL.free_of c.t.d 33 rfl) (DL.free_of c.t.d 34 rfl) (DL.free_of c.t.d 35 rfl) (DL.free_of c.t.d 36 rfl) (DL.free_of c.t.d 37 rfl) (DL.free_of c.t.d 38 rfl) (DL.free_of c.t.d 39 rfl) (DL.free_of c.t.d 40 rfl) (DL.free_of c.t.d 41 rfl) (DL.free_of c.t.d 42 rfl) (DL.free_of c.t.d 43 rfl) (DL.glD_int KX c.t.d 44 rfl) (DL.glD_int KX c.t.d 45 rfl) (DL.glD_int KX c.t.d 46 rfl) (DL.tabD_of KX c.t.d 47 rfl (c.t.tab 0 rfl) (DL.exH_ok c.more).2.1) (DL.tabD_of KX c.t.d 48 rfl (c.t.tab 1 rfl) (DL.exH_ok c.more).2.2.1) (DL.clsD_of KX c.t.d 49 rfl (DL.exH_ok c.more).2.2.2.1) (He.mkr_ok (DL.exH_ok c.more).2.2.2.2)
    exact ⟨K, KX, fd, DL.csM K DL.mksH, DL.lowSp K (DL.GIT (DL.tabsM K DL.mksH)) DL.sp_law, DL.emptyM c.empty, DL.outM c.out, DL.codeM KX c.hd, hb, fun H a ns hl _ hT hS => DL.law_spT (DL.tblM hT) hl hS, fun base KB GB TB => hF base KB GB TB⟩
