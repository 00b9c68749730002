import PyProof.Rows.All
import Wide.All
import OpenK.AllK
import Wide.FinOn
import HandS.ForMost
import HandS.ForExc
import HandS.Wide
import HandS.Property
import HandS.TupAny
import HandS.NoneIn
import HandS.IsInst
import HandS.SortInts
import HandS.Zip
import HandS.Style
import HandS.Flow
import PyProof.MaxThree
import HandS.DictTup
import HandS.TupMul
import KE.KDictDisplayH
import KE.SortData
import HandS.SetFor
import HandS.Strs
import HandS.Defaults
import HandS.Ends
import HandS.More
import HandS.Words
import HandS.WordsExc
import HandS.Head0
import HandS.Head1
import HandS.Head2
import HandS.HeadEnd
import HandS.HeadHook1
import HandS.HeadHook2
import HandS.HeadHook3
import HandS.HeadHook4
import PySem.Challenge.RW_mostpulled_k55_whole_no_plan_is_shorter
set_option Elab.async false
set_option linter.all false
set_option maxRecDepth 100000
set_option maxHeartbeats 1000000
/-! A layer of data over the hand layer: values as trees (D), a store of what changes (Mh), readings over them. -/
namespace DL
open PySem L2

inductive D where
  | non | bl (b : Bool) | int (i : Int) | str (x : Str) | ty (n : String) | adr (a : Addr)
  | tup (xs : List D) | ktp (xs : List D) | lst (xs : List D) | flst (xs : List D) | ins (C : Addr) (fs : List (Str × D))
  | dK (kvs : List (Key × D)) | dT (kvs : List (List Key × D))

mutual
inductive Rep (K : PySem.W.Frag) (F : Hp) : V → D → Prop
  | non : Rep K F .non .non
  | bl (b : Bool) : Rep K F (.bl b) (.bl b)
  | int (i : Int) : Rep K F (.int i) (.int i)
  | str (x : Str) : Rep K F (.str x) (.str x)
  | ty (n : String) : Rep K F (.ty n) (.ty n)
  | adr (a : Addr) : Rep K F (.ref a) (.adr a)
  | tup {a : Addr} {xs : List V} {ds : List D} : F a = some (.tup xs) → Reps K F xs ds → Rep K F (.ref a) (.tup ds)
  | ktp {a : Addr} {xs : List V} {ds : List D} : SqT K F a xs → Reps K F xs ds → Rep K F (.ref a) (.ktp ds)
  | lst {a : Addr} {xs : List V} {ds : List D} : F a = some (.lst xs) → Reps K F xs ds → Rep K F (.ref a) (.lst ds)
  | flst {a : Addr} {xs : List V} {ds : List D} : SqL K F a xs → Reps K F xs ds → Rep K F (.ref a) (.flst ds)
  | ins {a C dx : Addr} {ws : List (Str × V)} {fs : List (Str × D)} : F a = some (.ins C dx ws) → ws.map (·.1) = fs.map (·.1) → Reps K F (ws.map (·.2)) (fs.map (·.2)) → Rep K F (.ref a) (.ins C fs)
  | dK {a : Addr} {ws : List (Key × V)} {kvs : List (Key × D)} : F a = some (.dK ws) → ws.map (·.1) = kvs.map (·.1) → Reps K F (ws.map (·.2)) (kvs.map (·.2)) → Rep K F (.ref a) (.dK kvs)
  | dT {a : Addr} {ws : List (List Key × V)} {kvs : List (List Key × D)} : F a = some (.dT ws) → ws.map (·.1) = kvs.map (·.1) → Reps K F (ws.map (·.2)) (kvs.map (·.2)) → Rep K F (.ref a) (.dT kvs)
inductive Reps (K : PySem.W.Frag) (F : Hp) : List V → List D → Prop
  | nil : Reps K F [] []
  | cons {v : V} {vs : List V} {d : D} {ds : List D} : Rep K F v d → Reps K F vs ds → Reps K F (v :: vs) (d :: ds)
end

theorem sqt_mono {K : PySem.W.Frag} {F F' : Hp} {a : Addr} {xs : List V} (e : Same F F') (h : SqT K F a xs) : SqT K F' a xs := by
  rcases h with (h | ⟨o, h⟩) | h
  · exact .inl (.inl (e _ _ h))
  · exact .inl (.inr ⟨o, e _ _ h⟩)
  · exact .inr h

theorem sql_mono {K : PySem.W.Frag} {F F' : Hp} {a : Addr} {xs : List V} (e : Same F F') : SqL K F a xs → SqL K F' a xs
  | .inl (.inl h) => .inl (.inl (e a _ h))
  | .inl (.inr ⟨o, h⟩) => .inl (.inr ⟨o, e a _ h⟩)
  | .inr h => .inr h
mutual
theorem Rep.mono {K : PySem.W.Frag} {F F' : Hp} (e : Same F F') : ∀ {v : V} {d : D}, Rep K F v d → Rep K F' v d
  | _, _, .non => .non
  | _, _, .bl b => .bl b
  | _, _, .int i => .int i
  | _, _, .str x => .str x
  | _, _, .ty n => .ty n
  | _, _, .adr a => .adr a
  | _, _, .tup h r => .tup (e _ _ h) (Reps.mono e r)
  | _, _, .ktp h r => .ktp (sqt_mono e h) (Reps.mono e r)
  | _, _, .lst h r => .lst (e _ _ h) (Reps.mono e r)
  | _, _, .flst h r => .flst (sql_mono e h) (Reps.mono e r)
  | _, _, .ins h k r => .ins (e _ _ h) k (Reps.mono e r)
  | _, _, .dK h k r => .dK (e _ _ h) k (Reps.mono e r)
  | _, _, .dT h k r => .dT (e _ _ h) k (Reps.mono e r)
theorem Reps.mono {K : PySem.W.Frag} {F F' : Hp} (e : Same F F') : ∀ {vs : List V} {ds : List D}, Reps K F vs ds → Reps K F' vs ds
  | _, _, .nil => .nil
  | _, _, .cons h t => .cons (Rep.mono e h) (Reps.mono e t)
end

section
variable {K : PySem.W.Frag} {F F' : Hp}
theorem Reps.length : ∀ {vs : List V} {ds : List D}, Reps K F vs ds → vs.length = ds.length
  | _, _, .nil => rfl
  | _, _, .cons _ t => by rw [List.length_cons, List.length_cons, Reps.length t]
theorem Reps.get : ∀ {vs : List V} {ds : List D} {i : Nat} {d : D}, Reps K F vs ds → ds[i]? = some d → ∃ v, vs[i]? = some v ∧ Rep K F v d
  | _, _, _, _, .nil, e => by simp at e
  | _, _, 0, _, .cons r _, e => by simp at e; subst e; exact ⟨_, rfl, r⟩
  | _, _, i + 1, d, .cons _ t, e => by
    obtain ⟨u, h1, h2⟩ := Reps.get (i := i) (d := d) t (by simpa using e)
    exact ⟨u, by simpa using h1, h2⟩
theorem Reps.getV : ∀ {vs : List V} {ds : List D} {i : Nat} {v : V}, Reps K F vs ds → vs[i]? = some v → ∃ d, ds[i]? = some d ∧ Rep K F v d
  | _, _, _, _, .nil, e => by simp at e
  | _, _, 0, _, .cons r _, e => by simp at e; subst e; exact ⟨_, rfl, r⟩
  | _, _, i + 1, d, .cons _ t, e => by
    obtain ⟨u, h1, h2⟩ := Reps.getV (i := i) (v := d) t (by simpa using e)
    exact ⟨u, by simpa using h1, h2⟩
theorem Reps.set {v : V} {d : D} (r : Rep K F v d) : ∀ {vs : List V} {ds : List D} (i : Nat), Reps K F vs ds → Reps K F (vs.set i v) (ds.set i d)
  | _, _, _, .nil => .nil
  | _, _, 0, .cons _ t => .cons r t
  | _, _, i + 1, .cons q t => .cons q (Reps.set r i t)
theorem Reps.append : ∀ {vs ws : List V} {ds es : List D}, Reps K F vs ds → Reps K F ws es → Reps K F (vs ++ ws) (ds ++ es)
  | _, _, _, _, .nil, s => s
  | _, _, _, _, .cons r t, s => .cons r (Reps.append t s)
theorem Reps.take : ∀ {vs : List V} {ds : List D} (n : Nat), Reps K F vs ds → Reps K F (vs.take n) (ds.take n)
  | _, _, 0, _ => .nil
  | _, _, _ + 1, .nil => .nil
  | _, _, n + 1, .cons r t => .cons r (Reps.take n t)
theorem Reps.drop : ∀ {vs : List V} {ds : List D} (n : Nat), Reps K F vs ds → Reps K F (vs.drop n) (ds.drop n)
  | _, _, 0, r => r
  | _, _, _ + 1, .nil => .nil
  | _, _, n + 1, .cons _ t => Reps.drop n t
theorem Reps.ints : ∀ {vs : List V} {ns : List Int}, Reps K F vs (ns.map D.int) → vs = ns.map V.int
  | _, [], .nil => rfl
  | _, _ :: _, .cons (.int _) t => by rw [List.map_cons, Reps.ints t]
theorem Reps.of_ints : ∀ (ns : List Int), Reps K F (ns.map V.int) (ns.map D.int)
  | [] => .nil
  | n :: ns => .cons (.int n) (Reps.of_ints ns)
theorem Reps.bls : ∀ {vs : List V} {ns : List Bool}, Reps K F vs (ns.map D.bl) → vs = ns.map V.bl
  | _, [], .nil => rfl
  | _, _ :: _, .cons (.bl _) t => by rw [List.map_cons, Reps.bls t]
theorem Reps.strs : ∀ {vs : List V} {ns : List Str}, Reps K F vs (ns.map D.str) → vs = ns.map V.str
  | _, [], .nil => rfl
  | _, _ :: _, .cons (.str _) t => by rw [List.map_cons, Reps.strs t]
theorem Reps.of_strs : ∀ (ns : List Str), Reps K F (ns.map V.str) (ns.map D.str)
  | [] => .nil
  | n :: ns => .cons (.str n) (Reps.of_strs ns)
end

/-! ### what changes -/
inductive MO where
  | lst (ds : List D) | dK (kvs : List (Key × D)) | dT (kvs : List (List Key × D)) | ins (C : Addr) (fs : List (Str × D))
abbrev Mh := Addr → Option MO
def mset (M : Mh) (a : Addr) (o : MO) : Mh := fun b => if b = a then some o else M b
def mdel (M : Mh) (a : Addr) : Mh := fun b => if b = a then none else M b
theorem mset_same {M : Mh} {a : Addr} {o : MO} : mset M a o a = some o := if_pos rfl
theorem mset_ne {M : Mh} {a b : Addr} {o : MO} (h : b ≠ a) : mset M a o b = M b := if_neg h
theorem mset_mset {M : Mh} {a : Addr} {o u : MO} : mset (mset M a o) a u = mset M a u := by
  funext b; unfold mset; split <;> rfl
theorem mdel_same {M : Mh} {a : Addr} : mdel M a a = none := if_pos rfl
theorem mdel_ne {M : Mh} {a b : Addr} (h : b ≠ a) : mdel M a b = M b := if_neg h
theorem mdel_mset {M : Mh} {a : Addr} {o : MO} (h : M a = none) : mdel (mset M a o) a = M := by
  funext b; unfold mdel mset; split
  · rename_i e; rw [e, h]
  · rfl
def RepO (K : PySem.W.Frag) (F : Hp) : MO → HO → Prop
  | .lst ds, .lst vs => Reps K F vs ds
  | .dK kvs, .dK ws => ws.map (·.1) = kvs.map (·.1) ∧ Reps K F (ws.map (·.2)) (kvs.map (·.2))
  | .dT kvs, .dT ws => ws.map (·.1) = kvs.map (·.1) ∧ Reps K F (ws.map (·.2)) (kvs.map (·.2))
  | .ins C fs, .ins C' _ ws => C' = C ∧ ws.map (·.1) = fs.map (·.1) ∧ Reps K F (ws.map (·.2)) (fs.map (·.2))
  | _, _ => False
theorem RepO.mono {K : PySem.W.Frag} {F F' : Hp} (e : Same F F') : ∀ {o : MO} {h : HO}, RepO K F o h → RepO K F' o h := by
  intro o h r
  cases o <;> cases h <;> first | exact r.elim | exact Reps.mono e r | exact ⟨r.1, Reps.mono e r.2⟩ | exact ⟨r.1, r.2.1, Reps.mono e r.2.2⟩

/-- a world: F what stands still, M what may change, H the heap of both (and of what others hold) -/
structure Wl (K : PySem.W.Frag) (F : Hp) (M : Mh) (H : Hp) : Prop where
  sub : Same F H
  mu : ∀ a o, M a = some o → F a = none ∧ ∃ h, H a = some h ∧ RepO K F o h
structure Gr (F : Hp) (M : Mh) (H F' : Hp) (M' : Mh) (H' : Hp) : Prop where
  fr : Same F F'
  fz : ∀ a o, H a = some o → F a = none → M a = none → H' a = some o ∧ F' a = none ∧ M' a = none
  dm : ∀ a, H' a = none → H a = none
theorem Gr.refl (F : Hp) (M : Mh) (H : Hp) : Gr F M H F M H := ⟨Same.refl F, fun _ _ h f m => ⟨h, f, m⟩, fun _ h => h⟩
theorem Gr.trans {F F1 F2 H H1 H2 : Hp} {M M1 M2 : Mh} (a : Gr F M H F1 M1 H1) (b : Gr F1 M1 H1 F2 M2 H2) : Gr F M H F2 M2 H2 :=
  ⟨a.fr.trans b.fr, fun x o h f m => let ⟨p, q, r⟩ := a.fz x o h f m; b.fz x o p q r, fun x h => a.dm x (b.dm x h)⟩

section
variable {K : PySem.W.Frag} {F H : Hp} {M : Mh} {p : Addr} {o : HO}
theorem Wl.freeF (w : Wl K F M H) (h : H p = none) : F p = none := w.sub.free h
theorem Wl.freeM (w : Wl K F M H) (h : H p = none) : M p = none := by
  cases e : M p with
  | none => rfl
  | some o =>
    obtain ⟨_, u, hu, _⟩ := w.mu p o e
    rw [h] at hu; cases hu
theorem same_new {H : Hp} (h : H p = none) : Same H (upd H p o) := fun a u e => by
  rw [upd_ne (ne_of_none e h)]; exact e
theorem same_upd {F H : Hp} (s : Same F H) : Same (upd F p o) (upd H p o) := fun a u e => by
  by_cases q : a = p
  · subst q; rw [upd_same] at e ⊢; exact e
  · rw [upd_ne q] at e ⊢; exact s a u e
theorem Wl.mutF (w : Wl K F M H) {a : Addr} {o : MO} (h : M a = some o) : F a = none := (w.mu a o h).1
/-- a new object that stands still -/
theorem Wl.new (w : Wl K F M H) (h : H p = none) : Wl K (upd F p o) M (upd H p o) := by
  refine ⟨same_upd w.sub, fun a u e => ?_⟩
  obtain ⟨f, v, hv, r⟩ := w.mu a u e
  have q : a ≠ p := ne_of_none hv h
  exact ⟨by rw [upd_ne q]; exact f, v, by rw [upd_ne q]; exact hv, r.mono (same_new (w.freeF h))⟩
theorem Gr.new (w : Wl K F M H) (h : H p = none) : Gr F M H (upd F p o) M (upd H p o) := by
  refine ⟨same_new (w.freeF h), fun a u e f m => ?_, fun a e => ?_⟩
  · have q : a ≠ p := ne_of_none e h
    exact ⟨by rw [upd_ne q]; exact e, by rw [upd_ne q]; exact f, m⟩
  · by_cases q : a = p
    · subst q; exact h
    · rw [upd_ne q] at e; exact e
/-- a new object that may change -/
theorem Wl.newM {u : MO} (w : Wl K F M H) (h : H p = none) (r : RepO K F u o) : Wl K F (mset M p u) (upd H p o) := by
  refine ⟨fun a v e => ?_, fun a v e => ?_⟩
  · rw [upd_ne (ne_of_none (w.sub a v e) h)]; exact w.sub a v e
  · by_cases q : a = p
    · subst q
      rw [mset_same] at e; cases e
      exact ⟨w.freeF h, o, upd_same, r⟩
    · rw [mset_ne q] at e
      obtain ⟨f, x, hx, r'⟩ := w.mu a v e
      exact ⟨f, x, by rw [upd_ne q]; exact hx, r'⟩
theorem Gr.newM {u : MO} (w : Wl K F M H) (h : H p = none) : Gr F M H F (mset M p u) (upd H p o) := by
  refine ⟨Same.refl F, fun a v e f m => ?_, fun a e => ?_⟩
  · have q : a ≠ p := ne_of_none e h
    exact ⟨by rw [upd_ne q]; exact e, f, by rw [mset_ne q]; exact m⟩
  · by_cases q : a = p
    · subst q; exact h
    · rw [upd_ne q] at e; exact e
/-- what may change is changed -/
theorem Wl.set {u u' : MO} (w : Wl K F M H) (h : M p = some u) (r : RepO K F u' o) : Wl K F (mset M p u') (upd H p o) := by
  have hf := w.mutF h
  refine ⟨fun a v e => ?_, fun a v e => ?_⟩
  · have q : a ≠ p := ne_of_none e hf
    rw [upd_ne q]; exact w.sub a v e
  · by_cases q : a = p
    · subst q
      rw [mset_same] at e; cases e
      exact ⟨hf, o, upd_same, r⟩
    · rw [mset_ne q] at e
      obtain ⟨f, x, hx, r'⟩ := w.mu a v e
      exact ⟨f, x, by rw [upd_ne q]; exact hx, r'⟩
theorem Gr.set {u u' : MO} (w : Wl K F M H) (h : M p = some u) : Gr F M H F (mset M p u') (upd H p o) := by
  refine ⟨Same.refl F, fun a v e f m => ?_, fun a e => ?_⟩
  · have q : a ≠ p := fun z => by rw [z, h] at m; cases m
    exact ⟨by rw [upd_ne q]; exact e, f, by rw [mset_ne q]; exact m⟩
  · by_cases q : a = p
    · subst q; rw [upd_same] at e; cases e
    · rw [upd_ne q] at e; exact e
/-- what might change stands still from now on -/
theorem Wl.still {u : MO} (w : Wl K F M H) (h : M p = some u) (hp : H p = some o) : Wl K (upd F p o) (mdel M p) H := by
  have hf := w.mutF h
  refine ⟨fun a v e => ?_, fun a v e => ?_⟩
  · by_cases q : a = p
    · subst q; rw [upd_same] at e; cases e; exact hp
    · rw [upd_ne q] at e; exact w.sub a v e
  · by_cases q : a = p
    · subst q; rw [mdel_same] at e; cases e
    · rw [mdel_ne q] at e
      obtain ⟨f, x, hx, r'⟩ := w.mu a v e
      exact ⟨by rw [upd_ne q]; exact f, x, hx, r'.mono (same_new hf)⟩
theorem Gr.still {u : MO} (w : Wl K F M H) (h : M p = some u) : Gr F M H (upd F p o) (mdel M p) H := by
  refine ⟨same_new (w.mutF h), fun a v e f m => ?_, fun a e => e⟩
  have q : a ≠ p := fun z => by rw [z, h] at m; cases m
  exact ⟨e, by rw [upd_ne q]; exact f, by rw [mdel_ne q]; exact m⟩
/-- what might change is forgotten -/
theorem Wl.forget {M' : Mh} (w : Wl K F M H) (h : ∀ a o, M' a = some o → M a = some o) : Wl K F M' H := ⟨w.sub, fun a o e => w.mu a o (h a o e)⟩
end

/-! ### names -/
abbrev DEnv := List (Option D)
structure Envs (K : PySem.W.Frag) (F : Hp) (σ : L2.St) (δ : DEnv) : Prop where
  len : σ.length = δ.length
  at_ : ∀ (i : Nat) (d : D), δ[i]? = some (some d) → ∃ v, σ[i]? = some (some v) ∧ Rep K F v d
section
variable {K : PySem.W.Frag} {F F' : Hp} {σ : L2.St} {δ : DEnv}
theorem Envs.mono (e : Same F F') (h : Envs K F σ δ) : Envs K F' σ δ := ⟨h.len, fun i d x => let ⟨v, a, b⟩ := h.at_ i d x; ⟨v, a, b.mono e⟩⟩
theorem Envs.set {v : V} {d : D} {i : Nat} (h : Envs K F σ δ) (r : Rep K F v d) : Envs K F (σ.set i (some v)) (δ.set i (some d)) := by
  refine ⟨by rw [List.length_set, List.length_set]; exact h.len, fun j e x => ?_⟩
  by_cases q : i = j
  · subst q
    rw [List.getElem?_set] at x
    rw [if_pos rfl] at x
    split at x
    · rename_i hl
      cases x
      refine ⟨v, ?_, r⟩
      rw [List.getElem?_set, if_pos rfl, if_pos (by rw [h.len]; exact hl)]
    · cases x
  · rw [List.getElem?_set_ne q] at x
    rw [List.getElem?_set_ne q]
    exact h.at_ j e x
theorem Envs.none {i : Nat} (h : Envs K F σ δ) : Envs K F (σ.set i none) (δ.set i none) := by
  refine ⟨by rw [List.length_set, List.length_set]; exact h.len, fun j e x => ?_⟩
  by_cases q : i = j
  · subst q
    rw [List.getElem?_set, if_pos rfl] at x
    split at x <;> cases x
  · rw [List.getElem?_set_ne q] at x
    rw [List.getElem?_set_ne q]
    exact h.at_ j e x
def dwipe (δ : DEnv) : List Nat → DEnv
  | [] => δ
  | v :: vs => (dwipe δ vs).set v Option.none
theorem Envs.wipe (h : Envs K F σ δ) : ∀ vs : List Nat, Envs K F (L2.wipe σ vs) (dwipe δ vs)
  | [] => h
  | v :: vs => (Envs.wipe h vs).none
theorem Envs.start {N : List Str} {vs : List V} {ds : List D} (r : Reps K F vs ds) : Envs K F (L2.start N vs) (ds.map some ++ List.replicate (N.length - ds.length) Option.none) := by
  unfold L2.start
  refine ⟨by rw [List.length_append, List.length_append, List.length_map, List.length_map, List.length_replicate, List.length_replicate, r.length], fun i d x => ?_⟩
  have hi : i < ds.length := by
    by_cases hi : i < ds.length
    · exact hi
    · rw [List.getElem?_append_right (by rw [List.length_map]; omega), List.getElem?_replicate] at x
      split at x <;> cases x
  rw [List.getElem?_append_left (by rw [List.length_map]; exact hi), List.getElem?_map] at x
  cases e : ds[i]? with
  | none => rw [e] at x; cases x
  | some a =>
    rw [e] at x; cases x
    obtain ⟨v, hv, rv⟩ := r.get e
    refine ⟨v, ?_, rv⟩
    rw [List.getElem?_append_left (by rw [List.length_map, r.length]; exact hi), List.getElem?_map, hv]
    rfl
end

/-! ### readings -/
abbrev QD := D → Mh → Prop
abbrev DE := DEnv → Mh → QD → Prop
abbrev DT := DEnv → Mh → (Bool → Mh → Prop) → Prop
abbrev DA := DEnv → Mh → (List D → Mh → Prop) → Prop
structure DEnds where
  nx : DEnv → Mh → Prop
  rt : QD
  bk : DEnv → Mh → Prop := fun _ _ => False
  ct : DEnv → Mh → Prop := fun _ _ => False
abbrev DS := DEnds → DEnv → Mh → Prop
abbrev XQ := Addr → List (Str × D) → Mh → Prop
/-- a call: what stood at its entry, what is wanted of an exception -/
structure Cd where
  K : PySem.W.Frag
  F0 : Hp
  M0 : Mh
  H0 : Hp
  E : XK
  xq : XQ
def XRep (K : PySem.W.Frag) (F H : Hp) (fs : List (Str × D)) (o : Option Addr) : Prop :=
  match fs with
  | [] => True
  | fs => ∃ d ws, o = some d ∧ H d = some (.xd ws) ∧ ws.map (·.1) = fs.map (·.1) ∧ Reps K F (ws.map (·.2)) (fs.map (·.2))
def Cd.XOk (C : Cd) : Prop := ∀ (c : Addr) (fs : List (Str × D)) (F : Hp) (M : Mh) (H : Hp) (o : Option Addr), Wl C.K F M H → Gr C.F0 C.M0 C.H0 F M H → XRep C.K F H fs o → C.xq c fs M → C.E (.ref c) o H

/-- the state of a reading -/
structure At (C : Cd) (F : Hp) (M : Mh) (H : Hp) (σ : L2.St) (δ : DEnv) : Prop where
  w : Wl C.K F M H
  g : Gr C.F0 C.M0 C.H0 F M H
  e : Envs C.K F σ δ
theorem At.step {C : Cd} {F F' H H' : Hp} {M M' : Mh} {σ : L2.St} {δ : DEnv} (a : At C F M H σ δ) (w : Wl C.K F' M' H') (g : Gr F M H F' M' H') : At C F' M' H' σ δ := ⟨w, a.g.trans g, a.e.mono g.fr⟩
def Post (C : Cd) (F : Hp) (M : Mh) (H : Hp) (q : QD) (Q : VK) : Prop := ∀ d v F' M' H', Wl C.K F' M' H' → Gr F M H F' M' H' → Rep C.K F' v d → q d M' → Q v H'
def SdE (C : Cd) (te : TE) (de : DE) : Prop := ∀ δ σ F M H q Q, At C F M H σ δ → de δ M q → Post C F M H q Q → te σ H Q
def SdT (C : Cd) (tt : TT) (dt : DT) : Prop := ∀ δ σ F M H (q : Bool → Mh → Prop) (Q : Bool → Hp → Prop), At C F M H σ δ → dt δ M q → (∀ b F' M' H', Wl C.K F' M' H' → Gr F M H F' M' H' → q b M' → Q b H') → tt σ H Q
def SdA (C : Cd) (ta : TA) (da : DA) : Prop := ∀ δ σ F M H (q : List D → Mh → Prop) (Q : List V → Hp → Prop), At C F M H σ δ → da δ M q → (∀ ds vs F' M' H', Wl C.K F' M' H' → Gr F M H F' M' H' → Reps C.K F' vs ds → q ds M' → Q vs H') → ta σ H Q
structure PostS (C : Cd) (F : Hp) (M : Mh) (H : Hp) (DD : DEnds) (DV : Ends) : Prop where
  nx : ∀ δ σ F' M' H', Wl C.K F' M' H' → Gr F M H F' M' H' → Envs C.K F' σ δ → DD.nx δ M' → DV.nx σ H'
  rt : ∀ d v F' M' H', Wl C.K F' M' H' → Gr F M H F' M' H' → Rep C.K F' v d → DD.rt d M' → DV.rt v H'
  bk : ∀ δ σ F' M' H', Wl C.K F' M' H' → Gr F M H F' M' H' → Envs C.K F' σ δ → DD.bk δ M' → DV.bk σ H'
  ct : ∀ δ σ F' M' H', Wl C.K F' M' H' → Gr F M H F' M' H' → Envs C.K F' σ δ → DD.ct δ M' → DV.ct σ H'
def SdS (C : Cd) (ts : TS) (ds : DS) : Prop := ∀ δ σ F M H DD DV, At C F M H σ δ → ds DD δ M → PostS C F M H DD DV → ts DV σ H
theorem PostS.from {C : Cd} {F F' H H' : Hp} {M M' : Mh} {DD : DEnds} {DV : Ends} (p : PostS C F M H DD DV) (g : Gr F M H F' M' H') : PostS C F' M' H' DD DV :=
  ⟨fun δ σ F2 M2 H2 w g2 => p.nx δ σ F2 M2 H2 w (g.trans g2), fun d v F2 M2 H2 w g2 => p.rt d v F2 M2 H2 w (g.trans g2), fun δ σ F2 M2 H2 w g2 => p.bk δ σ F2 M2 H2 w (g.trans g2), fun δ σ F2 M2 H2 w g2 => p.ct δ σ F2 M2 H2 w (g.trans g2)⟩

structure PD (X : Cx) (C : Cd) (e : Expr) (de : DE) : Prop where
  ex : ∃ te, PE X e te ∧ SdE C te de
structure PDT (X : Cx) (C : Cd) (e : Expr) (dt : DT) : Prop where
  ex : ∃ tt, PT X e tt ∧ SdT C tt dt
structure PDW (X : Cx) (C : Cd) (e : Expr) (dt : DT) : Prop where
  ex : ∃ tt, PW X e tt ∧ SdT C tt dt
structure PDA (X : Cx) (C : Cd) (es : List Expr) (da : DA) : Prop where
  ex : ∃ ta, PA X es ta ∧ SdA C ta da
structure PDS (X : Cx) (C : Cd) (st : Stmt) (ds : DS) : Prop where
  ex : ∃ ts, PS X st ts ∧ SdS C ts ds
structure PDSs (X : Cx) (C : Cd) (st : List Stmt) (ds : DS) : Prop where
  ex : ∃ ts, PSs X st ts ∧ SdS C ts ds
end DL

set_option Elab.async false
set_option linter.all false
set_option maxRecDepth 100000
set_option maxHeartbeats 1000000
namespace DL
open PySem L2 PyProof.Rows

/-! ### values -/
section
variable {X : Cx} {C : Cd}
theorem Wl.okE (w : Wl C.K F M H) {q : QD} {Q : VK} (p : Post C F M H q Q) {d : D} {v : V} (r : Rep C.K F v d) (h : q d M) : Q v H := p d v F M H w (Gr.refl F M H) r h
/-- a new tuple, a new list given back -/
theorem Wl.newE {F H : Hp} {M : Mh} {q : QD} {Q : VK} {o : HO} {l : Addr} {d : D} (w : Wl C.K F M H) (p : Post C F M H q Q) (hl : H l = Option.none) (r : Rep C.K (upd F l o) (.ref l) d) (h : q d M) : Q (.ref l) (upd H l o) :=
  p d _ _ M _ (w.new hl) (Gr.new w hl) r h
theorem Post.from {F F' H H' : Hp} {M M' : Mh} {q : QD} {Q : VK} (p : Post C F M H q Q) (g : Gr F M H F' M' H') : Post C F' M' H' q Q :=
  fun d v F2 M2 H2 w g2 r h => p d v F2 M2 H2 w (g.trans g2) r h
theorem rep_tup {K : PySem.W.Frag} {F : Hp} {l : Addr} {xs : List V} {ds : List D} (f : F l = Option.none) (r : Reps K F xs ds) : Rep K (upd F l (.tup xs)) (.ref l) (.tup ds) := .tup upd_same (r.mono (same_new f))
theorem rep_lst {K : PySem.W.Frag} {F : Hp} {l : Addr} {xs : List V} {ds : List D} (f : F l = Option.none) (r : Reps K F xs ds) : Rep K (upd F l (.lst xs)) (.ref l) (.lst ds) := .lst upd_same (r.mono (same_new f))
end

def dVar (i : Nat) : DE := fun δ M q => match δ[i]? with
  | some (some d) => q d M
  | _ => False
def dC (d : D) : DE := fun _ M q => q d M
section
variable {X : Cx} {C : Cd}
theorem sd_var {i : Nat} : SdE C (tVar i) (dVar i) := fun δ σ F M H q Q a h p => by
  unfold dVar at h
  split at h
  · rename_i d e
    obtain ⟨v, hv, r⟩ := a.e.at_ i d e
    exact ⟨v, hv, a.w.okE p r h⟩
  · exact h.elim
theorem sd_c {v : V} {d : D} (r : ∀ K F, Rep K F v d) : SdE C (tC v) (dC d) := fun δ σ F M H q Q a h p => a.w.okE p (r _ _) h
theorem pd_v (i : Nat) {x : Str} {pos : Pos} (hN : X.N[i]? = some x := by rfl) (hv : Vis X.env.scope x := by first | exact Or.inl rfl | exact Or.inr (Or.inl rfl) | exact Or.inr (Or.inr rfl)) (hd : (x == ("__debug__" : Str)) = false := by decide)
    (hcd : (x == ("__classdict__" : Str)) = false := by decide) : PD X C (.Name x pos) (dVar i) := ⟨_, pe_var hN hv hd hcd, sd_var⟩
theorem pd_int {i j pos} : PD X C (.Constant (.int i) j pos) (dC (.int i)) := ⟨_, pe_int, sd_c fun _ _ => .int i⟩
theorem pd_bl {b j pos} : PD X C (.Constant (.bool b) j pos) (dC (.bl b)) := ⟨_, pe_bl, sd_c fun _ _ => .bl b⟩
theorem pd_non {j pos} : PD X C (.Constant .none j pos) (dC .non) := ⟨_, pe_non, sd_c fun _ _ => .non⟩
theorem pd_str {x j pos} : PD X C (.Constant (.str x) j pos) (dC (.str x)) := ⟨_, pe_str, sd_c fun _ _ => .str x⟩
/-- a constant of the module -/
theorem pd_glob {x : Str} {v : V} {d : D} {u : Value} {pos : Pos} (hg : Gl X x) (hm : X.mg x = some u) (r : RelV v u) (rd : ∀ F, Rep C.K F v d) (hd : (x == ("__debug__" : Str)) = false := by decide) : PD X C (.Name x pos) (dC d) :=
  ⟨_, pe_glob hg hm r hd, fun δ σ F M H q Q a h p => a.w.okE p (rd _) h⟩
/-- a built-in class as a value -/
theorem pd_ty {x : Str} {n : String} {pos : Pos} (hg : Gl X x) (hm : X.mg x = Option.none) (hv : bootBuiltins x = some (.type n)) (hn : x ≠ "__name__" := by decide) (hd : (x == ("__debug__" : Str)) = false := by decide) : PD X C (.Name x pos) (dC (.ty n)) :=
  ⟨_, pe_bltn (v := .ty n) hg hm hv rfl hn hd, sd_c fun _ _ => .ty n⟩
end

/-! ### operators -/
abbrev DR2 := D → D → Mh → QD → Prop
abbrev DR1 := D → Mh → QD → Prop
def SdOp (C : Cd) (r : R2) (dr : DR2) : Prop := ∀ x y d e F M H q Q, Wl C.K F M H → Rep C.K F x d → Rep C.K F y e → dr d e M q → Post C F M H q Q → r x y H Q
def SdUn (C : Cd) (r : V → Hp → VK → Prop) (dr : DR1) : Prop := ∀ x d F M H q Q, Wl C.K F M H → Rep C.K F x d → dr d M q → Post C F M H q Q → r x H Q
def dOp (dr : DR2) (da db : DE) : DE := fun δ M q => da δ M fun x M1 => db δ M1 fun y M2 => dr x y M2 q
def dUn (dr : DR1) (da : DE) : DE := fun δ M q => da δ M fun x M1 => dr x M1 q
section
variable {X : Cx} {C : Cd} {ta tb tc : TE} {da db dc : DE} {r r' : R2} {dr dr' : DR2} {a b c : Expr} {pos : Pos}
theorem sd_op (hr : SdOp C r dr) (ha : SdE C ta da) (hb : SdE C tb db) : SdE C (tOp r ta tb) (dOp dr da db) := fun δ σ F M H q Q a h p => by
  refine ha δ σ F M H _ _ a h fun x v F1 M1 H1 w1 g1 r1 h1 => ?_
  refine hb δ σ F1 M1 H1 _ _ (a.step w1 g1) h1 fun y u F2 M2 H2 w2 g2 r2 h2 => ?_
  exact hr v u x y F2 M2 H2 q Q w2 (r1.mono g2.fr) r2 h2 (p.from (g1.trans g2))
theorem sd_un {r : V → Hp → VK → Prop} {dr : DR1} (hr : SdUn C r dr) (ha : SdE C ta da) : SdE C (tUn r ta) (dUn dr da) := fun δ σ F M H q Q a h p => by
  refine ha δ σ F M H _ _ a h fun x v F1 M1 H1 w1 g1 r1 h1 => ?_
  exact hr v x F1 M1 H1 q Q w1 r1 h1 (p.from g1)
theorem pd_op {op : Operator} (ho : OpR X (binaryOp op) r) (hr : SdOp C r dr) (ha : PD X C a da) (hb : PD X C b db) : PD X C (.BinOp a op b pos) (dOp dr da db) := by
  obtain ⟨ta, h1, h2⟩ := ha.ex
  obtain ⟨tb, h3, h4⟩ := hb.ex
  exact ⟨_, pe_op ho h1 h3, sd_op hr h2 h4⟩
theorem pd_un {op : UnaryOp} {r : V → Hp → VK → Prop} {dr : DR1} (ho : UnR X (unaryOp op) r) (hr : SdUn C r dr) (ha : PD X C a da) : PD X C (.UnaryOp op a pos) (dUn dr da) := by
  obtain ⟨ta, h1, h2⟩ := ha.ex
  exact ⟨_, pe_un ho h1, sd_un hr h2⟩
theorem pd_cmp {op : CmpOp} (ho : OpR X (compareOp op) r) (hr : SdOp C r dr) (ha : PD X C a da) (hb : PD X C b db) (hm : behindInMarks op b = false := by first | exact nomark _ | rfl) : PD X C (.Compare a [op] [b] pos) (dOp dr da db) := by
  obtain ⟨ta, h1, h2⟩ := ha.ex
  obtain ⟨tb, h3, h4⟩ := hb.ex
  exact ⟨_, pe_cmpR ho h1 h3 hm, sd_op hr h2 h4⟩
/-- a test made of a value that is True or False -/
def dB (d : DE) : DT := fun δ M q => d δ M fun x M1 => match x with
  | .bl k => q k M1
  | _ => False
theorem sd_test (h : SdE C ta da) : SdT C (tTest ta) (dB da) := fun δ σ F M H q Q a h1 p => by
  refine h δ σ F M H _ _ a h1 fun x v F1 M1 H1 w1 g1 r1 h2 => ?_
  cases r1 <;> first | exact h2.elim | exact ⟨_, rfl, p _ F1 M1 H1 w1 g1 h2⟩
theorem pdt_cmp {op : CmpOp} (ho : OpR X (compareOp op) r) (hr : SdOp C r dr) (ha : PD X C a da) (hb : PD X C b db) (hm : behindInMarks op b = false := by first | exact nomark _ | rfl) : PDT X C (.Compare a [op] [b] pos) (dB (dOp dr da db)) := by
  obtain ⟨ta, h1, h2⟩ := ha.ex
  obtain ⟨tb, h3, h4⟩ := hb.ex
  exact ⟨_, pt_cmpR ho h1 h3 hm, sd_test (sd_op hr h2 h4)⟩
def dChain (dr dr' : DR2) (da db dc : DE) : DE := fun δ M q => da δ M fun x M1 => db δ M1 fun y M2 => dr x y M2 fun z M3 => match z with
  | .bl k => if k = true then dc δ M3 fun u M4 => dr' y u M4 q else q (.bl false) M3
  | _ => False
theorem sd_chain (hr : SdOp C r dr) (hr' : SdOp C r' dr') (ha : SdE C ta da) (hb : SdE C tb db) (hc : SdE C tc dc) : SdE C (tChain r r' ta tb tc) (dChain dr dr' da db dc) := fun δ σ F M H q Q a h p => by
  refine ha δ σ F M H _ _ a h fun x v F1 M1 H1 w1 g1 r1 h1 => ?_
  refine hb δ σ F1 M1 H1 _ _ (a.step w1 g1) h1 fun y u F2 M2 H2 w2 g2 r2 h2 => ?_
  refine hr v u x y F2 M2 H2 _ _ w2 (r1.mono g2.fr) r2 h2 fun z z' F3 M3 H3 w3 g3 r3 h3 => ?_
  cases r3 <;> first | exact h3.elim | skip
  rename_i k
  refine ⟨k, rfl, ?_⟩
  cases k with
  | true =>
    refine hc δ σ F3 M3 H3 _ _ ((a.step w1 g1).step w2 g2 |>.step w3 g3) h3 fun t t' F4 M4 H4 w4 g4 r4 h4 => ?_
    exact hr' u t' y t F4 M4 H4 q Q w4 (r2.mono (g3.fr.trans g4.fr)) r4 h4 (p.from (g1.trans (g2.trans (g3.trans g4))))
  | false => exact w3.okE (p.from (g1.trans (g2.trans g3))) (.bl false) h3
theorem pd_chain {op op' : CmpOp} (ho : OpR X (compareOp op) r) (ho' : OpR X (compareOp op') r') (hr : SdOp C r dr) (hr' : SdOp C r' dr') (ha : PD X C a da) (hb : PD X C b db) (hc : PD X C c dc)
    (hm : lastMarks [op, op'] [b, c] = false := by with_unfolding_all rfl) : PD X C (.Compare a [op, op'] [b, c] pos) (dChain dr dr' da db dc) := by
  obtain ⟨ta, h1, h2⟩ := ha.ex
  obtain ⟨tb, h3, h4⟩ := hb.ex
  obtain ⟨tc, h5, h6⟩ := hc.ex
  exact ⟨_, pe_chain ho ho' h1 h3 h5 hm, sd_chain hr hr' h2 h4 h6⟩
theorem pdt_chain {op op' : CmpOp} (ho : OpR X (compareOp op) r) (ho' : OpR X (compareOp op') r') (hr : SdOp C r dr) (hr' : SdOp C r' dr') (ha : PD X C a da) (hb : PD X C b db) (hc : PD X C c dc)
    (hm : lastMarks [op, op'] [b, c] = false := by with_unfolding_all rfl) : PDT X C (.Compare a [op, op'] [b, c] pos) (dB (dChain dr dr' da db dc)) := by
  obtain ⟨ta, h1, h2⟩ := ha.ex
  obtain ⟨tb, h3, h4⟩ := hb.ex
  obtain ⟨tc, h5, h6⟩ := hc.ex
  exact ⟨_, pt_chain ho ho' h1 h3 h5 hm, sd_test (sd_chain hr hr' h2 h4 h6)⟩
end

/-! ### the operators on data -/
def oI (g : Int → Int → D) : DR2 := fun x y M q => match x, y with
  | .int i, .int j => q (g i j) M
  | _, _ => False
def oIC (P : Int → Int → Prop) (g : Int → Int → D) : DR2 := fun x y M q => match x, y with
  | .int i, .int j => P i j ∧ q (g i j) M
  | _, _ => False
def oU (g : Int → D) : DR1 := fun x M q => match x with
  | .int i => q (g i) M
  | _ => False
def MulOk (i j : Int) : Prop := CMul i j ∨ CMulW i j
def oAdd : DR2 := fun x y M q => match x, y with
  | .int i, .int j => q (.int (i + j)) M
  | .int i, .bl k => q (.int (i + b2i k)) M
  | .str a, .str b => a.length + b.length ≤ sizeLine ∧ q (.str (a ++ b)) M
  | .lst a, .lst b => a.length + b.length ≤ sizeLine ∧ q (.lst (a ++ b)) M
  | .tup a, .tup b => a.length + b.length ≤ sizeLine ∧ q (.tup (a ++ b)) M
  | _, _ => False
def oMul : DR2 := fun x y M q => match x, y with
  | .int i, .int j => MulOk i j ∧ q (.int (i * j)) M
  | .lst a, .int k => -(2 ^ 63) ≤ k ∧ k < 2 ^ 63 ∧ a.length * k.toNat ≤ sizeLine ∧ q (.lst (List.replicate k.toNat a).flatten) M
  | _, _ => False
section
variable {X : Cx} {C : Cd}
theorem so_I {g : Int → Int → V} {gd : Int → Int → D} (hg : ∀ K F i j, Rep K F (g i j) (gd i j)) : SdOp C (rI0 g) (oI gd) := fun x y d e F M H q Q w rx ry h p => by
  unfold oI at h
  split at h
  · cases rx; cases ry
    exact ⟨_, _, rfl, rfl, w.okE p (hg _ _ _ _) h⟩
  · exact h.elim
theorem so_IC {P : Int → Int → Prop} {g : Int → Int → V} {gd : Int → Int → D} (hg : ∀ K F i j, Rep K F (g i j) (gd i j)) : SdOp C (rI P g) (oIC P gd) := fun x y d e F M H q Q w rx ry h p => by
  unfold oIC at h
  split at h
  · cases rx; cases ry
    exact ⟨_, _, rfl, rfl, h.1, w.okE p (hg _ _ _ _) h.2⟩
  · exact h.elim
theorem so_U {g : Int → V} {gd : Int → D} (hg : ∀ K F i, Rep K F (g i) (gd i)) : SdUn C (rU g) (oU gd) := fun x d F M H q Q w rx h p => by
  unfold oU at h
  split at h
  · cases rx
    exact ⟨_, rfl, w.okE p (hg _ _ _) h⟩
  · exact h.elim
abbrev oSub : DR2 := oI fun i j => .int (i - j)
abbrev oMod : DR2 := oIC (fun _ j => 0 < j) fun i j => .int (i % j)
abbrev oDiv : DR2 := oIC CDivW fun i j => .int (i / j)
abbrev oPow : DR2 := oIC CPow fun i j => .int (i ^ j.toNat)
abbrev oShr : DR2 := oIC (fun _ j => 0 ≤ j) fun i j => .int (i / 2 ^ j.toNat)
abbrev oAnd : DR2 := oI fun i j => .int (Builtin.bitAnd i j)
abbrev oNeg : DR1 := oU fun i => .int (-i)
abbrev oLt : DR2 := oI fun i j => .bl (decide (i < j))
abbrev oLe : DR2 := oI fun i j => .bl (decide (i ≤ j))
abbrev oGt : DR2 := oI fun i j => .bl (decide (j < i))
abbrev oGe : DR2 := oI fun i j => .bl (decide (j ≤ i))
def rAddP (K : PySem.W.Frag) : R2 := fun x y H Q => rI0 (fun i j => .int (i + j)) x y H Q ∨ (∃ i k, x = .int i ∧ y = .bl k ∧ Q (.int (i + b2i k)) H) ∨ (∃ i j, x = .str i ∧ y = .str j ∧ i.length + j.length ≤ sizeLine ∧ Q (.str (i ++ j)) H) ∨ rCat x y H Q ∨ rCatA K x y H Q
theorem op_addP : OpR X (binaryOp .Add) (rAddP X.K) := op_add.or (op_add_ib.or (op_add_str.or (op_cat.or op_catA)))
theorem so_add : SdOp C (rAddP C.K) oAdd := fun x y d e F M H q Q w rx ry h p => by
  unfold oAdd at h
  split at h
  · cases rx; cases ry
    exact .inl ⟨_, _, rfl, rfl, w.okE p (.int _) h⟩
  · cases rx; cases ry
    exact .inr (.inl ⟨_, _, rfl, rfl, w.okE p (.int _) h⟩)
  · cases rx; cases ry
    exact .inr (.inr (.inl ⟨_, _, rfl, rfl, h.1, w.okE p (.str _) h.2⟩))
  · cases rx with | lst h1 r1 => ?_
    cases ry with | lst h2 r2 => ?_
    refine .inr (.inr (.inr (.inl ⟨_, _, _, _, rfl, rfl, w.sub _ _ h1, w.sub _ _ h2, by rw [r1.length, r2.length]; exact h.1, fun l hl => ?_⟩)))
    exact w.newE p hl (rep_lst (w.freeF hl) (r1.append r2)) h.2
  · cases rx with | tup h1 r1 => ?_
    cases ry with | tup h2 r2 => ?_
    have n1 := r1.length
    have n2 := r2.length
    refine .inr (.inr (.inr (.inr ⟨_, _, _, _, rfl, rfl, .of (w.sub _ _ h1), .of (w.sub _ _ h2), by rw [n1, n2]; exact h.1, fun z => ?_, fun _ z => ?_, fun _ _ l hl => ?_⟩)))
    · subst z
      cases r1
      exact w.okE p (.tup h2 r2) h.2
    · subst z
      cases r2
      have h2 := h.2
      rw [List.append_nil] at h2
      exact w.okE p (.tup h1 r1) h2
    · exact w.newE p hl (rep_tup (w.freeF hl) (r1.append r2)) h.2
  · exact h.elim
def rMulP : R2 := fun x y H Q => rI CMul (fun i j => .int (i * j)) x y H Q ∨ rI CMulW (fun i j => .int (i * j)) x y H Q ∨ rRep x y H Q
theorem op_mulP : OpR X (binaryOp .Mult) rMulP := op_mul.or (op_mulW.or op_rep)
theorem Reps.rep {K : PySem.W.Frag} {F : Hp} {vs : List V} {ds : List D} (r : Reps K F vs ds) : ∀ k : Nat, Reps K F (List.replicate k vs).flatten (List.replicate k ds).flatten
  | 0 => .nil
  | k + 1 => by
    rw [List.replicate_succ, List.replicate_succ, List.flatten_cons, List.flatten_cons]
    exact r.append (Reps.rep r k)
theorem so_mul : SdOp C rMulP oMul := fun x y d e F M H q Q w rx ry h p => by
  unfold oMul at h
  split at h
  · cases rx; cases ry
    rcases h with ⟨h1 | h1, h2⟩
    · exact .inl ⟨_, _, rfl, rfl, h1, w.okE p (.int _) h2⟩
    · exact .inr (.inl ⟨_, _, rfl, rfl, h1, w.okE p (.int _) h2⟩)
  · cases rx with | lst h1 r1 => ?_
    cases ry
    refine .inr (.inr ⟨_, _, _, rfl, rfl, w.sub _ _ h1, h.1, h.2.1, by rw [r1.length]; exact h.2.2.1, fun l hl => ?_⟩)
    exact w.newE p hl (rep_lst (w.freeF hl) (r1.rep _)) h.2.2.2
  · exact h.elim
variable {a b : Expr} {da db : DE} {pos : Pos}
theorem pd_add (hK : C.K = X.K) (ha : PD X C a da) (hb : PD X C b db) : PD X C (.BinOp a .Add b pos) (dOp oAdd da db) := pd_op (hK ▸ op_addP) so_add ha hb
theorem pd_sub (ha : PD X C a da) (hb : PD X C b db) : PD X C (.BinOp a .Sub b pos) (dOp oSub da db) := pd_op op_sub (so_I fun _ _ _ _ => .int _) ha hb
theorem pd_mul (ha : PD X C a da) (hb : PD X C b db) : PD X C (.BinOp a .Mult b pos) (dOp oMul da db) := pd_op op_mulP so_mul ha hb
theorem pd_mod (ha : PD X C a da) (hb : PD X C b db) : PD X C (.BinOp a .Mod b pos) (dOp oMod da db) := pd_op op_mod (so_IC fun _ _ _ _ => .int _) ha hb
theorem pd_div (ha : PD X C a da) (hb : PD X C b db) : PD X C (.BinOp a .FloorDiv b pos) (dOp oDiv da db) := pd_op op_fdivW (so_IC fun _ _ _ _ => .int _) ha hb
theorem pd_pow (ha : PD X C a da) (hb : PD X C b db) : PD X C (.BinOp a .Pow b pos) (dOp oPow da db) := pd_op op_pow (so_IC fun _ _ _ _ => .int _) ha hb
theorem pd_shr (ha : PD X C a da) (hb : PD X C b db) : PD X C (.BinOp a .RShift b pos) (dOp oShr da db) := pd_op op_shr (so_IC fun _ _ _ _ => .int _) ha hb
theorem pd_band (ha : PD X C a da) (hb : PD X C b db) : PD X C (.BinOp a .BitAnd b pos) (dOp oAnd da db) := pd_op op_and (so_I fun _ _ _ _ => .int _) ha hb
theorem pd_neg (ha : PD X C a da) : PD X C (.UnaryOp .USub a pos) (dUn oNeg da) := pd_un un_neg (so_U fun _ _ _ => .int _) ha
theorem so_lt : SdOp C (rI0 fun i j => .bl (decide (i < j))) oLt := so_I fun _ _ _ _ => .bl _
theorem so_le : SdOp C (rI0 fun i j => .bl (decide (i ≤ j))) oLe := so_I fun _ _ _ _ => .bl _
theorem so_gt : SdOp C (rI0 fun i j => .bl (decide (j < i))) oGt := so_I fun _ _ _ _ => .bl _
theorem so_ge : SdOp C (rI0 fun i j => .bl (decide (j ≤ i))) oGe := so_I fun _ _ _ _ => .bl _
end

/-! ### equality, is None, in -/
mutual
def D.py : D → Option PyData
  | .non => some .none
  | .bl b => some (.bool b)
  | .int i => some (.int i)
  | .str x => some (.str x)
  | .tup xs => (D.pys xs).map .tuple
  | .ktp xs => (D.pys xs).map .tuple
  | .lst xs => (D.pys xs).map .list
  | _ => none
def D.pys : List D → Option (List PyData)
  | [] => some []
  | x :: xs => match D.py x, D.pys xs with
    | some a, some b => some (a :: b)
    | _, _ => none
end
mutual
theorem Rep.dp {K : PySem.W.Frag} {F H : Hp} (s : Same F H) : ∀ {v : V} {d : D} {p : PyData}, Rep K F v d → d.py = some p → Dp K H v p
  | _, _, _, .non, e => by cases e; exact .non
  | _, _, _, .bl b, e => by cases e; exact .bl b
  | _, _, _, .int i, e => by cases e; exact .int i
  | _, _, _, .str x, e => by cases e; exact .str x
  | _, _, _, .tup h r, e => by
    simp only [D.py, Option.map_eq_some_iff] at e
    obtain ⟨ps, h1, rfl⟩ := e
    exact .tup (.of (s _ _ h)) (Reps.dp s r h1)
  | _, _, _, .ktp h r, e => by
    simp only [D.py, Option.map_eq_some_iff] at e
    obtain ⟨ps, h1, rfl⟩ := e
    exact .tup (sqt_mono s h) (Reps.dp s r h1)
  | _, _, _, .lst h r, e => by
    simp only [D.py, Option.map_eq_some_iff] at e
    obtain ⟨ps, h1, rfl⟩ := e
    exact .lst (.of (s _ _ h)) (Reps.dp s r h1)
  | _, _, _, .ty _, e => by simp [D.py] at e
  | _, _, _, .adr _, e => by simp [D.py] at e
  | _, _, _, .flst _ _, e => by simp [D.py] at e
  | _, _, _, .ins _ _ _, e => by simp [D.py] at e
  | _, _, _, .dK _ _ _, e => by simp [D.py] at e
  | _, _, _, .dT _ _ _, e => by simp [D.py] at e
theorem Reps.dp {K : PySem.W.Frag} {F H : Hp} (s : Same F H) : ∀ {vs : List V} {ds : List D} {ps : List PyData}, Reps K F vs ds → D.pys ds = some ps → DpAll K H vs ps
  | _, _, _, .nil, e => by cases e; exact .nil
  | _, _, _, .cons h t, e => by
    simp only [D.pys] at e
    split at e
    · rename_i a b h1 h2
      cases e
      exact .cons (Rep.dp s h h1) (Reps.dp s t h2)
    · cases e
end
/-- == of what has no parts -/
def sEq : D → D → Option Bool
  | .non, .non => some true | .non, .int _ => some false | .int _, .non => some false | .non, .bl _ => some false | .bl _, .non => some false | .non, .str _ => some false | .str _, .non => some false
  | .int i, .int j => some (decide (i = j)) | .bl i, .bl j => some (decide (i = j)) | .str i, .str j => some (decide (i = j))
  | .int _, .str _ => some false | .str _, .int _ => some false | .bl _, .str _ => some false | .str _, .bl _ => some false
  | _, _ => none
def oEqW (f : Bool → Bool) : DR2 := fun x y M q => match sEq x y with
  | some k => q (.bl (f k)) M
  | none => ∃ a b, x.py = some a ∧ y.py = some b ∧ SeqAt.shaped a = true ∧ SeqAt.shaped b = true ∧ q (.bl (f (PyData.eqv a b))) M
abbrev oEq : DR2 := oEqW fun k => k
abbrev oNe : DR2 := oEqW fun k => !k
theorem sEq_scal {K : PySem.W.Frag} {F : Hp} {x y : V} {d e : D} {k : Bool} (rx : Rep K F x d) (ry : Rep K F y e) (h : sEq d e = some k) : scal x y = true ∧ decide (x = y) = k := by
  unfold sEq at h
  split at h <;> first | (cases h; done) | skip
  all_goals (cases rx; cases ry; cases h; refine ⟨rfl, ?_⟩)
  all_goals first | rfl | (rw [decide_eq_decide]; exact ⟨fun z => by cases z; rfl, fun z => by rw [z]⟩) | (apply decide_eq_false; intro z; cases z) | (apply decide_eq_true; rfl)
section
variable {X : Cx} {C : Cd}
theorem so_eq : SdOp C (fun x y H Q => rEq x y H Q ∨ rEqD C.K x y H Q) oEq := fun x y d e F M H q Q w rx ry h p => by
  unfold oEq oEqW at h
  split at h
  · rename_i k e1
    obtain ⟨h1, h2⟩ := sEq_scal rx ry e1
    refine .inl ⟨h1, ?_⟩
    rw [h2]
    exact w.okE p (.bl _) h
  · obtain ⟨a, b, h1, h2, h3, h4, h5⟩ := h
    exact .inr ⟨a, b, rx.dp w.sub h1, ry.dp w.sub h2, h3, h4, w.okE p (.bl _) h5⟩
theorem so_ne : SdOp C (fun x y H Q => rNe x y H Q ∨ rNeD C.K x y H Q) oNe := fun x y d e F M H q Q w rx ry h p => by
  unfold oNe oEqW at h
  split at h
  · rename_i k e1
    obtain ⟨h1, h2⟩ := sEq_scal rx ry e1
    refine .inl ⟨h1, ?_⟩
    rw [h2]
    exact w.okE p (.bl _) h
  · obtain ⟨a, b, h1, h2, h3, h4, h5⟩ := h
    exact .inr ⟨a, b, rx.dp w.sub h1, ry.dp w.sub h2, h3, h4, w.okE p (.bl _) h5⟩
theorem op_eqP (hK : C.K = X.K) {k : Nat} (hr : Room k X.A) : OpR X (compareOp .Eq) (fun x y H Q => rEq x y H Q ∨ rEqD C.K x y H Q) := hK ▸ op_eq.or (op_eqD hr.units)
theorem op_neP (hK : C.K = X.K) {k : Nat} (hr : Room k X.A) : OpR X (compareOp .NotEq) (fun x y H Q => rNe x y H Q ∨ rNeD C.K x y H Q) := hK ▸ op_ne.or (op_neD hr.units)
def oIsN (f : Bool → Bool) : DR2 := fun x y M q => match y with
  | .non => match x with
    | .non => q (.bl (f true)) M
    | _ => q (.bl (f false)) M
  | _ => False
theorem so_isN : SdOp C (fun x y H Q => y = .non ∧ Q (.bl (decide (x = .non))) H) (oIsN fun k => k) := fun x y d e F M H q Q w rx ry h p => by
  unfold oIsN at h
  split at h
  · cases ry
    refine ⟨rfl, ?_⟩
    split at h
    · cases rx; exact w.okE p (.bl _) h
    · rename_i hd
      rw [decide_eq_false]
      · exact w.okE p (.bl _) h
      · intro z
        subst z
        cases rx
        exact hd rfl
  · exact h.elim
theorem so_notN : SdOp C (fun x y H Q => y = .non ∧ Q (.bl (!decide (x = .non))) H) (oIsN fun k => !k) := fun x y d e F M H q Q w rx ry h p => by
  unfold oIsN at h
  split at h
  · cases ry
    refine ⟨rfl, ?_⟩
    split at h
    · cases rx; exact w.okE p (.bl _) h
    · rename_i hd
      rw [decide_eq_false]
      · exact w.okE p (.bl _) h
      · intro z
        subst z
        cases rx
        exact hd rfl
  · exact h.elim
end
end DL

set_option Elab.async false
set_option linter.all false
set_option maxRecDepth 100000
set_option maxHeartbeats 1000000
namespace DL
open PySem L2 PyProof.Rows

/-! ### tests -/
def dTru (da : DE) : DT := fun δ M q => da δ M fun x M1 => match x with
  | .non => q false M1
  | .bl b => q b M1
  | .int i => q (i != 0) M1
  | .str y => y.length ≤ sizeLine ∧ q ((y.length : Int) != 0) M1
  | .lst ds => q (!ds.isEmpty) M1
  | .tup ds => q (!ds.isEmpty) M1
  | _ => False
def dAnd (t u : DT) : DT := fun δ M q => t δ M fun c M1 => if c = true then u δ M1 q else q false M1
def dOr (t u : DT) : DT := fun δ M q => t δ M fun c M1 => if c = true then q true M1 else u δ M1 q
def dNot (t : DT) : DT := fun δ M q => t δ M fun c M1 => q (!c) M1
def dIf (t : DT) (da db : DE) : DE := fun δ M q => t δ M fun c M1 => if c = true then da δ M1 q else db δ M1 q
def dAndV (da db : DE) : DE := fun δ M q => da δ M fun x M1 => match x with
  | .bl c => if c = true then db δ M1 q else q (.bl false) M1
  | _ => False
def dOrV (da db : DE) : DE := fun δ M q => da δ M fun x M1 => match x with
  | .bl c => if c = true then q (.bl true) M1 else db δ M1 q
  | _ => False
def dNotV (da : DE) : DE := fun δ M q => da δ M fun x M1 => match x with
  | .bl c => q (.bl (!c)) M1
  | _ => False
section
variable {X : Cx} {C : Cd} {ta tb : TE} {da db : DE} {a b c : Expr} {pos : Pos} {t u : TT} {dt du : DT} {rest : List Expr}
theorem reps_isEmpty {K : PySem.W.Frag} {F : Hp} {vs : List V} {ds : List D} (r : Reps K F vs ds) : vs.isEmpty = ds.isEmpty := by cases r <;> rfl
theorem pdt_val (ha : PD X C a da) (hK : C.K = X.K) (he : ∀ whole, isTrue a X.env whole = (do let v ← whole; standAt a.pos; holding [v] (truthy v)) := by intro _; rfl) : PDT X C a (dTru da) := by
  obtain ⟨ta, h1, h2⟩ := ha.ex
  refine ⟨_, pt_truth h1 he, fun δ σ F M H q Q a h p => ?_⟩
  refine h2 δ σ F M H _ _ a h fun x v F1 M1 H1 w1 g1 r1 h1 => ?_
  rw [← hK]
  cases r1 with
  | non => exact ⟨_, rfl, p _ F1 M1 H1 w1 g1 h1⟩
  | bl b => exact ⟨_, rfl, p _ F1 M1 H1 w1 g1 h1⟩
  | int i => exact ⟨_, rfl, p _ F1 M1 H1 w1 g1 h1⟩
  | str x => exact ⟨_, ⟨h1.1, rfl⟩, p _ F1 M1 H1 w1 g1 h1.2⟩
  | lst e r => exact ⟨_, .inl ⟨_, .of (w1.sub _ _ e), rfl⟩, p _ F1 M1 H1 w1 g1 (by rw [reps_isEmpty r]; exact h1)⟩
  | tup e r => exact ⟨_, .inr (.inl ⟨_, .of (w1.sub _ _ e), rfl⟩), p _ F1 M1 H1 w1 g1 (by rw [reps_isEmpty r]; exact h1)⟩
  | ty n => exact h1.elim
  | adr a => exact h1.elim
  | ktp _ _ => exact h1.elim
  | flst _ _ => exact h1.elim
  | ins _ _ _ => exact h1.elim
  | dK _ _ _ => exact h1.elim
  | dT _ _ _ => exact h1.elim
theorem sd_not (h : SdT C t dt) : SdT C (tNot t) (dNot dt) := fun δ σ F M H q Q a h1 p => h δ σ F M H _ _ a h1 fun b F1 M1 H1 w1 g1 h2 => p _ F1 M1 H1 w1 g1 h2
theorem sd_and (h : SdT C t dt) (h' : SdT C u du) : SdT C (tAnd t u) (dAnd dt du) := fun δ σ F M H q Q a h1 p => h δ σ F M H _ _ a h1 fun b F1 M1 H1 w1 g1 h2 => by
  cases b with
  | true => exact h' δ σ F1 M1 H1 _ _ (a.step w1 g1) h2 fun b2 F2 M2 H2 w2 g2 h3 => p _ F2 M2 H2 w2 (g1.trans g2) h3
  | false => exact p _ F1 M1 H1 w1 g1 h2
theorem sd_or (h : SdT C t dt) (h' : SdT C u du) : SdT C (tOr t u) (dOr dt du) := fun δ σ F M H q Q a h1 p => h δ σ F M H _ _ a h1 fun b F1 M1 H1 w1 g1 h2 => by
  cases b with
  | true => exact p _ F1 M1 H1 w1 g1 h2
  | false => exact h' δ σ F1 M1 H1 _ _ (a.step w1 g1) h2 fun b2 F2 M2 H2 w2 g2 h3 => p _ F2 M2 H2 w2 (g1.trans g2) h3
theorem pdt_not (ha : PDT X C a dt) : PDT X C (.UnaryOp .Not a pos) (dNot dt) := by
  obtain ⟨ta, h1, h2⟩ := ha.ex
  exact ⟨_, pt_not h1, sd_not h2⟩
theorem PDW.pt (h : PDW X C a dt) : PDT X C a dt := by
  obtain ⟨ta, h1, h2⟩ := h.ex
  exact ⟨_, h1.pt, h2⟩
theorem pdw_and1 (ha : PDT X C a dt) : PDW X C (.BoolOp .And [a] pos) dt := by
  obtain ⟨ta, h1, h2⟩ := ha.ex
  exact ⟨_, pw_and1 h1, h2⟩
theorem pdw_or1 (ha : PDT X C a dt) : PDW X C (.BoolOp .Or [a] pos) dt := by
  obtain ⟨ta, h1, h2⟩ := ha.ex
  exact ⟨_, pw_or1 h1, h2⟩
theorem pdw_and (ha : PDT X C a dt) (hb : PDW X C (.BoolOp .And (b :: rest) pos) du) : PDW X C (.BoolOp .And (a :: b :: rest) pos) (dAnd dt du) := by
  obtain ⟨ta, h1, h2⟩ := ha.ex
  obtain ⟨tb, h3, h4⟩ := hb.ex
  exact ⟨_, pw_and h1 h3, sd_and h2 h4⟩
theorem pdw_or (ha : PDT X C a dt) (hb : PDW X C (.BoolOp .Or (b :: rest) pos) du) : PDW X C (.BoolOp .Or (a :: b :: rest) pos) (dOr dt du) := by
  obtain ⟨ta, h1, h2⟩ := ha.ex
  obtain ⟨tb, h3, h4⟩ := hb.ex
  exact ⟨_, pw_or h1 h3, sd_or h2 h4⟩
theorem pd_not (ha : PD X C a da) : PD X C (.UnaryOp .Not a pos) (dNotV da) := by
  obtain ⟨ta, h1, h2⟩ := ha.ex
  refine ⟨_, pe_not h1, fun δ σ F M H q Q a h p => ?_⟩
  refine h2 δ σ F M H _ _ a h fun x v F1 M1 H1 w1 g1 r1 h1 => ?_
  cases r1 <;> first | exact h1.elim | exact ⟨_, rfl, w1.okE (p.from g1) (.bl _) h1⟩
theorem pd_one {op} (ha : PD X C a da) : PD X C (.BoolOp op [a] pos) da := by
  obtain ⟨ta, h1, h2⟩ := ha.ex
  exact ⟨_, pe_one h1, h2⟩
theorem pd_and (ha : PD X C a da) (hb : PD X C (.BoolOp .And (b :: rest) pos) db) : PD X C (.BoolOp .And (a :: b :: rest) pos) (dAndV da db) := by
  obtain ⟨ta, h1, h2⟩ := ha.ex
  obtain ⟨tb, h3, h4⟩ := hb.ex
  refine ⟨_, pe_and h1 h3, fun δ σ F M H q Q a h p => ?_⟩
  refine h2 δ σ F M H _ _ a h fun x v F1 M1 H1 w1 g1 r1 h1 => ?_
  cases r1 <;> first | exact h1.elim | skip
  rename_i c
  refine ⟨c, rfl, ?_⟩
  cases c with
  | true => exact h4 δ σ F1 M1 H1 _ _ (a.step w1 g1) h1 (p.from g1)
  | false => exact w1.okE (p.from g1) (.bl _) h1
theorem pd_or (ha : PD X C a da) (hb : PD X C (.BoolOp .Or (b :: rest) pos) db) : PD X C (.BoolOp .Or (a :: b :: rest) pos) (dOrV da db) := by
  obtain ⟨ta, h1, h2⟩ := ha.ex
  obtain ⟨tb, h3, h4⟩ := hb.ex
  refine ⟨_, pe_or h1 h3, fun δ σ F M H q Q a h p => ?_⟩
  refine h2 δ σ F M H _ _ a h fun x v F1 M1 H1 w1 g1 r1 h1 => ?_
  cases r1 <;> first | exact h1.elim | skip
  rename_i c
  refine ⟨c, rfl, ?_⟩
  cases c with
  | true => exact w1.okE (p.from g1) (.bl _) h1
  | false => exact h4 δ σ F1 M1 H1 _ _ (a.step w1 g1) h1 (p.from g1)
theorem pd_ifE (hc : PDT X C c dt) (ha : PD X C a da) (hb : PD X C b db) : PD X C (.IfExp c a b pos) (dIf dt da db) := by
  obtain ⟨t, h0, h0'⟩ := hc.ex
  obtain ⟨ta, h1, h2⟩ := ha.ex
  obtain ⟨tb, h3, h4⟩ := hb.ex
  refine ⟨_, pe_ifExp h0 h1 h3, fun δ σ F M H q Q a h p => ?_⟩
  refine h0' δ σ F M H _ _ a h fun b F1 M1 H1 w1 g1 h1 => ?_
  cases b with
  | true => exact h2 δ σ F1 M1 H1 _ _ (a.step w1 g1) h1 (p.from g1)
  | false => exact h4 δ σ F1 M1 H1 _ _ (a.step w1 g1) h1 (p.from g1)
end

/-! ### arguments, displays -/
def dNil : DA := fun _ M q => q [] M
def dCons (da : DE) (dr : DA) : DA := fun δ M q => da δ M fun x M1 => dr δ M1 fun xs M2 => q (x :: xs) M2
def dTup (da : DA) : DE := fun δ M q => da δ M fun xs M1 => xs.length ≤ sizeLine ∧ q (.tup xs) M1
def dLst (da : DA) : DE := fun δ M q => da δ M fun xs M1 => xs.length ≤ sizeLine ∧ q (.lst xs) M1
section
variable {X : Cx} {C : Cd} {e : Expr} {es : List Expr} {da : DE} {dr : DA} {pos : Pos}
theorem pda_nil : PDA X C [] dNil := ⟨_, pa_nil, fun δ σ F M H q Q a h p => p [] [] F M H a.w (Gr.refl F M H) .nil h⟩
theorem pda_cons (ha : PD X C e da) (hr : PDA X C es dr) (hs : starEach (e :: es) X.env = (false, eval e X.env) :: starEach es X.env := by rfl) : PDA X C (e :: es) (dCons da dr) := by
  obtain ⟨ta, h1, h2⟩ := ha.ex
  obtain ⟨tr, h3, h4⟩ := hr.ex
  refine ⟨_, pa_cons h1 h3 hs, fun δ σ F M H q Q a h p => ?_⟩
  refine h2 δ σ F M H _ _ a h fun x v F1 M1 H1 w1 g1 r1 h1 => ?_
  refine h4 δ σ F1 M1 H1 _ _ (a.step w1 g1) h1 fun xs vs F2 M2 H2 w2 g2 r2 h2 => ?_
  exact p _ _ F2 M2 H2 w2 (g1.trans g2) (.cons (r1.mono g2.fr) r2) h2
theorem pd_tup {x1} (ha : PDA X C es dr) : PD X C (.Tuple es x1 pos) (dTup dr) := by
  obtain ⟨ta, h1, h2⟩ := ha.ex
  refine ⟨_, pe_tup h1, fun δ σ F M H q Q a h p => ?_⟩
  refine h2 δ σ F M H _ _ a h fun xs vs F1 M1 H1 w1 g1 r1 h1 => ?_
  exact ⟨by rw [r1.length]; exact h1.1, fun l hl => w1.newE (p.from g1) hl (rep_tup (w1.freeF hl) r1) h1.2⟩
theorem pd_lst (ha : PDA X C es dr) : PD X C (.List es pos) (dLst dr) := by
  obtain ⟨ta, h1, h2⟩ := ha.ex
  refine ⟨_, pe_lst h1, fun δ σ F M H q Q a h p => ?_⟩
  refine h2 δ σ F M H _ _ a h fun xs vs F1 M1 H1 w1 g1 r1 h1 => ?_
  exact ⟨by rw [r1.length]; exact h1.1, fun l hl => w1.newE (p.from g1) hl (rep_lst (w1.freeF hl) r1) h1.2⟩
end

/-! ### subscripts, slices -/
def oIx : DR2 := fun x y M q => match x, y with
  | .lst ds, .int i => match atI ds i with
    | some d => q d M
    | none => False
  | .tup ds, .int i => match atI ds i with
    | some d => q d M
    | none => False
  | .str z, .int i => z.length ≤ sizeLine ∧ match atI z.cps.toList i with
    | some c => q (.str ⟨#[c]⟩) M
    | none => False
  | .adr a, .int i => match M a with
    | some (.lst ds) => match atI ds i with
      | some d => q d M
      | none => False
    | _ => False
  | _, _ => False
def cutD {α : Type} (xs : List α) (lo hi : Option Int) : List α := (xs.drop (HT.sIx xs.length 0 lo)).take (HT.sIx xs.length xs.length hi - HT.sIx xs.length 0 lo)
def oSl (x : D) (lo hi : Option Int) : Mh → QD → Prop := fun M q => match x with
  | .lst ds => q (.lst (cutD ds lo hi)) M
  | .tup ds => q (.tup (cutD ds lo hi)) M
  | .str z => z.length ≤ sizeLine ∧ q (.str (cutS z lo hi)) M
  | .flst ds => q (.lst (cutD ds lo hi)) M
  | .adr a => match M a with
    | some (.lst ds) => q (.lst (cutD ds lo hi)) M
    | _ => False
  | _ => False
abbrev DO := DEnv → Mh → (Option Int → Mh → Prop) → Prop
def SdO (C : Cd) (tt : TO) (dt : DO) : Prop := ∀ δ σ F M H (q : Option Int → Mh → Prop) (Q : Option Int → Hp → Prop), At C F M H σ δ → dt δ M q → (∀ b F' M' H', Wl C.K F' M' H' → Gr F M H F' M' H' → q b M' → Q b H') → tt σ H Q
structure PDO (X : Cx) (C : Cd) (e : Option Expr) (dt : DO) : Prop where
  ex : ∃ tt, PO X e tt ∧ SdO C tt dt
def dNoPart : DO := fun _ M q => q none M
def dPart (da : DE) : DO := fun δ M q => da δ M fun x M1 => match x with
  | .int i => q (some i) M1
  | _ => False
def dSl (da : DE) (dl du : DO) : DE := fun δ M q => da δ M fun x M1 => dl δ M1 fun l M2 => du δ M2 fun u M3 => oSl x l u M3 q
section
variable {X : Cx} {C : Cd} {a b : Expr} {da db : DE} {pos p2 : Pos} {lo hi : Option Expr} {dl du : DO}
theorem atI_rep {K : PySem.W.Frag} {F : Hp} {vs : List V} {ds : List D} {i : Int} {d : D} (r : Reps K F vs ds) (h : atI ds i = some d) : ∃ v, atI vs i = some v ∧ Rep K F v d := by
  unfold atI at h ⊢
  rw [r.length]
  cases e : ixN ds.length i with
  | none => rw [e] at h; cases h
  | some j =>
    rw [e] at h
    obtain ⟨v, hv, rv⟩ := r.get (show ds[j]? = some d from h)
    exact ⟨v, hv, rv⟩
theorem so_ix : SdOp C (rIx C.K) oIx := fun x y d e F M H q Q w rx ry h p => by
  unfold oIx at h
  split at h
  · cases rx with | lst h1 r1 => ?_
    cases ry
    split at h
    · rename_i e2
      obtain ⟨v, hv, rv⟩ := atI_rep r1 e2
      exact .inl ⟨_, _, _, v, rfl, rfl, .of (w.sub _ _ h1), hv, w.okE p rv h⟩
    · exact h.elim
  · cases rx with | tup h1 r1 => ?_
    cases ry
    split at h
    · rename_i e2
      obtain ⟨v, hv, rv⟩ := atI_rep r1 e2
      exact .inr (.inl ⟨_, _, _, v, rfl, rfl, .of (w.sub _ _ h1), hv, w.okE p rv h⟩)
    · exact h.elim
  · cases rx; cases ry
    obtain ⟨hz, h⟩ := h
    split at h
    · rename_i e2
      exact .inr (.inr ⟨_, _, _, rfl, rfl, hz, e2, w.okE p (.str _) h⟩)
    · exact h.elim
  · cases rx; cases ry
    split at h
    · rename_i ds em
      split at h
      · rename_i e2
        obtain ⟨hf, o, ho, r⟩ := w.mu _ _ em
        cases o <;> first | exact r.elim | skip
        obtain ⟨v, hv, rv⟩ := atI_rep (show Reps C.K F _ ds from r) e2
        exact .inl ⟨_, _, _, v, rfl, rfl, .of ho, hv, w.okE p rv h⟩
      · exact h.elim
    · exact h.elim
  · exact h.elim
theorem pd_ix (hK : C.K = X.K) (ha : PD X C a da) (hb : PD X C b db) (hs : PlainIx b := by exact fun _ _ => rfl) : PD X C (.Subscript a b pos) (dOp oIx da db) := by
  obtain ⟨ta, h1, h2⟩ := ha.ex
  obtain ⟨tb, h3, h4⟩ := hb.ex
  exact ⟨_, pe_ix (hK ▸ ix_seq) h1 h3 hs, sd_op so_ix h2 h4⟩
theorem pdo_none : PDO X C none dNoPart := ⟨_, po_none, fun δ σ F M H q Q a h p => p _ F M H a.w (Gr.refl F M H) h⟩
theorem pdo_some (ha : PD X C a da) : PDO X C (some a) (dPart da) := by
  obtain ⟨ta, h1, h2⟩ := ha.ex
  refine ⟨_, po_some h1, fun δ σ F M H q Q a h p => ?_⟩
  refine h2 δ σ F M H _ _ a h fun x v F1 M1 H1 w1 g1 r1 h1 => ?_
  cases r1 <;> first | exact h1.elim | exact ⟨_, rfl, p _ F1 M1 H1 w1 g1 h1⟩
theorem Reps.cut {K : PySem.W.Frag} {F : Hp} {vs : List V} {ds : List D} (r : Reps K F vs ds) (lo hi : Option Int) : Reps K F (cutV vs lo hi) (cutD ds lo hi) := by
  unfold cutV cutD
  rw [r.length]
  exact (r.drop _).take _
def rSlP (K : PySem.W.Frag) : V → Option Int → Option Int → Hp → VK → Prop := fun x lo hi H Q => rSlL K x lo hi H Q ∨ rSlA K x lo hi H Q ∨ rSlS x lo hi H Q
theorem cut_whole {α : Type} {xs : List α} {lo hi : Option Int} (h : HT.sIx xs.length 0 lo = 0 ∧ HT.sIx xs.length xs.length hi = xs.length) : cutD xs lo hi = xs := by
  unfold cutD
  rw [h.1, h.2]
  simp
theorem pd_slice (hK : C.K = X.K) (ha : PD X C a da) (hl : PDO X C lo dl) (hu : PDO X C hi du) : PD X C (.Subscript a (.Slice lo hi none p2) pos) (dSl da dl du) := by
  obtain ⟨ta, h1, h2⟩ := ha.ex
  obtain ⟨tl, h3, h4⟩ := hl.ex
  obtain ⟨tu, h5, h6⟩ := hu.ex
  refine ⟨_, pe_slice (r := rSlP C.K) (hK ▸ sl_list.or (sl_tupA.or sl_str)) h1 h3 h5, fun δ σ F M H q Q a h p => ?_⟩
  refine h2 δ σ F M H _ _ a h fun x v F1 M1 H1 w1 g1 r1 h1 => ?_
  refine h4 δ σ F1 M1 H1 _ _ (a.step w1 g1) h1 fun l F2 M2 H2 w2 g2 h2 => ?_
  refine h6 δ σ F2 M2 H2 _ _ ((a.step w1 g1).step w2 g2) h2 fun u F3 M3 H3 w3 g3 h3 => ?_
  have r := r1.mono (g2.fr.trans g3.fr)
  have p := p.from (g1.trans (g2.trans g3))
  unfold oSl at h3
  split at h3
  · cases r with | lst e1 r => ?_
    exact .inl ⟨_, _, rfl, .of (w3.sub _ _ e1), fun z hz => w3.newE p hz (rep_lst (w3.freeF hz) (r.cut _ _)) h3⟩
  · cases r with | tup e1 r => ?_
    refine .inr (.inl ⟨_, _, rfl, .of (w3.sub _ _ e1), fun z => ?_, fun _ z hz => w3.newE p hz (rep_tup (w3.freeF hz) (r.cut _ _)) h3⟩)
    rw [r.length] at z
    rw [cut_whole z] at h3
    exact w3.okE p (.tup e1 r) h3
  · cases r
    exact .inr (.inr ⟨_, rfl, h3.1, w3.okE p (.str _) h3.2⟩)
  · cases r with | flst e1 r => ?_
    exact .inl ⟨_, _, rfl, sql_mono w3.sub e1, fun z hz => w3.newE p hz (rep_lst (w3.freeF hz) (r.cut _ _)) h3⟩
  · cases r
    split at h3
    · rename_i ds em
      obtain ⟨hf, o, ho, r⟩ := w3.mu _ _ em
      cases o <;> first | exact r.elim | skip
      exact .inl ⟨_, _, rfl, .of ho, fun z hz => w3.newE p hz (rep_lst (w3.freeF hz) (Reps.cut (show Reps C.K F3 _ ds from r) _ _)) h3⟩
    · exact h3.elim
  · exact h3.elim
end

/-! ### built-ins -/
abbrev DRC := List D → Mh → QD → Prop
def SdC (C : Cd) (r : List V → Hp → VK → Prop) (dr : DRC) : Prop := ∀ xs ds F M H q Q, Wl C.K F M H → Reps C.K F xs ds → dr ds M q → Post C F M H q Q → r xs H Q
def dCB (dr : DRC) (da : DA) : DE := fun δ M q => da δ M fun xs M1 => dr xs M1 q
section
variable {X : Cx} {C : Cd} {x : Str} {p pos : Pos} {e : Expr} {es : List Expr} {da : DA} {id T : String} {r : List V → Hp → VK → Prop} {dr : DRC} {ta : TA}
theorem sd_cb (hr : SdC C r dr) (ha : SdA C ta da) : SdE C (tCB r ta) (dCB dr da) := fun δ σ F M H q Q a h p => by
  refine ha δ σ F M H _ _ a h fun x v F1 M1 H1 w1 g1 r1 h1 => ?_
  exact hr v x F1 M1 H1 q Q w1 r1 h1 (p.from g1)
theorem pd_callB (hc : CallR X (.builtin id) r) (hr : SdC C r dr) (hg : Gl X x) (hm : X.mg x = none) (hv : bootBuiltins x = some (.builtin id)) (ha : PDA X C (e :: es) da) (hn : x ≠ "__name__" := by decide) (hdb : (x == ("__debug__" : Str)) = false := by decide)
    (he : starEach (e :: es) X.env = (false, eval e X.env) :: starEach es X.env := by rfl) (hpl : (backTo pos (starEach es X.env)).any (·.1) = false := by rfl) : PD X C (.Call (.Name x p) (e :: es) [] pos) (dCB dr da) := by
  obtain ⟨ta, h1, h2⟩ := ha.ex
  exact ⟨_, pe_callB hc hg hm hv h1 hn hdb he hpl, sd_cb hr h2⟩
theorem pd_callTy (hc : CallR X (.type T) r) (hr : SdC C r dr) (hg : Gl X x) (hm : X.mg x = none) (hv : bootBuiltins x = some (.type T)) (ha : PDA X C (e :: es) da) (hn : x ≠ "__name__" := by decide) (hdb : (x == ("__debug__" : Str)) = false := by decide)
    (he : starEach (e :: es) X.env = (false, eval e X.env) :: starEach es X.env := by rfl) (hpl : (backTo pos (starEach es X.env)).any (·.1) = false := by rfl) : PD X C (.Call (.Name x p) (e :: es) [] pos) (dCB dr da) := by
  obtain ⟨ta, h1, h2⟩ := ha.ex
  exact ⟨_, pe_callTy hc hg hm hv h1 hn hdb he hpl, sd_cb hr h2⟩
end
/-- the items of a list, wherever it is kept -/
def items (M : Mh) : D → Option (List D)
  | .lst ds => some ds
  | .adr a => match M a with
    | some (.lst ds) => some ds
    | _ => none
  | _ => none
def seqItems (M : Mh) : D → Option (List D)
  | .lst ds => some ds
  | .tup ds => some ds
  | .ktp ds => some ds
  | .adr a => match M a with
    | some (.lst ds) => some ds
    | _ => none
  | _ => none
theorem items_at {K : PySem.W.Frag} {F H : Hp} {M : Mh} {v : V} {d : D} {ds : List D} (w : Wl K F M H) (r : Rep K F v d) (h : items M d = some ds) : ∃ a xs, v = .ref a ∧ H a = some (.lst xs) ∧ Reps K F xs ds := by
  unfold items at h
  split at h
  · cases h
    cases r with | lst e r => ?_
    exact ⟨_, _, rfl, w.sub _ _ e, r⟩
  · cases r
    split at h
    · rename_i em
      cases h
      obtain ⟨hf, o, ho, r⟩ := w.mu _ _ em
      cases o <;> first | exact r.elim | skip
      exact ⟨_, _, rfl, ho, r⟩
    · cases h
  · cases h
theorem seqItems_at {K : PySem.W.Frag} {F H : Hp} {M : Mh} {v : V} {d : D} {ds : List D} (w : Wl K F M H) (r : Rep K F v d) (h : seqItems M d = some ds) : ∃ a xs, v = .ref a ∧ (SqL K H a xs ∨ SqT K H a xs) ∧ Reps K F xs ds := by
  unfold seqItems at h
  split at h
  · cases h
    cases r with | lst e r => ?_
    exact ⟨_, _, rfl, .inl (.of (w.sub _ _ e)), r⟩
  · cases h
    cases r with | tup e r => ?_
    exact ⟨_, _, rfl, .inr (.of (w.sub _ _ e)), r⟩
  · cases h
    cases r with | ktp e r => ?_
    exact ⟨_, _, rfl, .inr (sqt_mono w.sub e), r⟩
  · cases r
    split at h
    · rename_i em
      cases h
      obtain ⟨hf, o, ho, r⟩ := w.mu _ _ em
      cases o <;> first | exact r.elim | skip
      exact ⟨_, _, rfl, .inl (.of ho), r⟩
    · cases h
  · cases h
def kLen : DRC := fun xs M q => match xs with
  | [.str z] => z.length ≤ sizeLine ∧ q (.int z.length) M
  | [x] => match seqItems M x with
    | some ds => q (.int ds.length) M
    | none => False
  | _ => False
def kInts (f : List Int → Mh → QD → Prop) : DRC := fun xs M q => match xs with
  | [x] => ∃ ns, items M x = some (ns.map D.int) ∧ f ns M q
  | _ => False
abbrev kSum : DRC := kInts fun ns M q => q (.int ns.sum) M
abbrev kMax : DRC := kInts fun ns M q => 0 < ns.length ∧ ∀ m, m ∈ ns → (∀ y, y ∈ ns → y ≤ m) → q (.int m) M
abbrev kMin : DRC := kInts fun ns M q => 0 < ns.length ∧ ∀ m, m ∈ ns → (∀ y, y ∈ ns → m ≤ y) → q (.int m) M
abbrev kSorted : DRC := kInts fun ns M q => ∀ ns' : List Int, ns'.Perm ns → ns'.Pairwise (· ≤ ·) → q (.lst (ns'.map D.int)) M
def kBools (f : List Bool → Bool) : DRC := fun xs M q => match xs with
  | [x] => ∃ bs, items M x = some (bs.map D.bl) ∧ q (.bl (f bs)) M
  | _ => False
abbrev kAll : DRC := kBools fun bs => bs.all id
abbrev kAny : DRC := kBools fun bs => bs.any id
def kAbs : DRC := fun xs M q => match xs with
  | [.int i] => q (.int (if i < 0 then -i else i)) M
  | _ => False
def kTwo (f : Int → Int → Int) : DRC := fun xs M q => match xs with
  | [.int i, .int j] => q (.int (f i j)) M
  | _ => False
abbrev kMax2 : DRC := kTwo fun i j => if j > i then j else i
abbrev kMin2 : DRC := kTwo fun i j => if j < i then j else i
def kMax3 : DRC := fun xs M q => match xs with
  | [.int a, .int b, .int c] => q (.int (max (max a b) c)) M
  | _ => False
def kInt : DRC := fun xs M q => match xs with
  | [.int i] => q (.int i) M
  | [.bl k] => q (.int (if k then 1 else 0)) M
  | [.str a] => ∃ n, PySem.intText? a = some n ∧ a.length ≤ 640 ∧ q (.int n) M
  | _ => False
def kStr : DRC := fun xs M q => match xs with
  | [.int i] => i.natAbs.log2 < 1920 ∧ q (.str (toString i)) M
  | _ => False
def kList : DRC := fun xs M q => match xs with
  | [x] => match seqItems M x with
    | some ds => q (.lst ds) M
    | none => False
  | _ => False
def kTuple : DRC := fun xs M q => match xs with
  | [.tup ds] => q (.tup ds) M
  | [x] => match items M x with
    | some ds => q (.tup ds) M
    | none => False
  | _ => False
def tyName : D → Option String
  | .non => some "NoneType" | .bl _ => some "bool" | .int _ => some "int" | .str _ => some "str" | .tup _ => some "tuple" | .lst _ => some "list" | .dK _ => some "dict" | .dT _ => some "dict"
  | _ => none
def kIsi : DRC := fun xs M q => match xs with
  | [x, .ty n] => ∃ t b, tyName x = some t ∧ kitB t n = some b ∧ q (.bl b) M
  | _ => False
theorem tyName_at {K : PySem.W.Frag} {F H : Hp} {M : Mh} {v : V} {d : D} {t : String} (w : Wl K F M H) (r : Rep K F v d) (h : tyName d = some t) : TyX K H v (.type t) := by
  cases r <;> first | (cases h; done) | skip
  · cases h; exact .base .non
  · cases h; exact .base (.bl _)
  · cases h; exact .base (.int _)
  · cases h; exact .base (.str _)
  · rename_i e _; cases h; exact .base (.tup (w.sub _ _ e))
  · rename_i e _; cases h; exact .base (.lst (w.sub _ _ e))
  · rename_i e _ _; cases h; exact .base (.dK (w.sub _ _ e))
  · rename_i e _ _; cases h; exact .base (.dT (w.sub _ _ e))
section
variable {X : Cx} {C : Cd}
theorem Reps.one {K : PySem.W.Frag} {F : Hp} {xs : List V} {d : D} (r : Reps K F xs [d]) : ∃ v, xs = [v] ∧ Rep K F v d := by
  cases r with | cons r t => cases t; exact ⟨_, rfl, r⟩
theorem Reps.two {K : PySem.W.Frag} {F : Hp} {xs : List V} {d e : D} (r : Reps K F xs [d, e]) : ∃ v u, xs = [v, u] ∧ Rep K F v d ∧ Rep K F u e := by
  cases r with | cons r t => obtain ⟨u, rfl, r2⟩ := Reps.one t; exact ⟨_, _, rfl, r, r2⟩
def rLenP (K : PySem.W.Frag) : List V → Hp → VK → Prop := fun xs H Q => (∃ p ys, xs = [.ref p] ∧ (SqL K H p ys ∨ SqT K H p ys) ∧ Q (.int ys.length) H) ∨ ∃ z, xs = [.str z] ∧ z.length ≤ sizeLine ∧ Q (.int z.length) H
theorem sc_len : SdC C (rLenP C.K) kLen := fun xs ds F M H q Q w r h p => by
  unfold kLen at h
  split at h
  · obtain ⟨v, rfl, rv⟩ := Reps.one r
    cases rv
    exact .inr ⟨_, rfl, h.1, w.okE p (.int _) h.2⟩
  · obtain ⟨v, rfl, rv⟩ := Reps.one r
    split at h
    · rename_i e
      obtain ⟨a, ys, rfl, hq, rr⟩ := seqItems_at w rv e
      refine .inl ⟨a, ys, rfl, hq, ?_⟩
      rw [rr.length]
      exact w.okE p (.int _) h
    · exact h.elim
  · exact h.elim
theorem call_lenP (hK : C.K = X.K) : CallR X (.builtin "len") (rLenP C.K) := hK ▸ call_len_seq.or call_len_str
theorem sc_ints {f : List Int → Mh → QD → Prop} {R : List V → Hp → VK → Prop} (hR : ∀ a ns F M H q Q, Wl C.K F M H → H a = some (.lst (ns.map V.int)) → f ns M q → Post C F M H q Q → R [.ref a] H Q) : SdC C R (kInts f) := fun xs ds F M H q Q w r h p => by
  unfold kInts at h
  split at h
  · obtain ⟨v, rfl, rv⟩ := Reps.one r
    obtain ⟨ns, e, h⟩ := h
    obtain ⟨a, ys, rfl, hq, rr⟩ := items_at w rv e
    have e2 := rr.ints
    subst e2
    exact hR a ns F M H q Q w hq h p
  · exact h.elim
theorem sc_sum : SdC C (rSum C.K) kSum := sc_ints fun a ns F M H q Q w hq h p => ⟨a, ns, rfl, .of hq, w.okE p (.int _) h⟩
theorem sc_max : SdC C (rMax C.K) kMax := sc_ints fun a ns F M H q Q w hq h p => ⟨a, ns, rfl, .of hq, h.1, fun m h1 h2 => w.okE p (.int _) (h.2 m h1 h2)⟩
theorem sc_min : SdC C (rMin C.K) kMin := sc_ints fun a ns F M H q Q w hq h p => ⟨a, ns, rfl, .of hq, h.1, fun m h1 h2 => w.okE p (.int _) (h.2 m h1 h2)⟩
theorem sc_sorted : SdC C (rSortedI C.K) kSorted := sc_ints fun a ns F M H q Q w hq h p => ⟨a, ns, rfl, .of hq, fun ns' l h1 h2 hl => w.newE p hl (rep_lst (w.freeF hl) (Reps.of_ints ns')) (h ns' h1 h2)⟩
theorem sc_all : SdC C (rAll C.K) kAll := fun xs ds F M H q Q w r h p => by
  unfold kAll kBools at h
  split at h
  · obtain ⟨v, rfl, rv⟩ := Reps.one r
    obtain ⟨ns, e, h⟩ := h
    obtain ⟨a, ys, rfl, hq, rr⟩ := items_at w rv e
    have e2 := rr.bls
    subst e2
    exact ⟨a, ns, rfl, .of hq, w.okE p (.bl _) h⟩
  · exact h.elim
theorem sc_any : SdC C (rAny C.K) kAny := fun xs ds F M H q Q w r h p => by
  unfold kAny kBools at h
  split at h
  · obtain ⟨v, rfl, rv⟩ := Reps.one r
    obtain ⟨ns, e, h⟩ := h
    obtain ⟨a, ys, rfl, hq, rr⟩ := items_at w rv e
    have e2 := rr.bls
    subst e2
    exact ⟨a, ns, rfl, .of hq, w.okE p (.bl _) h⟩
  · exact h.elim
theorem sc_abs : SdC C (fun xs H Q => ∃ i, xs = [.int i] ∧ Q (.int (if i < 0 then -i else i)) H) kAbs := fun xs ds F M H q Q w r h p => by
  unfold kAbs at h
  split at h
  · obtain ⟨v, rfl, rv⟩ := Reps.one r
    cases rv
    exact ⟨_, rfl, w.okE p (.int _) h⟩
  · exact h.elim
theorem sc_two {f : Int → Int → Int} : SdC C (fun xs H Q => ∃ i j, xs = [.int i, .int j] ∧ Q (.int (f i j)) H) (kTwo f) := fun xs ds F M H q Q w r h p => by
  unfold kTwo at h
  split at h
  · obtain ⟨v, u, rfl, rv, ru⟩ := Reps.two r
    cases rv; cases ru
    exact ⟨_, _, rfl, w.okE p (.int _) h⟩
  · exact h.elim
theorem vals3 {x y z : V} {us : List Value} (r : Vals [x, y, z] us) : ∃ u w' t, us = [u, w', t] ∧ RelV x u ∧ RelV y w' ∧ RelV z t := by
  cases r with
  | cons r1 r =>
    obtain ⟨u, w', rfl, r2, r3⟩ := vals2 r
    exact ⟨_, _, _, rfl, r1, r2, r3⟩
theorem call_max3 (hc : X.calm = true) : CallR X (.builtin "max") (fun xs H Q => ∃ a b c, xs = [.int a, .int b, .int c] ∧ Q (.int (max (max a b) c)) H) := by
  intro pins s σ H xs us Q I r h
  obtain ⟨a, b, c, rfl, q⟩ := h
  obtain ⟨u1, u2, u3, rfl, r1, r2, r3⟩ := vals3 r
  obtain ⟨t1, rfl⟩ := r1
  obtain ⟨t2, rfl⟩ := r2
  obtain ⟨t3, rfl⟩ := r3
  refine max_three_ints (I.ok.hd hc) fun h' tk hk => ?_
  refine ⟨.int (max (max a b) c), H, I.kept (t' := tk) hk, ?_, q⟩
  split
  · split
    · rename_i h1 h2; exact ⟨t3, by congr 1; omega⟩
    · rename_i h1 h2; exact ⟨t2, by congr 1; omega⟩
  · split
    · rename_i h1 h2; exact ⟨t3, by congr 1; omega⟩
    · rename_i h1 h2; exact ⟨t1, by congr 1; omega⟩
theorem sc_max3 : SdC C (fun xs H Q => ∃ a b c, xs = [.int a, .int b, .int c] ∧ Q (.int (max (max a b) c)) H) kMax3 := fun xs ds F M H q Q w r h p => by
  unfold kMax3 at h
  split at h
  · cases r with | cons r t => ?_
    obtain ⟨v, u, rfl, rv, ru⟩ := Reps.two t
    cases r; cases rv; cases ru
    exact ⟨_, _, _, rfl, w.okE p (.int _) h⟩
  · exact h.elim
def rIntP : List V → Hp → VK → Prop := fun xs H Q => ((∃ i, xs = [.int i] ∧ Q (.int i) H) ∨ ∃ k, xs = [.bl k] ∧ Q (.int (if k then 1 else 0)) H) ∨ ∃ a n, xs = [.str a] ∧ PySem.intText? a = some n ∧ a.length ≤ 640 ∧ Q (.int n) H
theorem call_intP : CallR X (.type "int") rIntP := call_int1.or call_int_str
theorem sc_int : SdC C rIntP kInt := fun xs ds F M H q Q w r h p => by
  unfold kInt at h
  split at h
  · obtain ⟨v, rfl, rv⟩ := Reps.one r
    cases rv
    exact .inl (.inl ⟨_, rfl, w.okE p (.int _) h⟩)
  · obtain ⟨v, rfl, rv⟩ := Reps.one r
    cases rv
    exact .inl (.inr ⟨_, rfl, w.okE p (.int _) h⟩)
  · obtain ⟨v, rfl, rv⟩ := Reps.one r
    cases rv
    obtain ⟨n, h1, h2, h3⟩ := h
    exact .inr ⟨_, n, rfl, h1, h2, w.okE p (.int _) h3⟩
  · exact h.elim
theorem sc_str : SdC C (fun xs H Q => ∃ i, xs = [.int i] ∧ i.natAbs.log2 < 1920 ∧ Q (.str (toString i)) H) kStr := fun xs ds F M H q Q w r h p => by
  unfold kStr at h
  split at h
  · obtain ⟨v, rfl, rv⟩ := Reps.one r
    cases rv
    exact ⟨_, rfl, h.1, w.okE p (.str _) h.2⟩
  · exact h.elim
theorem sc_list : SdC C (fun xs H Q => ∃ p ys, xs = [.ref p] ∧ (SqL C.K H p ys ∨ SqT C.K H p ys) ∧ ∀ l, H l = none → Q (.ref l) (upd H l (.lst ys))) kList := fun xs ds F M H q Q w r h p => by
  unfold kList at h
  split at h
  · obtain ⟨v, rfl, rv⟩ := Reps.one r
    split at h
    · rename_i e
      obtain ⟨a, ys, rfl, hq, rr⟩ := seqItems_at w rv e
      exact ⟨a, ys, rfl, hq, fun l hl => w.newE p hl (rep_lst (w.freeF hl) rr) h⟩
    · exact h.elim
  · exact h.elim
theorem sc_tuple : SdC C (fun xs H Q => ∃ p ys, xs = [.ref p] ∧ ((SqL C.K H p ys ∧ ∀ l, H l = none → Q (.ref l) (upd H l (.tup ys))) ∨ (SqT C.K H p ys ∧ Q (.ref p) H))) kTuple := fun xs ds F M H q Q w r h p => by
  unfold kTuple at h
  split at h
  · obtain ⟨v, rfl, rv⟩ := Reps.one r
    cases rv with | tup e rr => ?_
    exact ⟨_, _, rfl, .inr ⟨.of (w.sub _ _ e), w.okE p (.tup e rr) h⟩⟩
  · obtain ⟨v, rfl, rv⟩ := Reps.one r
    split at h
    · rename_i e
      obtain ⟨a, ys, rfl, hq, rr⟩ := items_at w rv e
      exact ⟨a, ys, rfl, .inl ⟨.of hq, fun l hl => w.newE p hl (rep_tup (w.freeF hl) rr) h⟩⟩
    · exact h.elim
  · exact h.elim
theorem sc_isi : SdC C (rIsi C.K) kIsi := fun xs ds F M H q Q w r h p => by
  unfold kIsi at h
  split at h
  · obtain ⟨v, u, rfl, rv, ru⟩ := Reps.two r
    cases ru
    obtain ⟨t, b, h1, h2, h3⟩ := h
    exact ⟨_, _, .type t, .type _, b, rfl, .ty _, tyName_at w rv h1, kit_ty h2, w.okE p (.bl _) h3⟩
  · exact h.elim
end
end DL

set_option Elab.async false
set_option linter.all false
set_option maxRecDepth 100000
set_option maxHeartbeats 1000000
namespace DL
open PySem L2 PyProof.Rows RZ

/-! ### small statements -/
def dNext : DS := fun DD δ M => DD.nx δ M
def dSeq (t u : DS) : DS := fun DD δ M => t { DD with nx := u DD } δ M
def dBreak : DS := fun DD δ M => DD.bk δ M
def dCont : DS := fun DD δ M => DD.ct δ M
def dDrop (da : DE) : DS := fun DD δ M => da δ M fun _ M1 => DD.nx δ M1
def dRet (da : DE) : DS := fun DD δ M => da δ M DD.rt
def dRetN : DS := fun DD _ M => DD.rt .non M
def dIfS (t : DT) (a b : DS) : DS := fun DD δ M => t δ M fun c M1 => if c = true then a DD δ M1 else b DD δ M1
def dNever : DS := fun _ _ _ => False
abbrev DG := D → DEnv → Mh → (DEnv → Mh → Prop) → Prop
abbrev DGs := List D → DEnv → Mh → (DEnv → Mh → Prop) → Prop
def SdG (C : Cd) (tg : TG) (dg : DG) : Prop := ∀ d v δ σ F M H (q : DEnv → Mh → Prop) (Q : L2.St → Hp → Prop), At C F M H σ δ → Rep C.K F v d → dg d δ M q → (∀ δ' σ' F' M' H', Wl C.K F' M' H' → Gr F M H F' M' H' → Envs C.K F' σ' δ' → q δ' M' → Q σ' H') → tg v σ H Q
def SdGs (C : Cd) (tg : TGs) (dg : DGs) : Prop := ∀ ds vs δ σ F M H (q : DEnv → Mh → Prop) (Q : L2.St → Hp → Prop), At C F M H σ δ → Reps C.K F vs ds → dg ds δ M q → (∀ δ' σ' F' M' H', Wl C.K F' M' H' → Gr F M H F' M' H' → Envs C.K F' σ' δ' → q δ' M' → Q σ' H') → tg vs σ H Q
/-- the targets' own slots -/
def GW (vs : List Nat) (tg : TG) : Prop := ∀ v σ0 σ H (Q Q' : L2.St → Hp → Prop), L2.wipe σ vs = σ0 → tg v σ H Q → (∀ σ2 H2, L2.wipe σ2 vs = σ0 → Q σ2 H2 → Q' σ2 H2) → tg v σ H Q'
def GWs (vs : List Nat) (tg : TGs) : Prop := ∀ us σ0 σ H (Q Q' : L2.St → Hp → Prop), L2.wipe σ vs = σ0 → tg us σ H Q → (∀ σ2 H2, L2.wipe σ2 vs = σ0 → Q σ2 H2 → Q' σ2 H2) → tg us σ H Q'
structure PDG (X : Cx) (C : Cd) (e : Expr) (dg : DG) (vs : List Nat) : Prop where
  ex : ∃ tg, PG X e tg ∧ SdG C tg dg ∧ GW vs tg
structure PDGs (X : Cx) (C : Cd) (es : List Expr) (dg : DGs) (vs : List Nat) : Prop where
  ex : ∃ tg, PGs X es tg ∧ SdGs C tg dg ∧ GWs vs tg
def dName (i : Nat) : DG := fun d δ M q => q (δ.set i (some d)) M
def dgNil : DGs := fun ds δ M q => match ds with
  | [] => q δ M
  | _ => False
def dgCons (t : DG) (u : DGs) : DGs := fun ds δ M q => match ds with
  | d :: r => t d δ M fun δ1 M1 => u r δ1 M1 q
  | [] => False
def dUnp (n : Nat) (t : DGs) : DG := fun d δ M q => match d with
  | .tup ds => ds.length = n ∧ t ds δ M q
  | .lst ds => ds.length = n ∧ t ds δ M q
  | _ => False
def dAsg (da : DE) (g : DG) : DS := fun DD δ M => da δ M fun x M1 => g x δ M1 DD.nx

section
variable {X : Cx} {C : Cd} {st : Stmt} {rest : List Stmt} {t u : TS} {dt du : DS} {e : Expr} {te : TE} {de : DE} {pos : Pos}
theorem sd_seq (h : SdS C t dt) (h' : SdS C u du) : SdS C (tSeq t u) (dSeq dt du) := fun δ σ F M H DD DV a h1 p => by
  refine h δ σ F M H _ _ a h1 ⟨fun δ1 σ1 F1 M1 H1 w1 g1 e1 h2 => ?_, p.rt, p.bk, p.ct⟩
  exact h' δ1 σ1 F1 M1 H1 DD DV ⟨w1, a.g.trans g1, e1⟩ h2 (p.from g1)
theorem pds_nil : PDSs X C [] dNext := ⟨_, pss_nil, fun δ σ F M H DD DV a h p => p.nx δ σ F M H a.w (Gr.refl F M H) a.e h⟩
theorem pds_cons (h : PDS X C st dt) (h' : PDSs X C rest du) : PDSs X C (st :: rest) (dSeq dt du) := by
  obtain ⟨t, h1, h2⟩ := h.ex
  obtain ⟨u, h3, h4⟩ := h'.ex
  exact ⟨_, pss_cons h1 h3, sd_seq h2 h4⟩
theorem pds_one (h : PDS X C st dt) : PDSs X C [st] dt := by
  obtain ⟨t, h1, h2⟩ := h.ex
  exact ⟨_, pss_one h1, h2⟩
theorem pd_pass : PDS X C (.Pass pos) dNext := ⟨_, ps_pass, fun δ σ F M H DD DV a h p => p.nx δ σ F M H a.w (Gr.refl F M H) a.e h⟩
theorem pd_break : PDS X C (.Break pos) dBreak := ⟨_, ps_break, fun δ σ F M H DD DV a h p => p.bk δ σ F M H a.w (Gr.refl F M H) a.e h⟩
theorem pd_continue : PDS X C (.Continue pos) dCont := ⟨_, ps_continue, fun δ σ F M H DD DV a h p => p.ct δ σ F M H a.w (Gr.refl F M H) a.e h⟩
theorem pd_never : PDS X C st dNever := ⟨_, ps_never, fun δ σ F M H DD DV a h p => h.elim⟩
theorem pds_never {sts : List Stmt} : PDSs X C sts dNever := ⟨_, pss_never, fun δ σ F M H DD DV a h p => h.elim⟩
theorem pd_expr (he : PD X C e de) (hs : swapsWith e none pos.line X.env = pure false := by rfl) : PDS X C (.Expr e pos) (dDrop de) := by
  obtain ⟨t, h1, h2⟩ := he.ex
  refine ⟨_, ps_expr h1 hs, fun δ σ F M H DD DV a h p => ?_⟩
  exact h2 δ σ F M H _ _ a h fun x v F1 M1 H1 w1 g1 r1 h1 => p.nx δ σ F1 M1 H1 w1 g1 (a.e.mono g1.fr) h1
theorem pd_ret (he : PD X C e de) : PDS X C (.Return (some e) pos) (dRet de) := by
  obtain ⟨t, h1, h2⟩ := he.ex
  refine ⟨_, ps_ret h1, fun δ σ F M H DD DV a h p => ?_⟩
  exact h2 δ σ F M H _ _ a h fun x v F1 M1 H1 w1 g1 r1 h1 => p.rt x v F1 M1 H1 w1 g1 r1 h1
theorem pd_retN : PDS X C (.Return none pos) dRetN := ⟨_, ps_retN, fun δ σ F M H DD DV a h p => p.rt _ _ F M H a.w (Gr.refl F M H) .non h⟩
theorem pd_if {c : Expr} {a b : List Stmt} {dc : DT} (hc : PDT X C c dc) (ha : PDSs X C a dt) (hb : PDSs X C b du) : PDS X C (.If c a b pos) (dIfS dc dt du) := by
  obtain ⟨tc, h1, h2⟩ := hc.ex
  obtain ⟨t, h3, h4⟩ := ha.ex
  obtain ⟨u, h5, h6⟩ := hb.ex
  refine ⟨_, ps_if h1 h3 h5, fun δ σ F M H DD DV a h p => ?_⟩
  refine h2 δ σ F M H _ _ a h fun b F1 M1 H1 w1 g1 h1 => ?_
  cases b with
  | true => exact h4 δ σ F1 M1 H1 DD DV (a.step w1 g1) h1 (p.from g1)
  | false => exact h6 δ σ F1 M1 H1 DD DV (a.step w1 g1) h1 (p.from g1)
/-! ### targets -/
theorem wipe_get {σ : L2.St} : ∀ {vs : List Nat} {i : Nat}, i ∈ vs → i < σ.length → (L2.wipe σ vs)[i]? = some none
  | v :: vs, i, h, hl => by
    unfold L2.wipe
    rw [List.getElem?_set]
    by_cases q : v = i
    · rw [if_pos q, if_pos (by rw [L2.wipe_length, q]; exact hl)]
    · rw [if_neg q]
      exact wipe_get (List.mem_of_ne_of_mem (fun z => q z.symm) h) hl
theorem wipe_set {σ : L2.St} {i : Nat} {x : Option V} : ∀ {vs : List Nat}, i ∈ vs → L2.wipe (σ.set i x) vs = L2.wipe σ vs
  | v :: vs, h => by
    unfold L2.wipe
    by_cases q : i ∈ vs
    · rw [wipe_set q]
    · have e : i = v := by
        rcases List.mem_cons.mp h with z | z
        · exact z
        · exact absurd z q
      subst e
      have : ∀ (vs : List Nat), i ∉ vs → (L2.wipe (σ.set i x) vs).set i none = (L2.wipe σ vs).set i none := by
        intro vs
        induction vs with
        | nil => intro _; unfold L2.wipe; rw [List.set_set]
        | cons v vs ih =>
          intro hn
          unfold L2.wipe
          have h1 : i ≠ v := fun z => hn (by rw [z]; exact List.mem_cons_self)
          have h2 : i ∉ vs := fun z => hn (List.mem_cons_of_mem _ z)
          rw [List.set_comm _ _ (Ne.symm h1), ih h2, List.set_comm _ _ h1]
      exact this vs q
theorem pdg_name {vs : List Nat} {i : Nat} {x : Str} (hN : X.N.Nodup) (hi : X.N[i]? = some x) (hx : Loc X.env.scope x) (hv : i ∈ vs) (hf : X.fn x = true ∨ X.env.scope.names.lookup x = some .local := by first | exact .inl rfl | exact .inr rfl | assumption) : PDG X C (.Name x pos) (dName i) vs :=
  ⟨_, pg_name hN hi hx hf, fun d v δ σ F M H q Q a r h p => p _ _ F M H a.w (Gr.refl F M H) (a.e.set r) h, fun v σ0 σ H Q Q' e h k => k _ _ ((wipe_set hv).trans e) h⟩
theorem pdgs_nil {vs : List Nat} : PDGs X C [] dgNil vs := ⟨_, pgs_nil, fun ds us δ σ F M H q Q a r h p => by
  cases r with
  | nil => exact ⟨rfl, p _ _ F M H a.w (Gr.refl F M H) a.e h⟩
  | cons _ _ => exact h.elim, fun us σ0 σ H Q Q' e h k => ⟨h.1, k _ _ e h.2⟩⟩
theorem pdgs_cons {vs : List Nat} {e : Expr} {es : List Expr} {t : DG} {u : DGs} (h1 : PDG X C e t vs) (h2 : PDGs X C es u vs)
    (hs : (assignEach (e :: es) X.env).map (·.2) = assign e X.env :: (assignEach es X.env).map (·.2) := by rfl) : PDGs X C (e :: es) (dgCons t u) vs := by
  obtain ⟨tg, a1, a2, a3⟩ := h1.ex
  obtain ⟨tu, b1, b2, b3⟩ := h2.ex
  refine ⟨_, pgs_cons a1 b1 hs, fun ds us δ σ F M H q Q a r h p => ?_, fun us σ0 σ H Q Q' e h k => ?_⟩
  · cases r with
    | nil => exact h.elim
    | cons r rr =>
      refine ⟨_, _, rfl, a2 _ _ δ σ F M H _ _ a r h fun δ1 σ1 F1 M1 H1 w1 g1 e1 h1 => ?_⟩
      exact b2 _ _ δ1 σ1 F1 M1 H1 _ _ ⟨w1, a.g.trans g1, e1⟩ (rr.mono g1.fr) h1 fun δ2 σ2 F2 M2 H2 w2 g2 e2 h2 => p δ2 σ2 F2 M2 H2 w2 (g1.trans g2) e2 h2
  · obtain ⟨v, r, rfl, h⟩ := h
    exact ⟨v, r, rfl, a3 v σ0 σ H _ _ e h fun σ2 H2 e2 h2 => b3 r σ0 σ2 H2 Q Q' e2 h2 k⟩
theorem PG_or {e : Expr} {t t' : TG} (h : PG X e t) (h' : PG X e t') : PG X e (fun v σ H Q => t v σ H Q ∨ t' v σ H Q) := by
  refine ⟨fun pins s σ H v u Q I r q => ?_⟩
  rcases q with q | q
  · exact h.run pins s σ H v u Q I r q
  · exact h'.run pins s σ H v u Q I r q
theorem pdg_tup {vs : List Nat} {es : List Expr} {k : Nat} {t : DGs} {n : Nat} (hK : C.K = X.K) (hc : X.calm = true) (h : PDGs X C es t vs)
    (hn : (assignEach es X.env).length = n := by rfl) (hst : (assignEach es X.env).findIdx? (·.1) = none := by rfl) : PDG X C (.Tuple es k pos) (dUnp n t) vs := by
  obtain ⟨tg, a1, a2, a3⟩ := h.ex
  refine ⟨_, PG_or (pg_tup hc a1 hn hst) (pg_unl hc a1 hn hst), fun d v δ σ F M H q Q a r h p => ?_, fun v σ0 σ H Q Q' e h k => ?_⟩
  · rw [← hK]
    unfold dUnp at h
    split at h
    · cases r with | tup e r => ?_
      exact .inl ⟨_, _, rfl, .of (a.w.sub _ _ e), by rw [r.length]; exact h.1, a2 _ _ δ σ F M H q Q a r h.2 p⟩
    · cases r with | lst e r => ?_
      exact .inr ⟨_, _, rfl, .of (a.w.sub _ _ e), by rw [r.length]; exact h.1, a2 _ _ δ σ F M H q Q a r h.2 p⟩
    · exact h.elim
  · rcases h with ⟨x, xs, h1, h2, h3, h4⟩ | ⟨x, xs, h1, h2, h3, h4⟩
    · exact .inl ⟨x, xs, h1, h2, h3, a3 xs σ0 σ H Q Q' e h4 k⟩
    · exact .inr ⟨x, xs, h1, h2, h3, a3 xs σ0 σ H Q Q' e h4 k⟩
theorem sd_asg {tg : TG} {dg : DG} (h : SdE C te de) (h' : SdG C tg dg) : SdS C (tAsg te tg) (dAsg de dg) := fun δ σ F M H DD DV a h1 p => by
  refine h δ σ F M H _ _ a h1 fun x v F1 M1 H1 w1 g1 r1 h2 => ?_
  exact h' x v δ σ F1 M1 H1 _ _ (a.step w1 g1) r1 h2 fun δ2 σ2 F2 M2 H2 w2 g2 e2 h3 => p.nx δ2 σ2 F2 M2 H2 w2 (g1.trans g2) e2 h3
theorem pd_asg {vs : List Nat} {tg : Expr} {dg : DG} (he : PD X C e de) (hg : PDG X C tg dg vs) (hs : swapsWithSole [tg] e pos.line X.env = pure false := by rfl) (hw : swappedStores [tg] e X.env = pure none := by rfl)
    (h1 : (assignEach [tg] X.env).map (·.2) = [assign tg X.env] := by rfl) : PDS X C (.Assign [tg] e pos) (dAsg de dg) := by
  obtain ⟨t, a1, a2⟩ := he.ex
  obtain ⟨g, b1, b2, _⟩ := hg.ex
  exact ⟨_, ps_asg a1 b1 hs hw h1, sd_asg a2 b2⟩
theorem pd_set {i : Nat} {x : Str} {pos' : Pos} (hN : X.N.Nodup) (hi : X.N[i]? = some x) (hx : Loc X.env.scope x) (he : PD X C e de) (hs : swapsWith e (some (.Name x pos')) pos.line X.env = pure false := by rfl) (hf : X.fn x = true ∨ X.env.scope.names.lookup x = some .local := by first | exact .inl rfl | exact .inr rfl | assumption) :
    PDS X C (.Assign [.Name x pos'] e pos) (dAsg de (dName i)) := by
  obtain ⟨t, a1, a2⟩ := he.ex
  exact ⟨_, ps_set hN hi hx a1 hs hf, sd_asg a2 fun d v δ σ F M H q Q a r h p => p _ _ F M H a.w (Gr.refl F M H) (a.e.set r) h⟩
/-- a, b = x, y by plain names -/
def dPar (i j : Nat) (da : DA) : DS := fun DD δ M => da δ M fun xs M1 => match xs with
  | [v, w] => DD.nx ((δ.set i (some v)).set j (some w)) M1
  | _ => False
theorem pd_par {i j : Nat} {x y : Str} {a b : Expr} {da : DA} {px py pt : Pos} {kt k2 pt2} (hc : X.calm = true) (hN : X.N.Nodup) (hi : X.N[i]? = some x) (hj : X.N[j]? = some y) (hij : i ≠ j)
    (hx : X.env.scope.names.lookup x = some .local) (hy : X.env.scope.names.lookup y = some .local) (ha : PDA X C [a, b] da)
    (hw : swappedStores [.Tuple [.Name x px, .Name y py] kt pt] (.Tuple [a, b] k2 pt2) X.env = pure (some [x, y]) := by rfl)
    (hs : swapsWithSole [.Tuple [.Name x px, .Name y py] kt pt] (.Tuple [a, b] k2 pt2) pos.line X.env = pure false := by rfl) :
    PDS X C (.Assign [.Tuple [.Name x px, .Name y py] kt pt] (.Tuple [a, b] k2 pt2) pos) (dPar i j da) := by
  obtain ⟨t, a1, a2⟩ := ha.ex
  refine ⟨_, ps_par hc hN hi hj hij hx hy a1 hw hs, fun δ σ F M H DD DV a h p => ?_⟩
  refine a2 δ σ F M H _ _ a h fun xs vs F1 M1 H1 w1 g1 r1 h1 => ?_
  split at h1
  · obtain ⟨v, u, rfl, rv, ru⟩ := Reps.two r1
    exact ⟨v, u, rfl, p.nx _ _ F1 M1 H1 w1 g1 (((a.e.mono g1.fr).set rv).set ru) h1⟩
  · exact h1.elim
/-- a, b, c = x, y, z by plain names -/
def dPar3 (i j l : Nat) (da : DA) : DS := fun DD δ M => da δ M fun xs M1 => match xs with
  | [v, w, u] => DD.nx (((δ.set i (some v)).set j (some w)).set l (some u)) M1
  | _ => False
theorem Reps.three {K : PySem.W.Frag} {F : Hp} {xs : List V} {a b c : D} (r : Reps K F xs [a, b, c]) : ∃ u v w, xs = [u, v, w] ∧ Rep K F u a ∧ Rep K F v b ∧ Rep K F w c := by
  cases r with | cons r t => obtain ⟨u, v, rfl, r2, r3⟩ := Reps.two t; exact ⟨_, _, _, rfl, r, r2, r3⟩
theorem pd_par3 {i j l : Nat} {x y z : Str} {a b c : Expr} {da : DA} {px py pz pt : Pos} {kt k2 pt2} (hc : X.calm = true) (hN : X.N.Nodup) (hi : X.N[i]? = some x) (hj : X.N[j]? = some y) (hl : X.N[l]? = some z) (hij : i ≠ j) (hil : i ≠ l) (hjl : j ≠ l)
    (hx : X.env.scope.names.lookup x = some .local) (hy : X.env.scope.names.lookup y = some .local) (hz : X.env.scope.names.lookup z = some .local) (ha : PDA X C [a, b, c] da)
    (hw : swappedStores [.Tuple [.Name x px, .Name y py, .Name z pz] kt pt] (.Tuple [a, b, c] k2 pt2) X.env = pure (some [x, y, z]) := by rfl)
    (hs : swapsWithSole [.Tuple [.Name x px, .Name y py, .Name z pz] kt pt] (.Tuple [a, b, c] k2 pt2) pos.line X.env = pure false := by rfl) :
    PDS X C (.Assign [.Tuple [.Name x px, .Name y py, .Name z pz] kt pt] (.Tuple [a, b, c] k2 pt2) pos) (dPar3 i j l da) := by
  obtain ⟨t, a1, a2⟩ := ha.ex
  refine ⟨_, ps_par3 hc hN hi hj hl hij hil hjl hx hy hz a1 hw hs, fun δ σ F M H DD DV a h p => ?_⟩
  refine a2 δ σ F M H _ _ a h fun xs vs F1 M1 H1 w1 g1 r1 h1 => ?_
  split at h1
  · obtain ⟨v, u, w, rfl, rv, ru, rw'⟩ := Reps.three r1
    exact ⟨v, u, w, rfl, p.nx _ _ F1 M1 H1 w1 g1 ((((a.e.mono g1.fr).set rv).set ru).set rw') h1⟩
  · exact h1.elim
/-- x += e, x -= e of ints -/
def dAug (i : Nat) (dr : DR2) (da : DE) : DS := fun DD δ M => match δ[i]? with
  | some (some d) => da δ M fun y M1 => dr d y M1 fun z M2 => DD.nx (δ.set i (some z)) M2
  | _ => False
theorem pd_augI {i : Nat} {x : Str} {op : Operator} {f : Int → Int → Int} {pos' : Pos} (hN : X.N.Nodup) (hi : X.N[i]? = some x) (hx : Loc X.env.scope x) (ho : PIp X op (ipI f)) (he : PD X C e de) (hf : X.fn x = true ∨ X.env.scope.names.lookup x = some .local := by first | exact .inl rfl | exact .inr rfl | assumption) :
    PDS X C (.AugAssign (.Name x pos') op e pos) (dAug i (oI fun a b => .int (f a b)) de) := by
  obtain ⟨t, a1, a2⟩ := he.ex
  refine ⟨_, ps_aug hN hi hx a1 ho hf, fun δ σ F M H DD DV a h p => ?_⟩
  unfold dAug at h
  split at h
  · rename_i d e1
    obtain ⟨v, hv, rv⟩ := a.e.at_ i d e1
    refine ⟨v, hv, a2 δ σ F M H _ _ a h fun y u F1 M1 H1 w1 g1 r1 h1 => ?_⟩
    unfold oI at h1
    split at h1
    · cases rv; cases r1
      exact ⟨_, _, rfl, rfl, p.nx _ _ F1 M1 H1 w1 g1 ((a.e.mono g1.fr).set (.int _)) h1⟩
    · exact h1.elim
  · exact h.elim
end

/-! ### what is walked -/
structure ItOk (C : Cd) (F : Hp) (M : Mh) (H : Hp) (J : It) (ds : List D) : Prop where
  go : ∀ F' M' H', Wl C.K F' M' H' → Gr F M H F' M' H' → ∀ i, i < ds.length → J.go i H'
  stop : ∀ F' M' H', Wl C.K F' M' H' → Gr F M H F' M' H' → J.stop ds.length H'
  yld : ∀ F' M' H' i x H'', Wl C.K F' M' H' → Gr F M H F' M' H' → i < ds.length → J.yld i H' x H'' → ∃ d F'', ds[i]? = some d ∧ Wl C.K F'' M' H'' ∧ Gr F' M' H' F'' M' H'' ∧ Rep C.K F'' x d
abbrev DI := DEnv → Mh → (List D → Mh → Prop) → Prop
def SdI (C : Cd) (wi : TI) (di : DI) : Prop := ∀ δ σ F M H (q : List D → Mh → Prop) (R : It → Hp → Prop), At C F M H σ δ → di δ M q → (∀ J ds F' M' H', Wl C.K F' M' H' → Gr F M H F' M' H' → ItOk C F' M' H' J ds → q ds M' → R J H') → wi σ H R
structure PDI (X : Cx) (C : Cd) (tg e : Expr) (di : DI) : Prop where
  ex : ∃ wi, PI X tg e wi ∧ SdI C wi di
/-- a list or a tuple that stands still -/
def dSeqI (da : DE) : DI := fun δ M q => da δ M fun x M1 => match x with
  | .lst ds => q ds M1
  | .tup ds => q ds M1
  | .ktp ds => q ds M1
  | _ => False
open PySem.Spec in
theorem pi_seqA {X : Cx} {tg l : Expr} {tl : TE} (hl : PE X l tl) : PI X tg l (fun σ H R => tl σ H fun x H1 => (∃ a, x = .ref a ∧ (∃ xs, SqL X.K H1 a xs) ∧ R (Itl X.K a) H1) ∨ (∃ a, x = .ref a ∧ (∃ xs, SqT X.K H1 a xs) ∧ R (Itt X.K a) H1)) := by
  refine ⟨fun pins s σ H R I h => ?_⟩
  refine thn (hl.run pins s σ H _ I h) fun v s1 ⟨x, H1, I1, r1, q1⟩ => ?_
  rcases q1 with ⟨a, e, ⟨xs, hq⟩, q⟩ | ⟨a, e, ⟨xs, hq⟩, q⟩
  · subst e
    cases r1
    obtain ⟨its, rv, p, hz⟩ := I1.list hq
    refine wpAny_pyIter_list p.isList ?_
    refine ⟨s1.heap.objs.size, [s1.heap.objs.size], _, _, H1, rfl, I1.kept (t' := s1.toks) fun b o e => Heap.get?_push_of_some _ e, turn_list a _, ⟨_, Heap.get?_push_size _ rfl, rfl, rfl⟩, fun b hb => ?_, q⟩
    have e : b = s1.heap.objs.size := by simpa using hb
    subst e
    exact I1.fpOk (Nat.le_refl _) (I1.hok.fresh (Nat.le_refl _))
  · subst e
    cases r1
    obtain ⟨its, rv, p, hz⟩ := I1.tuple hq
    refine wpAny_pyIter_tuple (show s1.heap.IsTuple a its.toArray from p) ?_
    refine ⟨s1.heap.objs.size, [s1.heap.objs.size], _, _, H1, rfl, I1.kept (t' := s1.toks) fun b o e => Heap.get?_push_of_some _ e, turn_tuple a _, ⟨_, Heap.get?_push_size _ rfl, rfl, rfl⟩, fun b hb => ?_, q⟩
    have e : b = s1.heap.objs.size := by simpa using hb
    subst e
    exact I1.fpOk (Nat.le_refl _) (I1.hok.fresh (Nat.le_refl _))
theorem wl_lst {K : PySem.W.Frag} {F F' H' : Hp} {M' : Mh} {a : Addr} {o : HO} (h : F a = some o) (w : Wl K F' M' H') (fr : Same F F') : H' a = some o := w.sub _ _ (fr _ _ h)
section
variable {X : Cx} {C : Cd} {tg e : Expr} {da : DE} {pos : Pos}
theorem itok_list {F H : Hp} {M : Mh} {a : Addr} {xs : List V} {ds : List D} (h : F a = some (.lst xs)) (r : Reps C.K F xs ds) : ItOk C F M H (Itl C.K a) ds where
  go := fun F' M' H' w g i hi => by
    obtain ⟨v, hv, _⟩ := r.get (List.getElem?_eq_getElem hi)
    exact ⟨xs, v, .of (wl_lst h w g.fr), hv⟩
  stop := fun F' M' H' w g => ⟨xs, .of (wl_lst h w g.fr), by rw [r.length]; exact Nat.le_refl _⟩
  yld := fun F' M' H' i x H'' w g hi y => by
    obtain ⟨e, y⟩ := y
    subst e
    obtain ⟨d, hd, rd⟩ := r.getV (y xs (.of (wl_lst h w g.fr)))
    exact ⟨d, F', hd, w, Gr.refl _ _ _, rd.mono g.fr⟩
theorem itok_tup {F H : Hp} {M : Mh} {a : Addr} {xs : List V} {ds : List D} (h : SqT C.K F a xs) (r : Reps C.K F xs ds) : ItOk C F M H (Itt C.K a) ds where
  go := fun F' M' H' w g i hi => by
    obtain ⟨v, hv, _⟩ := r.get (List.getElem?_eq_getElem hi)
    exact ⟨xs, v, sqt_mono (g.fr.trans w.sub) h, hv⟩
  stop := fun F' M' H' w g => ⟨xs, sqt_mono (g.fr.trans w.sub) h, by rw [r.length]; exact Nat.le_refl _⟩
  yld := fun F' M' H' i x H'' w g hi y => by
    obtain ⟨e, y⟩ := y
    subst e
    obtain ⟨d, hd, rd⟩ := r.getV (y xs (sqt_mono (g.fr.trans w.sub) h))
    exact ⟨d, F', hd, w, Gr.refl _ _ _, rd.mono g.fr⟩
theorem pdi_seq (hK : C.K = X.K) (ha : PD X C e da) : PDI X C tg e (dSeqI da) := by
  obtain ⟨t, h1, h2⟩ := ha.ex
  refine ⟨_, pi_seqA h1, fun δ σ F M H q R a h p => ?_⟩
  refine h2 δ σ F M H _ _ a h fun x v F1 M1 H1 w1 g1 r1 h1 => ?_
  rw [← hK]
  split at h1
  · cases r1 with | lst e r => ?_
    exact .inl ⟨_, rfl, ⟨_, .of (w1.sub _ _ e)⟩, p _ _ F1 M1 H1 w1 g1 (itok_list e r) h1⟩
  · cases r1 with | tup e r => ?_
    exact .inr ⟨_, rfl, ⟨_, .of (w1.sub _ _ e)⟩, p _ _ F1 M1 H1 w1 g1 (itok_tup (.of e) r) h1⟩
  · cases r1 with | ktp e r => ?_
    exact .inr ⟨_, rfl, ⟨_, sqt_mono w1.sub e⟩, p _ _ F1 M1 H1 w1 g1 (itok_tup e r) h1⟩
  · exact h1.elim
/-- range -/
def rgD (lo : Int) (n : Nat) : List D := (List.range n).map fun i => D.int (lo + (i : Nat))
theorem rgD_len (lo : Int) (n : Nat) : (rgD lo n).length = n := by unfold rgD; rw [List.length_map, List.length_range]
theorem rgD_get {lo : Int} {n i : Nat} (h : i < n) : (rgD lo n)[i]? = some (.int (lo + (i : Nat))) := by
  unfold rgD
  rw [List.getElem?_map, List.getElem?_range h]
  rfl
theorem itok_rg {F H : Hp} {M : Mh} {lo : Int} {n : Nat} : ItOk C F M H (Itr lo n) (rgD lo n) where
  go := fun F' M' H' w g i hi => by rw [rgD_len] at hi; exact hi
  stop := fun F' M' H' w g => by rw [rgD_len]; exact Nat.le_refl _
  yld := fun F' M' H' i x H'' w g hi y => by
    obtain ⟨e, e2⟩ := y
    subst e
    subst e2
    rw [rgD_len] at hi
    exact ⟨_, F', rgD_get hi, w, Gr.refl _ _ _, .int _⟩
def dRg1 (da : DA) : DI := fun δ M q => da δ M fun xs M1 => match xs with
  | [.int j] => -(2 ^ 62) ≤ j ∧ j < 2 ^ 62 ∧ q (rgD 0 j.toNat) M1
  | _ => False
def dRg2 (da : DA) : DI := fun δ M q => da δ M fun xs M1 => match xs with
  | [.int i, .int j] => (-(2 ^ 62) ≤ i ∧ i < 2 ^ 62 ∧ -(2 ^ 62) ≤ j ∧ j < 2 ^ 62) ∧ q (rgD i (j - i).toNat) M1
  | _ => False
theorem pdi_range1 {a : Expr} {da : DA} {p pos : Pos} (hg : Gl X "range") (hm : X.mg "range" = none) (ha : PDA X C [a] da) (hs : starEach [a] X.env = [(false, eval a X.env)] := by rfl) : PDI X C tg (.Call (.Name "range" p) [a] [] pos) (dRg1 da) := by
  obtain ⟨t, h1, h2⟩ := ha.ex
  refine ⟨_, pi_range1 hg hm h1 hs, fun δ σ F M H q R a h p => ?_⟩
  refine h2 δ σ F M H _ _ a h fun x v F1 M1 H1 w1 g1 r1 h1 => ?_
  split at h1
  · obtain ⟨v, rfl, rv⟩ := Reps.one r1
    cases rv
    exact ⟨_, rfl, h1.1, h1.2.1, p _ _ F1 M1 H1 w1 g1 itok_rg h1.2.2⟩
  · exact h1.elim
theorem pdi_range2 {a b : Expr} {da : DA} {p pos : Pos} (hg : Gl X "range") (hm : X.mg "range" = none) (ha : PDA X C [a, b] da) (hs : starEach [a, b] X.env = [(false, eval a X.env), (false, eval b X.env)] := by rfl) (hs2 : starEach [b] X.env = [(false, eval b X.env)] := by rfl) :
    PDI X C tg (.Call (.Name "range" p) [a, b] [] pos) (dRg2 da) := by
  obtain ⟨t, h1, h2⟩ := ha.ex
  refine ⟨_, pi_range2 hg hm h1 hs hs2, fun δ σ F M H q R a h p => ?_⟩
  refine h2 δ σ F M H _ _ a h fun x v F1 M1 H1 w1 g1 r1 h1 => ?_
  split at h1
  · obtain ⟨v, u, rfl, rv, ru⟩ := Reps.two r1
    cases rv; cases ru
    exact ⟨_, _, rfl, h1.1, p _ _ F1 M1 H1 w1 g1 itok_rg h1.2⟩
  · exact h1.elim
/-- enumerate of a list -/
def enD (k : Nat) : List D → List D
  | [] => []
  | d :: ds => .tup [.int (k : Nat), d] :: enD (k + 1) ds
theorem enD_len : ∀ (ds : List D) (k : Nat), (enD k ds).length = ds.length
  | [], _ => rfl
  | _ :: ds, k => by unfold enD; rw [List.length_cons, List.length_cons, enD_len ds]
theorem enD_get : ∀ {ds : List D} {k i : Nat} {d : D}, ds[i]? = some d → (enD k ds)[i]? = some (.tup [.int ((k + i : Nat) : Int), d])
  | _ :: _, k, 0, _, h => by cases h; rfl
  | _ :: ds, k, i + 1, d, h => by
    have := enD_get (k := k + 1) (i := i) (show ds[i]? = some d from h)
    rw [show k + 1 + i = k + (i + 1) by omega] at this
    exact this
theorem itok_enum {F H : Hp} {M : Mh} {a : Addr} {xs : List V} {ds : List D} (h : F a = some (.lst xs)) (r : Reps C.K F xs ds) : ItOk C F M H (Ite C.K a) (enD 0 ds) where
  go := fun F' M' H' w g i hi => by
    rw [enD_len] at hi
    obtain ⟨v, hv, _⟩ := r.get (List.getElem?_eq_getElem hi)
    exact ⟨xs, v, .of (wl_lst h w g.fr), hv⟩
  stop := fun F' M' H' w g => ⟨xs, .of (wl_lst h w g.fr), by rw [enD_len, r.length]; exact Nat.le_refl _⟩
  yld := fun F' M' H' i x H'' w g hi y => by
    obtain ⟨T, x, rfl, hT, rfl, y⟩ := y
    obtain ⟨d, hd, rd⟩ := r.getV (y xs (.of (wl_lst h w g.fr)))
    refine ⟨.tup [.int ((0 + i : Nat) : Int), d], _, enD_get hd, w.new hT, Gr.new w hT, rep_tup (w.freeF hT) (.cons ?_ (.cons (rd.mono g.fr) .nil))⟩
    rw [Nat.zero_add]
    exact .int _
def dEnum (da : DA) : DI := fun δ M q => da δ M fun xs M1 => match xs with
  | [.lst ds] => q (enD 0 ds) M1
  | _ => False
theorem pdi_enum {a : Expr} {da : DA} {p pos tpos : Pos} {elts : List Expr} {kk : Nat} (hK : C.K = X.K) (hg : Gl X "enumerate") (hm : X.mg "enumerate" = none) (ha : PDA X C [a] da) (hs : starEach [a] X.env = [(false, eval a X.env)] := by rfl) :
    PDI X C (.Tuple elts kk tpos) (.Call (.Name "enumerate" p) [a] [] pos) (dEnum da) := by
  obtain ⟨t, h1, h2⟩ := ha.ex
  refine ⟨_, pi_enum hg hm h1 hs, fun δ σ F M H q R a h p => ?_⟩
  refine h2 δ σ F M H _ _ a h fun x v F1 M1 H1 w1 g1 r1 h1 => ?_
  rw [← hK]
  split at h1
  · obtain ⟨v, rfl, rv⟩ := Reps.one r1
    cases rv with | lst e r => ?_
    exact ⟨_, _, rfl, .of (w1.sub _ _ e), p _ _ F1 M1 H1 w1 g1 (itok_enum e r) h1⟩
  · exact h1.elim
/-- zip of two lists, of two tuples -/
def zpD : List D → List D → List D
  | x :: xs, y :: ys => .tup [x, y] :: zpD xs ys
  | _, _ => []
theorem zpD_len : ∀ (xs ys : List D), (zpD xs ys).length = min xs.length ys.length
  | x :: xs, y :: ys => by unfold zpD; rw [List.length_cons, List.length_cons, List.length_cons, zpD_len xs ys]; omega
  | [], ys => by unfold zpD; simp
  | x :: xs, [] => by unfold zpD; simp
theorem zpD_get : ∀ {xs ys : List D} {i : Nat} {x y : D}, xs[i]? = some x → ys[i]? = some y → (zpD xs ys)[i]? = some (.tup [x, y])
  | _ :: _, _ :: _, 0, _, _, h, h' => by cases h; cases h'; rfl
  | _ :: xs, _ :: ys, i + 1, x, y, h, h' => zpD_get (xs := xs) (ys := ys) (i := i) h h'
theorem itok_zip {F H : Hp} {M : Mh} {a b : Addr} {xs ys : List V} {ds es : List D} (h : F a = some (.lst xs)) (r : Reps C.K F xs ds) (h' : F b = some (.lst ys)) (r' : Reps C.K F ys es) : ItOk C F M H (Itz C.K a b) (zpD ds es) where
  go := fun F' M' H' w g i hi => by
    rw [zpD_len] at hi
    obtain ⟨v, hv, _⟩ := r.get (List.getElem?_eq_getElem (show i < ds.length by omega))
    obtain ⟨u, hu, _⟩ := r'.get (List.getElem?_eq_getElem (show i < es.length by omega))
    exact ⟨xs, ys, v, u, .of (wl_lst h w g.fr), .of (wl_lst h' w g.fr), hv, hu⟩
  stop := fun F' M' H' w g => ⟨xs, ys, .of (wl_lst h w g.fr), .of (wl_lst h' w g.fr), by rw [zpD_len, r.length, r'.length]; omega⟩
  yld := fun F' M' H' i x H'' w g hi y => by
    obtain ⟨T, x, y, rfl, hT, rfl, z, z'⟩ := y
    obtain ⟨d, hd, rd⟩ := r.getV (z xs (.of (wl_lst h w g.fr)))
    obtain ⟨e, he, re⟩ := r'.getV (z' ys (.of (wl_lst h' w g.fr)))
    exact ⟨.tup [d, e], _, zpD_get hd he, w.new hT, Gr.new w hT, rep_tup (w.freeF hT) (.cons (rd.mono g.fr) (.cons (re.mono g.fr) .nil))⟩
theorem itok_zipT {F H : Hp} {M : Mh} {a b : Addr} {xs ys : List V} {ds es : List D} (h : SqT C.K F a xs) (r : Reps C.K F xs ds) (h' : SqT C.K F b ys) (r' : Reps C.K F ys es) : ItOk C F M H (ItzT C.K a b) (zpD ds es) where
  go := fun F' M' H' w g i hi => by
    rw [zpD_len] at hi
    obtain ⟨v, hv, _⟩ := r.get (List.getElem?_eq_getElem (show i < ds.length by omega))
    obtain ⟨u, hu, _⟩ := r'.get (List.getElem?_eq_getElem (show i < es.length by omega))
    exact ⟨xs, ys, v, u, sqt_mono (g.fr.trans w.sub) h, sqt_mono (g.fr.trans w.sub) h', hv, hu⟩
  stop := fun F' M' H' w g => ⟨xs, ys, sqt_mono (g.fr.trans w.sub) h, sqt_mono (g.fr.trans w.sub) h', by rw [zpD_len, r.length, r'.length]; omega⟩
  yld := fun F' M' H' i x H'' w g hi y => by
    obtain ⟨T, x, y, rfl, hT, rfl, z, z'⟩ := y
    obtain ⟨d, hd, rd⟩ := r.getV (z xs (sqt_mono (g.fr.trans w.sub) h))
    obtain ⟨e, he, re⟩ := r'.getV (z' ys (sqt_mono (g.fr.trans w.sub) h'))
    exact ⟨.tup [d, e], _, zpD_get hd he, w.new hT, Gr.new w hT, rep_tup (w.freeF hT) (.cons (rd.mono g.fr) (.cons (re.mono g.fr) .nil))⟩
def dZip (da : DA) : DI := fun δ M q => da δ M fun xs M1 => match xs with
  | [.lst ds, .lst es] => q (zpD ds es) M1
  | [.tup ds, .tup es] => q (zpD ds es) M1
  | _ => False
theorem pdi_zip {a b : Expr} {da : DA} {p pos tpos : Pos} {elts : List Expr} {kk : Nat} (hK : C.K = X.K) (hg : Gl X "zip") (hm : X.mg "zip" = none) (ha : PDA X C [a, b] da)
    (hs : starEach [a, b] X.env = (false, eval a X.env) :: starEach [b] X.env := by rfl) (hpl : (backTo pos (starEach [b] X.env)).any (·.1) = false := by rfl) :
    PDI X C (.Tuple elts kk tpos) (.Call (.Name "zip" p) [a, b] [] pos) (dZip da) := by
  obtain ⟨t, h1, h2⟩ := ha.ex
  refine ⟨_, pi_zipA hg hm h1 hs hpl, fun δ σ F M H q R a h p => ?_⟩
  refine h2 δ σ F M H _ _ a h fun x v F1 M1 H1 w1 g1 r1 h1 => ?_
  rw [← hK]
  split at h1
  · obtain ⟨v, u, rfl, rv, ru⟩ := Reps.two r1
    cases rv with | lst e r => ?_
    cases ru with | lst e' r' => ?_
    exact ⟨_, _, _, _, rfl, .inl ⟨.of (w1.sub _ _ e), .of (w1.sub _ _ e'), p _ _ F1 M1 H1 w1 g1 (itok_zip e r e' r') h1⟩⟩
  · obtain ⟨v, u, rfl, rv, ru⟩ := Reps.two r1
    cases rv with | tup e r => ?_
    cases ru with | tup e' r' => ?_
    exact ⟨_, _, _, _, rfl, .inr ⟨.of (w1.sub _ _ e), .of (w1.sub _ _ e'), p _ _ F1 M1 H1 w1 g1 (itok_zipT (.of e) r (.of e') r') h1⟩⟩
  · exact h1.elim
/-- a text, sign by sign -/
def sgD (x : Str) : List D := x.cps.toList.map fun c => D.str ⟨#[c]⟩
def dStrI (da : DE) : DI := fun δ M q => da δ M fun x M1 => match x with
  | .str z => q (sgD z) M1
  | _ => False
theorem itok_str {F H : Hp} {M : Mh} {x : Str} : ItOk C F M H (Its x) (sgD x) where
  go := fun F' M' H' w g i hi => by
    have : (sgD x).length = x.cps.size := by unfold sgD; rw [List.length_map, Array.length_toList]
    rw [this] at hi
    exact hi
  stop := fun F' M' H' w g => by
    have : (sgD x).length = x.cps.size := by unfold sgD; rw [List.length_map, Array.length_toList]
    rw [this]
    exact Nat.le_refl _
  yld := fun F' M' H' i v H'' w g hi y => by
    obtain ⟨e, c, hc, e2⟩ := y
    subst e
    subst e2
    refine ⟨.str ⟨#[c]⟩, F', ?_, w, Gr.refl _ _ _, .str _⟩
    unfold sgD
    rw [List.getElem?_map, Array.getElem?_toList, hc]
    rfl
theorem pdi_str (ha : PD X C e da) : PDI X C tg e (dStrI da) := by
  obtain ⟨t, h1, h2⟩ := ha.ex
  refine ⟨_, pi_str h1, fun δ σ F M H q R a h p => ?_⟩
  refine h2 δ σ F M H _ _ a h fun x v F1 M1 H1 w1 g1 r1 h1 => ?_
  split at h1
  · cases r1
    exact ⟨_, rfl, p _ _ F1 M1 H1 w1 g1 itok_str h1⟩
  · exact h1.elim
end
end DL

set_option Elab.async false
set_option linter.all false
set_option maxRecDepth 100000
set_option maxHeartbeats 1000000
namespace DL
open PySem L2 PyProof.Rows

/-! ### for -/
def dLoop (g : DG) (db : DS) (DD : DEnds) : List D → DEnv → Mh → Prop
  | [], δ, M => DD.nx δ M
  | d :: ds, δ, M => g d δ M fun δ2 M2 => db { nx := dLoop g db DD ds, rt := DD.rt, bk := DD.nx, ct := dLoop g db DD ds } δ2 M2
def dFor (di : DI) (g : DG) (db : DS) : DS := fun DD δ M => di δ M fun ds M1 => dLoop g db DD ds δ M1
section
variable {X : Cx} {C : Cd} {tg iter : Expr} {body : List Stmt} {di : DI} {dg : DG} {db : DS} {pos : Pos} {vs : List Nat}
theorem sd_for {wi : TI} {g : TG} {tb : TS} (hi : SdI C wi di) (hg : SdG C g dg) (hb : SdS C tb db) : SdS C (tFor wi g tb) (dFor di dg db) := fun δ σ F M H DD DV a h p => by
  refine hi δ σ F M H _ _ a h fun J ds F1 M1 H1 w1 g1 K1 h1 => ?_
  refine ⟨fun i m σ' H' => m = ds.length - i ∧ i ≤ ds.length ∧ ∃ δ' F' M', Wl C.K F' M' H' ∧ Gr F1 M1 H1 F' M' H' ∧ Envs C.K F' σ' δ' ∧ dLoop dg db DD (ds.drop i) δ' M', ⟨ds.length, by simp, Nat.zero_le _, δ, F1, M1, w1, Gr.refl _ _ _, a.e.mono g1.fr, by simpa using h1⟩, ?_⟩
  rintro i m σ' H' ⟨rfl, hi, δ', F', M', w', g', e', h'⟩
  by_cases hlt : i < ds.length
  · refine .inr ⟨K1.go F' M' H' w' g' i hlt, fun σ2 H2 => ∃ δ2 F2 M2, Wl C.K F2 M2 H2 ∧ Gr F1 M1 H1 F2 M2 H2 ∧ Envs C.K F2 σ2 δ2 ∧ dLoop dg db DD (ds.drop (i + 1)) δ2 M2, fun σ2 H2 n2 => ⟨ds.length - (i + 1), by omega, rfl, hlt, n2⟩, fun x H2 y => ?_⟩
    obtain ⟨d, F2, hd, w2, g2, r2⟩ := K1.yld F' M' H' i x H2 w' g' hlt y
    have hdrop : ds.drop i = d :: ds.drop (i + 1) := by
      rw [List.getElem?_eq_getElem hlt] at hd
      rw [List.drop_eq_getElem_cons hlt, Option.some.inj hd]
    rw [hdrop] at h'
    have a2 : At C F2 M' H2 σ' δ' := ⟨w2, a.g.trans (g1.trans (g'.trans g2)), e'.mono g2.fr⟩
    refine hg d x δ' σ' F2 M' H2 _ _ a2 r2 h' fun δ3 σ3 F3 M3 H3 w3 g3 e3 h3 => ?_
    have G3 := g'.trans (g2.trans g3)
    refine hb δ3 σ3 F3 M3 H3 _ _ ⟨w3, a2.g.trans g3, e3⟩ h3 ⟨fun δ4 σ4 F4 M4 H4 w4 g4 e4 h4 => ⟨δ4, F4, M4, w4, G3.trans g4, e4, h4⟩, fun d v F4 M4 H4 w4 g4 r4 h4 => p.rt d v F4 M4 H4 w4 (g1.trans (G3.trans g4)) r4 h4, fun δ4 σ4 F4 M4 H4 w4 g4 e4 h4 => p.nx δ4 σ4 F4 M4 H4 w4 (g1.trans (G3.trans g4)) e4 h4, fun δ4 σ4 F4 M4 H4 w4 g4 e4 h4 => ⟨δ4, F4, M4, w4, G3.trans g4, e4, h4⟩⟩
  · have e : i = ds.length := by omega
    subst e
    rw [List.drop_length] at h'
    exact .inl ⟨K1.stop F' M' H' w' g', p.nx δ' σ' F' M' H' w' (g1.trans g') e' h'⟩
theorem pd_for (hp : PassesOwn (model X.prog X.w) X.A X.env X.xe) (hc : X.calm = true) (hi : PDI X C tg iter di) (hg : PDG X C tg dg vs) (hb : PDSs X C body db)
    (hs : ∀ x, foldedSetIterable iter X.env x = pure x := by intro _; rfl) : PDS X C (.For tg iter body [] pos) (dFor di dg db) := by
  obtain ⟨wi, h1, h2⟩ := hi.ex
  obtain ⟨g, h3, h4, _⟩ := hg.ex
  obtain ⟨tb, h5, h6⟩ := hb.ex
  exact ⟨_, ps_for hp hc h1 h3 h5 hs, sd_for h2 h4 h6⟩

/-! ### comprehensions -/
def dComp (g : DG) (dt : DT) (de : DE) (δ : DEnv) (k : List D → Mh → Prop) : List D → List D → Mh → Prop
  | [], acc, M => k acc M
  | d :: ds, acc, M => g d δ M fun δ2 M2 => dt δ2 M2 fun b M3 => if b = true then de δ2 M3 fun y M4 => acc.length < sizeLine ∧ dComp g dt de δ k ds (acc ++ [y]) M4 else dComp g dt de δ k ds acc M3
/-- an expression that makes a new list -/
abbrev DLs := DEnv → Mh → (List D → Mh → Prop) → Prop
def SdL (C : Cd) (te : TE) (dl : DLs) : Prop := ∀ δ σ F M H (q : List D → Mh → Prop) (Q : VK), At C F M H σ δ → dl δ M q → (∀ ds vs p F' M' H', Wl C.K F' M' H' → Gr F M H F' M' H' → H p = none → F' p = none → M' p = none → H' p = some (.lst vs) → Reps C.K F' vs ds → q ds M' → Q (.ref p) H') → te σ H Q
structure PDL (X : Cx) (C : Cd) (e : Expr) (dl : DLs) : Prop where
  ex : ∃ te, PE X e te ∧ SdL C te dl
/-- .. read as data -/
def dOfL (dl : DLs) : DE := fun δ M q => dl δ M fun ds M1 => q (.lst ds) M1
/-- .. that may change -/
def dOfM (dl : DLs) : DE := fun δ M q => dl δ M fun ds M1 => ∀ l, M1 l = none → q (.adr l) (mset M1 l (.lst ds))
theorem sd_ofL {te : TE} {dl : DLs} (h : SdL C te dl) : SdE C te (dOfL dl) := fun δ σ F M H q Q a h1 p => by
  refine h δ σ F M H _ _ a h1 fun ds vs l F' M' H' w g hl fl ml hl' r h2 => ?_
  refine p _ _ (upd F' l (.lst vs)) M' H' ⟨fun b u e => ?_, fun b u e => ?_⟩ ⟨g.fr.trans (same_new fl), fun b u hb f m => ?_, g.dm⟩ (rep_lst fl r) h2
  · by_cases z : b = l
    · subst z; rw [upd_same] at e; cases e; exact hl'
    · rw [upd_ne z] at e; exact w.sub b u e
  · obtain ⟨z1, v, z2, z3⟩ := w.mu b u e
    have z : b ≠ l := fun z => by rw [z, ml] at e; cases e
    exact ⟨by rw [upd_ne z]; exact z1, v, z2, z3.mono (same_new fl)⟩
  · obtain ⟨z1, z2, z3⟩ := g.fz b u hb f m
    exact ⟨z1, by rw [upd_ne (ne_of_none hb hl)]; exact z2, z3⟩
theorem sd_ofM {te : TE} {dl : DLs} (h : SdL C te dl) : SdE C te (dOfM dl) := fun δ σ F M H q Q a h1 p => by
  refine h δ σ F M H _ _ a h1 fun ds vs l F' M' H' w g hl fl ml hl' r h2 => ?_
  refine p _ _ F' (mset M' l (.lst ds)) H' ⟨w.sub, fun b u e => ?_⟩ ⟨g.fr, fun b u hb f m => ?_, g.dm⟩ (.adr l) (h2 l ml)
  · by_cases z : b = l
    · subst z; rw [mset_same] at e; cases e; exact ⟨fl, _, hl', r⟩
    · rw [mset_ne z] at e; exact w.mu b u e
  · obtain ⟨z1, z2, z3⟩ := g.fz b u hb f m
    exact ⟨z1, z2, by rw [mset_ne (ne_of_none hb hl)]; exact z3⟩
theorem pd_ofL {e : Expr} {dl : DLs} (h : PDL X C e dl) : PD X C e (dOfL dl) := by
  obtain ⟨t, h1, h2⟩ := h.ex
  exact ⟨_, h1, sd_ofL h2⟩
theorem pd_ofM {e : Expr} {dl : DLs} (h : PDL X C e dl) : PD X C e (dOfM dl) := by
  obtain ⟨t, h1, h2⟩ := h.ex
  exact ⟨_, h1, sd_ofM h2⟩
def dLcL (di : DI) (g : DG) (dt : DT) (de : DE) (vs : List Nat) : DLs := fun δ M q => di δ M fun ds M1 => dComp g dt de (dwipe δ vs) q ds [] M1
abbrev dLc (di : DI) (g : DG) (dt : DT) (de : DE) (vs : List Nat) : DE := dOfL (dLcL di g dt de vs)
abbrev dLcM (di : DI) (g : DG) (dt : DT) (de : DE) (vs : List Nat) : DE := dOfM (dLcL di g dt de vs)
theorem wipe_wipe {σ : L2.St} {vs : List Nat} : L2.wipe (L2.wipe σ vs) vs = L2.wipe σ vs := by
  have : ∀ (us : List Nat), (∀ i ∈ us, i ∈ vs) → L2.wipe (L2.wipe σ us) vs = L2.wipe σ vs := by
    intro us
    induction us with
    | nil => intro _; rfl
    | cons v us ih =>
      intro hm
      show L2.wipe ((L2.wipe σ us).set v none) vs = _
      rw [wipe_set (hm v List.mem_cons_self)]
      exact ih fun i hi => hm i (List.mem_cons_of_mem _ hi)
  exact this vs fun _ h => h
/-- what a comprehension's turn keeps: nothing that stood ahead of the new list's making is touched -/
theorem sd_lc {wi : TI} {g : TG} {tt : TT} {te : TE} {dt : DT} {de : DE} (hi : SdI C wi di) (hg : SdG C g dg) (hw : GW vs g) (ht : SdT C tt dt) (he : SdE C te de) : SdL C (tLc wi g tt te vs) (dLcL di dg dt de vs) := fun δ σ F M H q Q a h p => by
  refine hi δ σ F M H _ _ a h fun J ds F1 M1 H1 w1 g1 K1 h1 => ?_
  intro L hL
  have hL1 : ∀ {F' M' H'}, Gr F1 M1 H1 F' M' H' → ∀ {o}, Gr F1 M1 H1 F' M' (upd H' L o) := fun {F' M' H'} g' {o} => by
    refine ⟨g'.fr, fun b u hb f m => ?_, fun b hb => ?_⟩
    · obtain ⟨z1, z2, z3⟩ := g'.fz b u hb f m
      exact ⟨by rw [upd_ne (ne_of_none hb hL)]; exact z1, z2, z3⟩
    · by_cases e : b = L
      · rw [e]; exact hL
      · rw [upd_ne e] at hb; exact g'.dm b hb
  have wL : ∀ {F' M' H' o}, F' L = none → M' L = none → Wl C.K F' M' H' → Wl C.K F' M' (upd H' L o) := fun {F' M' H' o} f m w' => by
    refine ⟨fun b u e => ?_, fun b u e => ?_⟩
    · rw [upd_ne (fun z => by rw [z, f] at e; cases e)]
      exact w'.sub b u e
    · obtain ⟨z1, v, z2, z3⟩ := w'.mu b u e
      exact ⟨z1, v, by rw [upd_ne (fun z => by rw [z, m] at e; cases e)]; exact z2, z3⟩
  refine ⟨fun i m H' => m = ds.length - i ∧ i ≤ ds.length ∧ ∃ F' M' acc vacc, Wl C.K F' M' H' ∧ Gr F1 M1 H1 F' M' H' ∧ H' L = some (.lst vacc) ∧ F' L = none ∧ M' L = none ∧ Reps C.K F' vacc acc ∧ dComp dg dt de (dwipe δ vs) q (ds.drop i) acc M',
    ⟨ds.length, by simp, Nat.zero_le _, F1, M1, [], [], wL (w1.freeF hL) (w1.freeM hL) w1, hL1 (Gr.refl _ _ _), upd_same, w1.freeF hL, w1.freeM hL, .nil, by simpa using h1⟩, ?_⟩
  rintro i m H' ⟨rfl, hi, F', M', acc, vacc, w', g', hl, fl, ml, ra, h'⟩
  by_cases hlt : i < ds.length
  · refine .inr ⟨K1.go F' M' H' w' g' i hlt, fun H2 => ∃ F2 M2 acc vacc, Wl C.K F2 M2 H2 ∧ Gr F1 M1 H1 F2 M2 H2 ∧ H2 L = some (.lst vacc) ∧ F2 L = none ∧ M2 L = none ∧ Reps C.K F2 vacc acc ∧ dComp dg dt de (dwipe δ vs) q (ds.drop (i + 1)) acc M2, fun H2 n2 => ⟨ds.length - (i + 1), by omega, rfl, hlt, n2⟩, fun x H2 y => ?_⟩
    obtain ⟨d, F2, hd, w2, g2, r2⟩ := K1.yld F' M' H' i x H2 w' g' hlt y
    have hdrop : ds.drop i = d :: ds.drop (i + 1) := by
      rw [List.getElem?_eq_getElem hlt] at hd
      rw [List.drop_eq_getElem_cons hlt, Option.some.inj hd]
    rw [hdrop] at h'
    obtain ⟨hl2, fl2, ml2⟩ := g2.fz L _ hl fl ml
    have a2 : At C F2 M' H2 (L2.wipe σ vs) (dwipe δ vs) := ⟨w2, a.g.trans (g1.trans (g'.trans g2)), (a.e.mono (g1.fr.trans (g'.fr.trans g2.fr))).wipe vs⟩
    have body : g x (L2.wipe σ vs) H2 fun σ3 H3 => tt σ3 H3 fun b H4 => if b = true then te σ3 H4 fun y H5 => ∃ acc, H5 L = some (.lst acc) ∧ acc.length < sizeLine ∧ (∃ F2 M2 acc' vacc, Wl C.K F2 M2 (upd H5 L (.lst (acc ++ [y]))) ∧ Gr F1 M1 H1 F2 M2 (upd H5 L (.lst (acc ++ [y]))) ∧ (upd H5 L (.lst (acc ++ [y]))) L = some (.lst vacc) ∧ F2 L = none ∧ M2 L = none ∧ Reps C.K F2 vacc acc' ∧ dComp dg dt de (dwipe δ vs) q (ds.drop (i + 1)) acc' M2) else
        (∃ F2 M2 acc' vacc, Wl C.K F2 M2 H4 ∧ Gr F1 M1 H1 F2 M2 H4 ∧ H4 L = some (.lst vacc) ∧ F2 L = none ∧ M2 L = none ∧ Reps C.K F2 vacc acc' ∧ dComp dg dt de (dwipe δ vs) q (ds.drop (i + 1)) acc' M2) := by
      refine hg d x _ _ F2 M' H2 _ _ a2 r2 h' fun δ3 σ3 F3 M3 H3 w3 g3 e3 h3 => ?_
      obtain ⟨hl3, fl3, ml3⟩ := g3.fz L _ hl2 fl2 ml2
      have a3 : At C F3 M3 H3 σ3 δ3 := ⟨w3, a2.g.trans g3, e3⟩
      refine ht δ3 σ3 F3 M3 H3 _ _ a3 h3 fun b F4 M4 H4 w4 g4 h4 => ?_
      obtain ⟨hl4, fl4, ml4⟩ := g4.fz L _ hl3 fl3 ml3
      have a4 := a3.step w4 g4
      have G4 : Gr F1 M1 H1 F4 M4 H4 := g'.trans (g2.trans (g3.trans g4))
      cases b with
      | true =>
        show te σ3 H4 _
        refine he δ3 σ3 F4 M4 H4 _ _ a4 h4 fun y' v' F5 M5 H5 w5 g5 r5 h5 => ?_
        obtain ⟨hl5, fl5, ml5⟩ := g5.fz L _ hl4 fl4 ml4
        have ra5 : Reps C.K F5 vacc acc := ra.mono (g2.fr.trans (g3.fr.trans (g4.fr.trans g5.fr)))
        exact ⟨vacc, hl5, by rw [ra5.length]; exact h5.1, F5, M5, acc ++ [y'], vacc ++ [v'], wL fl5 ml5 w5, hL1 (G4.trans g5), upd_same, fl5, ml5, ra5.append (.cons r5 .nil), h5.2⟩
      | false =>
        exact ⟨F4, M4, acc, vacc, w4, G4, hl4, fl4, ml4, ra.mono (g2.fr.trans (g3.fr.trans g4.fr)), h4⟩
    exact hw x (L2.wipe σ vs) (L2.wipe σ vs) H2 _ _ wipe_wipe body fun σ2 H3 e3 h3 => ⟨e3, h3⟩
  · have e : i = ds.length := by omega
    subst e
    rw [List.drop_length] at h'
    exact .inl ⟨K1.stop F' M' H' w' g', p _ _ L F' M' H' w' (g1.trans g') (g1.dm L hL) fl ml hl ra h'⟩
structure PDTs (X : Cx) (C : Cd) (ifs : List Expr) (dt : DT) : Prop where
  ex : ∃ tt, PTs X ifs tt ∧ SdT C tt dt
def dYes : DT := fun _ M q => q true M
theorem sd_yes : SdT C tYes dYes := fun δ σ F M H q Q a h p => p _ F M H a.w (Gr.refl _ _ _) h
theorem pdts_nil : PDTs X C [] dYes := ⟨_, pts_nil, sd_yes⟩
theorem pdts_one {c : Expr} {dt : DT} (h : PDT X C c dt) : PDTs X C [c] dt := by
  obtain ⟨t, h1, h2⟩ := h.ex
  exact ⟨_, pts_one h1, h2⟩
/-! one reading for a family of contexts -/
abbrev BlkI := Shared × Hp × Addr × List (Str × Addr) × List Addr
abbrev blkX (X : Cx) (scope : Scope) (i : BlkI) : Cx := X.blk i.1 i.2.1 scope (compEnvC scope i.2.2.2.1 i.2.2.1 X.env) i.2.2.2.2
theorem fam_PE {ι : Type} {Y : ι → Cx} {e : Expr} {de : DE} (h : ∀ i, PD (Y i) C e de) : ∃ t, (∀ i, PE (Y i) e t) ∧ SdE C t de := ⟨fun σ H Q => (∀ i, Classical.choose (h i).ex σ H Q) ∧ (∀ δ F M q, At C F M H σ δ → de δ M q → Post C F M H q Q → True), fun i => ⟨fun pins s σ H Q I hq => (Classical.choose_spec (h i).ex).1.run pins s σ H Q I (hq.1 i)⟩, fun δ σ F M H q Q a hd p => ⟨fun i => (Classical.choose_spec (h i).ex).2 δ σ F M H q Q a hd p, fun _ _ _ _ _ _ _ => trivial⟩⟩
theorem fam_PT {ι : Type} {Y : ι → Cx} {e : List Expr} {de : DT} (h : ∀ i, PDTs (Y i) C e de) : ∃ t, (∀ i, PTs (Y i) e t) ∧ SdT C t de := ⟨fun σ H Q => ∀ i, Classical.choose (h i).ex σ H Q, fun i => ⟨fun pins s σ H Q I hq => (Classical.choose_spec (h i).ex).1.run pins s σ H Q I (hq i)⟩, fun δ σ F M H q Q a hd p i => (Classical.choose_spec (h i).ex).2 δ σ F M H q Q a hd p⟩
theorem fam_PG {ι : Type} {Y : ι → Cx} {e : Expr} {dg : DG} {vs : List Nat} (h : ∀ i, PDG (Y i) C e dg vs) : ∃ g, (∀ i, PG (Y i) e g) ∧ SdG C g dg ∧ GW vs g := ⟨fun v σ H Q => ∀ i, Classical.choose (h i).ex v σ H Q, fun i => ⟨fun pins s σ H v u Q I r hq => (Classical.choose_spec (h i).ex).1.run pins s σ H v u Q I r (hq i)⟩, fun d v δ σ F M H q Q a r hd p i => (Classical.choose_spec (h i).ex).2.1 d v δ σ F M H q Q a r hd p, fun v σ0 σ H Q Q' e hq k i => (Classical.choose_spec (h i).ex).2.2 v σ0 σ H Q Q' e (hq i) k⟩
/-- [elt for tg in iter if ..] -/
theorem pd_lc {elt : Expr} {ifs : List Expr} {scope : Scope} {own : List (Str × Nat)} {dt : DT} {de : DE} (hc : X.calm = true) (hN : X.N.Nodup) (hi : PDI X C tg iter di) (ok : BlkOk X.N X.env.scope scope own)
    (hg : ∀ i : BlkI, PDG (blkX X scope i) C tg dg (own.map (·.2))) (ht : ∀ i : BlkI, PDTs (blkX X scope i) C ifs dt) (he : ∀ i : BlkI, PD (blkX X scope i) C elt de) (hs : ∀ x, foldedSetIterable iter X.env x = pure x := by intro _; rfl) :
    PDL X C (.ListComp elt [⟨tg, iter, ifs, 0⟩] scope pos) (dLcL di dg dt de (own.map (·.2))) := by
  obtain ⟨wi, h1, h2⟩ := hi.ex
  obtain ⟨g, h3, h4, h5⟩ := fam_PG hg
  obtain ⟨t, h6, h7⟩ := fam_PT ht
  obtain ⟨te, h8, h9⟩ := fam_PE he
  exact ⟨_, pe_lc hc hN h1 ok (fun s H Cc cl fp => h3 ⟨s, H, Cc, cl, fp⟩) (fun s H Cc cl fp => h6 ⟨s, H, Cc, cl, fp⟩) (fun s H Cc cl fp => h8 ⟨s, H, Cc, cl, fp⟩) hs, sd_lc h2 h4 h5 h7 h9⟩
/-- y = [elt for tg in iter if ..] -/
theorem pd_setLc {i : Nat} {y : Str} {py : Pos} {elt : Expr} {ifs : List Expr} {scope : Scope} {own : List (Str × Nat)} {dt : DT} {de : DE} {spos : Pos} (hc : X.calm = true) (hN : X.N.Nodup) (hy : X.N[i]? = some y) (hyl : X.env.scope.names.lookup y = some .local)
    (hsw : swapsWith (.ListComp elt [⟨tg, iter, ifs, 0⟩] scope pos) (some (.Name y py)) spos.line X.env = pure true) (hi : PDI X C tg iter di) (ok : BlkOk X.N X.env.scope scope own)
    (hg : ∀ i : BlkI, PDG (blkX X scope i) C tg dg (own.map (·.2))) (ht : ∀ i : BlkI, PDTs (blkX X scope i) C ifs dt) (he : ∀ i : BlkI, PD (blkX X scope i) C elt de) (hs : ∀ x, foldedSetIterable iter X.env x = pure x := by intro _; rfl) :
    PDS X C (.Assign [.Name y py] (.ListComp elt [⟨tg, iter, ifs, 0⟩] scope pos) spos) (dAsg (dLc di dg dt de (own.map (·.2))) (dName i)) := by
  obtain ⟨wi, h1, h2⟩ := hi.ex
  obtain ⟨g, h3, h4, h5⟩ := fam_PG hg
  obtain ⟨t, h6, h7⟩ := fam_PT ht
  obtain ⟨te, h8, h9⟩ := fam_PE he
  exact ⟨_, ps_setLc hc hN hy hyl hsw h1 ok (fun s H Cc cl fp => h3 ⟨s, H, Cc, cl, fp⟩) (fun s H Cc cl fp => h6 ⟨s, H, Cc, cl, fp⟩) (fun s H Cc cl fp => h8 ⟨s, H, Cc, cl, fp⟩) hs, sd_asg (sd_ofL (sd_lc h2 h4 h5 h7 h9)) fun d v δ σ F M H q Q a r h p => p _ _ F M H a.w (Gr.refl F M H) (a.e.set r) h⟩

/-- .. a list that changes -/
theorem pd_setLcM {i : Nat} {y : Str} {py : Pos} {elt : Expr} {ifs : List Expr} {scope : Scope} {own : List (Str × Nat)} {dt : DT} {de : DE} {spos : Pos} (hc : X.calm = true) (hN : X.N.Nodup) (hy : X.N[i]? = some y) (hyl : X.env.scope.names.lookup y = some .local)
    (hsw : swapsWith (.ListComp elt [⟨tg, iter, ifs, 0⟩] scope pos) (some (.Name y py)) spos.line X.env = pure true) (hi : PDI X C tg iter di) (ok : BlkOk X.N X.env.scope scope own)
    (hg : ∀ i : BlkI, PDG (blkX X scope i) C tg dg (own.map (·.2))) (ht : ∀ i : BlkI, PDTs (blkX X scope i) C ifs dt) (he : ∀ i : BlkI, PD (blkX X scope i) C elt de) (hs : ∀ x, foldedSetIterable iter X.env x = pure x := by intro _; rfl) :
    PDS X C (.Assign [.Name y py] (.ListComp elt [⟨tg, iter, ifs, 0⟩] scope pos) spos) (dAsg (dLcM di dg dt de (own.map (·.2))) (dName i)) := by
  obtain ⟨wi, h1, h2⟩ := hi.ex
  obtain ⟨g, h3, h4, h5⟩ := fam_PG hg
  obtain ⟨t, h6, h7⟩ := fam_PT ht
  obtain ⟨te, h8, h9⟩ := fam_PE he
  exact ⟨_, ps_setLc hc hN hy hyl hsw h1 ok (fun s H Cc cl fp => h3 ⟨s, H, Cc, cl, fp⟩) (fun s H Cc cl fp => h6 ⟨s, H, Cc, cl, fp⟩) (fun s H Cc cl fp => h8 ⟨s, H, Cc, cl, fp⟩) hs, sd_asg (sd_ofM (sd_lc h2 h4 h5 h7 h9)) fun d v δ σ F M H q Q a r h p => p _ _ F M H a.w (Gr.refl F M H) (a.e.set r) h⟩

/-! ### while: so many turns at most -/
def dWh (t : DT) (b : DS) (DD : DEnds) : Nat → DEnv → Mh → Prop
  | 0, _, _ => False
  | n + 1, δ, M => t δ M fun c M1 => if c = true then b { nx := dWh t b DD n, rt := DD.rt, bk := DD.nx, ct := dWh t b DD n } δ M1 else DD.nx δ M1
def dWhile (t : DT) (b : DS) : DS := fun DD δ M => ∃ n, dWh t b DD n δ M
theorem pd_while {c : Expr} {body : List Stmt} {dt : DT} {db : DS} (hp : PassesOwn (model X.prog X.w) X.A X.env X.xe) (hc : PDT X C c dt) (hb : PDSs X C body db) : PDS X C (.While c body [] pos) (dWhile dt db) := by
  obtain ⟨tc, h1, h2⟩ := hc.ex
  obtain ⟨tb, h3, h4⟩ := hb.ex
  refine ⟨_, ps_while hp h1 h3, fun δ σ F M H DD DV a h p => ?_⟩
  obtain ⟨n0, h⟩ := h
  refine ⟨fun m σ' H' => ∃ δ' F' M', Wl C.K F' M' H' ∧ Gr F M H F' M' H' ∧ Envs C.K F' σ' δ' ∧ dWh dt db DD m δ' M', ⟨n0, δ, F, M, a.w, Gr.refl _ _ _, a.e, h⟩, ?_⟩
  rintro m σ' H' ⟨δ', F', M', w', g', e', h'⟩
  cases m with
  | zero => exact h'.elim
  | succ m =>
    refine h2 δ' σ' F' M' H' _ _ ⟨w', a.g.trans g', e'⟩ h' fun b F1 M1 H1 w1 g1 q1 => ?_
    cases b with
    | true =>
      refine ⟨fun σ2 H2 => ∃ δ2 F2 M2, Wl C.K F2 M2 H2 ∧ Gr F M H F2 M2 H2 ∧ Envs C.K F2 σ2 δ2 ∧ dWh dt db DD m δ2 M2, fun σ2 H2 n2 => ⟨m, Nat.lt_succ_self m, n2⟩, ?_⟩
      have G1 := g'.trans g1
      exact h4 δ' σ' F1 M1 H1 _ _ ⟨w1, a.g.trans G1, e'.mono g1.fr⟩ q1 ⟨fun δ4 σ4 F4 M4 H4 w4 g4 e4 q4 => ⟨δ4, F4, M4, w4, G1.trans g4, e4, q4⟩, fun d v F4 M4 H4 w4 g4 r4 q4 => p.rt d v F4 M4 H4 w4 (G1.trans g4) r4 q4, fun δ4 σ4 F4 M4 H4 w4 g4 e4 q4 => p.nx δ4 σ4 F4 M4 H4 w4 (G1.trans g4) e4 q4, fun δ4 σ4 F4 M4 H4 w4 g4 e4 q4 => ⟨δ4, F4, M4, w4, G1.trans g4, e4, q4⟩⟩
    | false => exact p.nx δ' σ' F1 M1 H1 w1 (g'.trans g1) (e'.mono g1.fr) q1

/-! ### promises -/
abbrev DF := List D → Mh → QD → XQ → Prop
def noX : XQ := fun _ _ _ => False
def SpD (K : PySem.W.Frag) (n : Nat) (f : DF) : Sp := fun vs H Q E => ∃ (F : Hp) (M : Mh) (ds : List D) (q : QD) (xq : XQ), Wl K F M H ∧ Reps K F vs ds ∧ ds.length = n ∧ f ds M q xq ∧
  (∀ d v F' M' H', Wl K F' M' H' → Gr F M H F' M' H' → Rep K F' v d → q d M' → Q v H') ∧
  (∀ (c : Addr) fs F' M' H' o, Wl K F' M' H' → Gr F M H F' M' H' → XRep K F' H' fs o → xq c fs M' → E (.ref c) o H')
theorem SpD.len {K : PySem.W.Frag} {n : Nat} {f : DF} {vs : List V} {H : Hp} {Q : VK} {E : XK} (h : SpD K n f vs H Q E) : vs.length = n := by
  obtain ⟨F, M, ds, q, xq, w, r, l, _⟩ := h
  rw [r.length, l]
def dCall (n : Nat) (f : DF) (xq : XQ) (da : DA) : DE := fun δ M q => da δ M fun xs M1 => xs.length = n ∧ f xs M1 q xq
theorem sd_call {n : Nat} {f : DF} {ta : TA} {da : DA} (hx : C.XOk) (ha : SdA C ta da) : SdE C (tCall (SpD C.K n f) [] C.E ta) (dCall n f C.xq da) := fun δ σ F M H q Q a h p => by
  refine ha δ σ F M H _ _ a h fun ds vs F1 M1 H1 w1 g1 r1 h1 => ?_
  rw [List.append_nil]
  exact ⟨F1, M1, ds, q, C.xq, w1, r1, h1.1, h1.2, fun d v F2 M2 H2 w2 g2 r2 h2 => p d v F2 M2 H2 w2 (g1.trans g2) r2 h2, fun c fs F2 M2 H2 o w2 g2 r2 h2 => hx c fs F2 M2 H2 o w2 (a.g.trans (g1.trans g2)) r2 h2⟩
theorem sd_call0 {n : Nat} {f : DF} {ta : TA} {da : DA} (ha : SdA C ta da) : SdE C (tCall (SpD C.K n f) [] E0 ta) (dCall n f noX da) := fun δ σ F M H q Q a h p => by
  refine ha δ σ F M H _ _ a h fun ds vs F1 M1 H1 w1 g1 r1 h1 => ?_
  rw [List.append_nil]
  exact ⟨F1, M1, ds, q, noX, w1, r1, h1.1, h1.2, fun d v F2 M2 H2 w2 g2 r2 h2 => p d v F2 M2 H2 w2 (g1.trans g2) r2 h2, fun c fs F2 M2 H2 o w2 g2 r2 h2 => h2.elim⟩
section
variable {x : Str} {e : Expr} {es : List Expr} {da : DA} {k n : Nat} {f : Addr} {fd : FuncData} {ps : List Str} {df : DF} {p : Pos}
/-- f(e, ..), f lets nothing out -/
theorem pd_call0 (G : FnOk X.prog X.w X.K X.mg X.base CX0 k f fd ps (SpD X.K n df)) (hK : C.K = X.K) (hr : Room k X.A) (hg : Gl X x) (hm : X.mg x = some (.ref f)) (hk : PySem.W.keepIn X.K (.ref f) = true) (hb : Binds X.K fd ps [])
    (ha : PDA X C (e :: es) da) (hdb : (x == ("__debug__" : Str)) = false := by decide) (he : starEach (e :: es) X.env = (false, eval e X.env) :: starEach es X.env := by rfl) (hpl : (backTo pos (starEach es X.env)).any (·.1) = false := by rfl) :
    PD X C (.Call (.Name x p) (e :: es) [] pos) (dCall n df noX da) := by
  obtain ⟨ta, h1, h2⟩ := ha.ex
  exact ⟨_, pe_call G hr hg hm hk hb .nil pass0 h1 hdb he hpl, hK ▸ sd_call0 h2⟩
/-- f(e, ..), f may raise: out of this def -/
theorem pd_callX (G : FnOk X.prog X.w X.K X.mg X.base (CX X.prog X.w) k f fd ps (SpD X.K n df)) (hK : C.K = X.K) (hr : Room k X.A) (hg : Gl X x) (hm : X.mg x = some (.ref f)) (hk : PySem.W.keepIn X.K (.ref f) = true) (hb : Binds X.K fd ps []) (hx : C.XOk) (hp : Passes (CX X.prog X.w) X C.E)
    (ha : PDA X C (e :: es) da) (hdb : (x == ("__debug__" : Str)) = false := by decide) (he : starEach (e :: es) X.env = (false, eval e X.env) :: starEach es X.env := by rfl) (hpl : (backTo pos (starEach es X.env)).any (·.1) = false := by rfl) :
    PD X C (.Call (.Name x p) (e :: es) [] pos) (dCall n df C.xq da) := by
  obtain ⟨ta, h1, h2⟩ := ha.ex
  exact ⟨_, pe_call G hr hg hm hk hb .nil hp h1 hdb he hpl, hK ▸ sd_call hx h2⟩
end
/-- THE RULE for a def that lets nothing out -/
theorem okD {P : Program} {w : World} {K : PySem.W.Frag} {mg : Str → Option Value} {base : Heap} {x qual : Str} {st : Stmt} {f : Addr} {fd : FuncData} {N ps : List Str} {k : Nat} {df : DF} {db : DS} (G : Fun K x qual st f fd) (S : FnScope N ps (defScope st))
    (hbody : ∀ (cdv : Value) (A : Around) (outer : List Env) (s : Shared) (H : Hp) (Q : VK) (E : XK) (F0 : Hp) (M0 : Mh) (H0 : Hp), Room k (A.deeper (envOfC qual (defScope st) s.heap.objs.size f cdv)) →
      PDSs (cxOf CX0 P w K mg base N qual (defScope st) f cdv A outer s H E).nox ⟨K, F0, M0, H0, E0, noX⟩ (defBody st) db)
    (sem : ∀ ds M q xq, ds.length = ps.length → df ds M q xq → db { nx := fun _ M' => q .non M', rt := q } (ds.map some ++ List.replicate (N.length - ps.length) none) M) : FnOk P w K mg base CX0 (k + 1) f fd ps (SpD K ps.length df) := by
  refine G.ok S (fun vs H Q E h => h.len) (fun cdv A outer s H vs Q E hr h => ?_)
  obtain ⟨F, M, ds, q, xq, wl, r, l, h, hq, hx⟩ := h
  obtain ⟨t, h1, h2⟩ := (hbody cdv A outer s H Q E F M H hr).ex
  refine ⟨t, h1, h2 _ _ F M H _ _ ⟨wl, Gr.refl _ _ _, ?_⟩ (sem ds M q xq l h) ⟨fun δ σ F' M' H' w' g' e' h' => hq _ _ F' M' H' w' g' .non h', fun d v F' M' H' w' g' r' h' => hq d v F' M' H' w' g' r' h', fun _ _ _ _ _ _ _ _ h' => h'.elim, fun _ _ _ _ _ _ _ _ h' => h'.elim⟩⟩
  have e := Envs.start (N := N) r
  rw [l] at e
  exact e
/-- .. for a def that may raise -/
theorem okDX {P : Program} {w : World} {K : PySem.W.Frag} {mg : Str → Option Value} {base : Heap} {x qual : Str} {st : Stmt} {f : Addr} {fd : FuncData} {N ps : List Str} {k : Nat} {df : DF} {db : XQ → DS} (G : Fun K x qual st f fd) (S : FnScope N ps (defScope st))
    (hbody : ∀ (cdv : Value) (A : Around) (outer : List Env) (s : Shared) (H : Hp) (Q : VK) (E : XK) (F0 : Hp) (M0 : Mh) (H0 : Hp) (xq : XQ), Cd.XOk ⟨K, F0, M0, H0, E, xq⟩ → Room k (A.deeper (envOfC qual (defScope st) s.heap.objs.size f cdv)) →
      PDSs (cxOf (CX P w) P w K mg base N qual (defScope st) f cdv A outer s H E) ⟨K, F0, M0, H0, E, xq⟩ (defBody st) (db xq))
    (sem : ∀ ds M q xq, ds.length = ps.length → df ds M q xq → db xq { nx := fun _ M' => q .non M', rt := q } (ds.map some ++ List.replicate (N.length - ps.length) none) M) : FnOk P w K mg base (CX P w) (k + 1) f fd ps (SpD K ps.length df) := by
  refine G.okX S (fun vs H Q E h => h.len) (fun cdv A outer s H vs Q E hr h => ?_)
  obtain ⟨F, M, ds, q, xq, wl, r, l, h, hq, hx⟩ := h
  obtain ⟨t, h1, h2⟩ := (hbody cdv A outer s H Q E F M H xq (fun c fs F' M' H' o w' g' r' h' => hx c fs F' M' H' o w' g' r' h') hr).ex
  refine ⟨t, h1, h2 _ _ F M H _ _ ⟨wl, Gr.refl _ _ _, ?_⟩ (sem ds M q xq l h) ⟨fun δ σ F' M' H' w' g' e' h' => hq _ _ F' M' H' w' g' .non h', fun d v F' M' H' w' g' r' h' => hq d v F' M' H' w' g' r' h', fun _ _ _ _ _ _ _ _ h' => h'.elim, fun _ _ _ _ _ _ _ _ h' => h'.elim⟩⟩
  have e := Envs.start (N := N) r
  rw [l] at e
  exact e
end
end DL

set_option Elab.async false
set_option linter.all false
set_option maxRecDepth 100000
set_option maxHeartbeats 1000000
namespace DL
open PySem L2 PyProof.Rows

/-! ### lists that change -/
def dLstM (da : DA) : DE := fun δ M q => da δ M fun xs M1 => xs.length ≤ sizeLine ∧ ∀ l, M1 l = none → q (.adr l) (mset M1 l (.lst xs))
/-- what might change stands still from now on, read as data -/
def frz (M : Mh) (x : D) (q : QD) : Prop := match x with
  | .adr l => match M l with
    | some (.lst ds) => q (.lst ds) (mdel M l)
    | some (.ins C fs) => q (.ins C fs) (mdel M l)
    | some (.dK kvs) => q (.dK kvs) (mdel M l)
    | some (.dT kvs) => q (.dT kvs) (mdel M l)
    | none => False
  | _ => False
def dFrz (da : DE) : DE := fun δ M q => da δ M fun x M1 => frz M1 x q
section
variable {X : Cx} {C : Cd} {e : Expr} {es : List Expr} {da de : DE} {dr : DA} {pos : Pos}
theorem pd_lstM (ha : PDA X C es dr) : PD X C (.List es pos) (dLstM dr) := by
  obtain ⟨ta, h1, h2⟩ := ha.ex
  refine ⟨_, pe_lst h1, fun δ σ F M H q Q a h p => ?_⟩
  refine h2 δ σ F M H _ _ a h fun xs vs F1 M1 H1 w1 g1 r1 h1 => ?_
  refine ⟨by rw [r1.length]; exact h1.1, fun l hl => ?_⟩
  exact p _ _ F1 _ _ (w1.newM hl (show RepO C.K F1 (.lst xs) (.lst vs) from r1)) (g1.trans (Gr.newM w1 hl)) (.adr l) (h1.2 l (w1.freeM hl))
theorem frz_ok {F H : Hp} {M : Mh} {x : D} {v : V} {q : QD} {Q : VK} (w : Wl C.K F M H) (r : Rep C.K F v x) (h : frz M x q) (p : Post C F M H q Q) : Q v H := by
  unfold frz at h
  split at h
  · cases r
    rename_i l
    split at h
    · rename_i ds e
      obtain ⟨hf, o, ho, r⟩ := w.mu _ _ e
      cases o <;> first | exact r.elim | skip
      exact p _ _ _ _ _ (w.still e ho) (Gr.still w e) (rep_lst hf r) h
    · rename_i c fs e
      obtain ⟨hf, o, ho, r⟩ := w.mu _ _ e
      cases o <;> first | exact r.elim | skip
      obtain ⟨rfl, r1, r2⟩ := r
      exact p _ _ _ _ _ (w.still e ho) (Gr.still w e) (.ins upd_same r1 (r2.mono (same_new hf))) h
    · rename_i kvs e
      obtain ⟨hf, o, ho, r⟩ := w.mu _ _ e
      cases o <;> first | exact r.elim | skip
      exact p _ _ _ _ _ (w.still e ho) (Gr.still w e) (.dK upd_same r.1 (r.2.mono (same_new hf))) h
    · rename_i kvs e
      obtain ⟨hf, o, ho, r⟩ := w.mu _ _ e
      cases o <;> first | exact r.elim | skip
      exact p _ _ _ _ _ (w.still e ho) (Gr.still w e) (.dT upd_same r.1 (r.2.mono (same_new hf))) h
    · exact h.elim
  · exact h.elim
theorem pd_frz (ha : PD X C e da) : PD X C e (dFrz da) := by
  obtain ⟨t, h1, h2⟩ := ha.ex
  refine ⟨_, h1, fun δ σ F M H q Q a h p => ?_⟩
  exact h2 δ σ F M H _ _ a h fun x v F1 M1 H1 w1 g1 r1 h1 => frz_ok w1 r1 h1 (p.from g1)
/-- a method of a list that changes -/
abbrev DRM := List D → List D → (D → List D → Prop) → Prop
/-- r says what o.m(xs) does to the items of o -/
def SdM (C : Cd) (r : V → List V → Hp → VK → Prop) (dr : DRM) : Prop := ∀ l ds vs xs us F M H (q : D → List D → Prop) Q, Wl C.K F M H → H l = some (.lst vs) → F l = none → Reps C.K F vs ds → Reps C.K F us xs → dr ds xs q →
  (∀ d ds' v vs' , Rep C.K F v d → Reps C.K F vs' ds' → q d ds' → Q v (upd H l (.lst vs'))) → r (.ref l) us H Q
def dBM (dr : DRM) (da : DE) (dx : DA) : DE := fun δ M q => da δ M fun x M1 => match x with
  | .adr l => (∃ ds, M1 l = some (.lst ds)) ∧ dx δ M1 fun xs M2 => match M2 l with
    | some (.lst ds) => dr ds xs fun d ds' => q d (mset M2 l (.lst ds'))
    | _ => False
  | _ => False
theorem sd_bm {r : V → List V → Hp → VK → Prop} {dr : DRM} {to : TE} {t : TA} {dx : DA} (hr : SdM C r dr) (ho : SdE C to da) (ht : SdA C t dx) : SdE C (tBM C.K "list" r to t) (dBM dr da dx) := fun δ σ F M H q Q a h p => by
  refine ho δ σ F M H _ _ a h fun x v F1 M1 H1 w1 g1 r1 h1 => ?_
  split at h1
  · cases r1
    rename_i l
    obtain ⟨⟨ds, e1⟩, h1⟩ := h1
    obtain ⟨hf, o, ho, r⟩ := w1.mu _ _ e1
    cases o <;> first | exact r.elim | skip
    refine ⟨.inl ⟨rfl, _, .of ho⟩, ?_⟩
    refine ht δ σ F1 M1 H1 _ _ (a.step w1 g1) h1 fun xs vs F2 M2 H2 w2 g2 r2 h2 => ?_
    split at h2
    · rename_i ds2 e2
      obtain ⟨hf2, o2, ho2, rr2⟩ := w2.mu _ _ e2
      cases o2 <;> first | exact rr2.elim | skip
      refine hr l ds2 _ xs vs F2 M2 H2 _ Q w2 ho2 hf2 (show Reps C.K F2 _ ds2 from rr2) r2 h2 fun d ds' v vs' rd rds hq => ?_
      exact p _ _ _ _ _ (w2.set e2 (show RepO C.K F2 (.lst ds') (.lst vs') from rds)) (g1.trans (g2.trans (Gr.set w2 e2))) rd hq
    · exact h2.elim
  · exact h1.elim
theorem pd_bm {o : Expr} {dx : DA} {name : Str} {apos cpos : Pos} {id : String} {r : V → List V → Hp → VK → Prop} {dr : DRM} (hK : C.K = X.K) (pa : PlainAttrs "list") (slot : Slot "list" name id) (hty : typeOf (.builtin id) = pure (.type "method_descriptor")) (hm : MtR X id r) (hr : SdM C r dr)
    (ho : PD X C o da) (ha : PDA X C (e :: es) dx)
    (hbase : attributeBase o name X.env (eval o X.env) = eval o X.env := by rfl)
    (hfew : ((backTo cpos (starEach (e :: es) X.env)).all (fun x => !x.1) && (backToKw cpos (keywordEach [] X.env)).all (fun x => x.1.isSome)
      && decide ((e :: es).length + ([] : List Keyword).length + (if ([] : List Keyword).isEmpty then 0 else 1) < 30)) = true := by rfl)
    (hline : (apos.endLine == cpos.line) = true := by rfl) (hs : starEach (e :: es) X.env = (false, eval e X.env) :: starEach es X.env := by rfl) (hplain : (backTo cpos (starEach es X.env)).any (·.1) = false := by rfl) :
    PD X C (.Call (.Attribute o name apos) (e :: es) [] cpos) (dBM dr da dx) := by
  obtain ⟨to, h1, h2⟩ := ho.ex
  obtain ⟨t, h3, h4⟩ := ha.ex
  exact ⟨_, pe_bm pa slot hty hm h1 h3 hbase hfew hline hs hplain, hK ▸ sd_bm hr h2 h4⟩
def dBM0 (dr : DRM) (da : DE) : DE := dBM dr da dNil
theorem sd_bm0 {r : V → List V → Hp → VK → Prop} {dr : DRM} {to : TE} (hr : SdM C r dr) (ho : SdE C to da) : SdE C (tBM0 C.K "list" r to) (dBM0 dr da) := fun δ σ F M H q Q a h p => by
  refine ho δ σ F M H _ _ a h fun x v F1 M1 H1 w1 g1 r1 h1 => ?_
  split at h1
  · cases r1
    rename_i l
    obtain ⟨⟨ds, e1⟩, h1⟩ := h1
    obtain ⟨hf, o, ho, r⟩ := w1.mu _ _ e1
    cases o <;> first | exact r.elim | skip
    refine ⟨.inl ⟨rfl, _, .of ho⟩, ?_⟩
    unfold dNil at h1
    dsimp only at h1
    rw [e1] at h1
    refine hr l ds _ [] [] F1 M1 H1 _ Q w1 ho hf (show Reps C.K F1 _ ds from r) .nil h1 fun d ds' v vs' rd rds hq => ?_
    exact p _ _ _ _ _ (w1.set e1 (show RepO C.K F1 (.lst ds') (.lst vs') from rds)) (g1.trans (Gr.set w1 e1)) rd hq
  · exact h1.elim
theorem pd_bm0 {o : Expr} {name : Str} {apos cpos : Pos} {id : String} {r : V → List V → Hp → VK → Prop} {dr : DRM} (hK : C.K = X.K) (pa : PlainAttrs "list") (slot : Slot "list" name id) (hty : typeOf (.builtin id) = pure (.type "method_descriptor")) (hm : MtR X id r) (hr : SdM C r dr)
    (ho : PD X C o da) (hbase : attributeBase o name X.env (eval o X.env) = eval o X.env := by rfl) (hline : (apos.endLine == cpos.line) = true := by rfl) : PD X C (.Call (.Attribute o name apos) [] [] cpos) (dBM0 dr da) := by
  obtain ⟨to, h1, h2⟩ := ho.ex
  exact ⟨_, pe_bm0 pa slot hty hm h1 hbase hline, hK ▸ sd_bm0 hr h2⟩
def mAppend : DRM := fun ds xs q => match xs with
  | [y] => ds.length < sizeLine ∧ q .non (ds ++ [y])
  | _ => False
theorem sm_append : SdM C rAppend mAppend := fun l ds vs xs us F M H q Q w hl fl r rx h p => by
  unfold mAppend at h
  split at h
  · obtain ⟨v, rfl, rv⟩ := Reps.one rx
    exact ⟨l, vs, v, rfl, rfl, hl, by rw [r.length]; exact h.1, p _ _ _ _ .non (r.append (.cons rv .nil)) h.2⟩
  · exact h.elim
def mPop : DRM := fun ds xs q => xs = [] ∧ match ds[ds.length - 1]? with
  | some d => q d ds.dropLast
  | none => False
theorem Reps.dropLast {K : PySem.W.Frag} {F : Hp} {vs : List V} {ds : List D} (r : Reps K F vs ds) : Reps K F vs.dropLast ds.dropLast := by
  rw [List.dropLast_eq_take, List.dropLast_eq_take, r.length]
  exact r.take _
theorem sm_pop : SdM C rPop mPop := fun l ds vs xs us F M H q Q w hl fl r rx h p => by
  obtain ⟨e, h⟩ := h
  subst e
  cases rx
  split at h
  · rename_i d e
    obtain ⟨v, hv, rv⟩ := r.get e
    exact ⟨l, vs, v, rfl, rfl, hl, by rw [r.length]; exact hv, p _ _ _ _ rv r.dropLast h⟩
  · exact h.elim
/-- xs[i] = v -/
def dSub (da di : DE) : DG := fun d δ M q => da δ M fun x M1 => di δ M1 fun y M2 => match x, y with
  | .adr l, .int k => match M2 l with
    | some (.lst ds) => match ixN ds.length k with
      | some j => q δ (mset M2 l (.lst (ds.set j d)))
      | none => False
    | _ => False
  | _, _ => False
theorem pdg_sub {vs : List Nat} {o i : Expr} {dO di : DE} (hvs : vs = []) (ho : PD X C o dO) (hi : PD X C i di)
    (ha : ∀ v, assign (.Subscript o i pos) X.env v = (do
      let ov ← holding [v] (eval o X.env)
      let iv ← holding [v, ov] (eval i X.env)
      standAt pos
      holding [v, ov, iv] (setItem ov iv v)
      release [v, ov, iv] []) := by intro _; rfl) : ∃ tg, PG X (.Subscript o i pos) tg ∧ SdG C tg (dSub dO di) := by
  obtain ⟨to, h1, h2⟩ := ho.ex
  obtain ⟨ti, h3, h4⟩ := hi.ex
  refine ⟨_, pg_sub h1 h3 set_list ha, fun d v δ σ F M H q Q a r h p => ?_⟩
  refine h2 δ σ F M H _ _ a h fun x v1 F1 M1 H1 w1 g1 r1 h1 => ?_
  refine h4 δ σ F1 M1 H1 _ _ (a.step w1 g1) h1 fun y v2 F2 M2 H2 w2 g2 r2 h2 => ?_
  split at h2
  · cases r1; cases r2
    split at h2
    · rename_i ds e2
      split at h2
      · rename_i j ej
        obtain ⟨hf2, o2, ho2, rr2⟩ := w2.mu _ _ e2
        cases o2 <;> first | exact rr2.elim | skip
        have rr : Reps C.K F2 _ ds := rr2
        refine ⟨_, _, _, j, rfl, rfl, ho2, by rw [rr.length]; exact ej, ?_⟩
        exact p _ _ _ _ _ (w2.set e2 (show RepO C.K F2 (.lst (ds.set j d)) (.lst _) from rr.set (r.mono (g1.fr.trans g2.fr)) j)) (g1.trans (g2.trans (Gr.set w2 e2))) (a.e.mono (g1.fr.trans g2.fr)) h2
      · exact h2.elim
    · exact h2.elim
  · exact h2.elim
/-- xs[i] = e -/
theorem pd_setSub {o i : Expr} {dO di : DE} {spos : Pos} (he : PD X C e da) (ho : PD X C o dO) (hi : PD X C i di) (hs : swapsWithSole [.Subscript o i pos] e spos.line X.env = pure false := by rfl) (hw : swappedStores [.Subscript o i pos] e X.env = pure none := by rfl)
    (h1 : (assignEach [.Subscript o i pos] X.env).map (·.2) = [assign (.Subscript o i pos) X.env] := by rfl)
    (ha : ∀ v, assign (.Subscript o i pos) X.env v = (do
      let ov ← holding [v] (eval o X.env)
      let iv ← holding [v, ov] (eval i X.env)
      standAt pos
      holding [v, ov, iv] (setItem ov iv v)
      release [v, ov, iv] []) := by intro _; rfl) : PDS X C (.Assign [.Subscript o i pos] e spos) (dAsg da (dSub dO di)) := by
  obtain ⟨t, a1, a2⟩ := he.ex
  obtain ⟨g, b1, b2⟩ := pdg_sub (vs := []) rfl ho hi ha
  exact ⟨_, ps_asg a1 b1 hs hw h1, sd_asg a2 b2⟩
/-- xs[i], by values, of a list that changes -/
theorem get_list : PGet X (rIxL X.K) := by
  intro pins s σ H o i ov iv Q I rx ry h
  obtain ⟨p, xs, i, z, rfl, rfl, hq, he, q⟩ := h
  cases rx
  obtain ⟨t, rfl⟩ := ry
  obtain ⟨its, r, pl, hz⟩ := I.list hq
  obtain ⟨j, h1, h2, h3, h4, h5⟩ := atI_get he
  obtain ⟨w, ew, rw'⟩ := r.get h2
  have hl := r.length
  have hn := line63
  have fin : EP X pins σ Q w s := ⟨z, H, I, rw', q⟩
  by_cases h0 : 0 ≤ i
  · have hj : i.toNat = j := by
      rw [seqIndex_of h0 h5] at h1
      exact Option.some.inj h1
    exact wpAny_getItem_list pl.isList h0 (by omega) (by rw [hj]; simpa using ew) fin
  · have hj : (i + (its.toArray.size : Int)).toNat = j := by
      rw [seqIndex_neg (by omega) h4] at h1
      rw [List.size_toArray, ← hl]
      exact Option.some.inj h1
    exact wpAny_getItem_list_neg pl.isList (by omega) (by rw [List.size_toArray] <;> omega) (by omega) (by rw [hj]; simpa using ew) fin
/-- xs[i] += e, ints -/
def dAugSub (f : Int → Int → Int) (dO di de : DE) : DS := fun DD δ M => dO δ M fun x M1 => di δ M1 fun y M2 => match x, y with
  | .adr l, .int k => match M2 l with
    | some (.lst ds) => match atI ds k with
      | some (.int a) => de δ M2 fun n M4 => match n with
        | .int b => match M4 l with
          | some (.lst ds4) => match ixN ds4.length k with
            | some j => DD.nx δ (mset M4 l (.lst (ds4.set j (.int (f a b)))))
            | none => False
          | _ => False
        | _ => False
      | _ => False
    | _ => False
  | _, _ => False
theorem pd_augSub {o i : Expr} {dO di : DE} {op : Operator} {f : Int → Int → Int} {tpos : Pos} (hK : C.K = X.K) (hp : PIp X op (ipI f)) (ho : PD X C o dO) (hi : PD X C i di) (he : PD X C e de)
    (ha : ∀ ov iv new, augStore i ov iv new = (do holding [new, ov, iv] (setItem ov iv new); release [new, ov, iv] []; pure .next) := by intros; rfl) : PDS X C (.AugAssign (.Subscript o i tpos) op e pos) (dAugSub f dO di de) := by
  obtain ⟨to, h1, h2⟩ := ho.ex
  obtain ⟨ti, h3, h4⟩ := hi.ex
  obtain ⟨te, h5, h6⟩ := he.ex
  refine ⟨_, ps_augS h1 h3 get_list h5 hp set_list ha, fun δ σ F M H DD DV a h p => ?_⟩
  refine h2 δ σ F M H _ _ a h fun x v1 F1 M1 H1 w1 g1 r1 h1 => ?_
  refine h4 δ σ F1 M1 H1 _ _ (a.step w1 g1) h1 fun y v2 F2 M2 H2 w2 g2 r2 h2 => ?_
  split at h2
  · cases r1; cases r2
    split at h2
    · rename_i ds e2
      split at h2
      · rename_i a0 ea
        obtain ⟨hf2, o2, ho2, rr2⟩ := w2.mu _ _ e2
        cases o2 <;> first | exact rr2.elim | skip
        have rr : Reps C.K F2 _ ds := rr2
        obtain ⟨va, hva, rva⟩ := atI_rep rr ea
        cases rva
        refine ⟨_, _, _, _, rfl, rfl, .of ho2, hva, ?_⟩
        refine h6 δ σ F2 M2 H2 _ _ ((a.step w1 g1).step w2 g2) h2 fun n v4 F4 M4 H4 w4 g4 r4 h4 => ?_
        split at h4
        · cases r4
          split at h4
          · rename_i ds4 e4
            split at h4
            · rename_i j ej
              obtain ⟨hf4, o4, ho4, rr4⟩ := w4.mu _ _ e4
              cases o4 <;> first | exact rr4.elim | skip
              have rr' : Reps C.K F4 _ ds4 := rr4
              refine ⟨_, _, rfl, rfl, _, _, _, j, rfl, rfl, ho4, by rw [rr'.length]; exact ej, ?_⟩
              exact p.nx _ _ _ _ _ (w4.set e4 (show RepO C.K F4 (.lst (ds4.set j (.int (f a0 _)))) (.lst _) from rr'.set (.int _) j)) (g1.trans (g2.trans (g4.trans (Gr.set w4 e4)))) (a.e.mono (g1.fr.trans (g2.fr.trans g4.fr))) h4
            · exact h4.elim
          · exact h4.elim
        · exact h4.elim
      · exact h2.elim
    · exact h2.elim
  · exact h2.elim
/-- new lists by list(..), by [0] * n -/
def SdCL (C : Cd) (r : List V → Hp → VK → Prop) (dr : List D → Mh → (List D → Mh → Prop) → Prop) : Prop := ∀ xs ds F M H (q : List D → Mh → Prop) (Q : VK), Wl C.K F M H → Reps C.K F xs ds → dr ds M q →
  (∀ ds vs p, H p = none → Reps C.K F vs ds → q ds M → Q (.ref p) (upd H p (.lst vs))) → r xs H Q
def dCBL (dr : List D → Mh → (List D → Mh → Prop) → Prop) (da : DA) : DLs := fun δ M q => da δ M fun xs M1 => dr xs M1 q
theorem frame_new {F H F1 H1 : Hp} {M M1 : Mh} {K : PySem.W.Frag} {p : Addr} {o : HO} (w : Wl K F1 M1 H1) (g : Gr F M H F1 M1 H1) (hp : H1 p = none) : Wl K F1 M1 (upd H1 p o) ∧ Gr F M H F1 M1 (upd H1 p o) ∧ H p = none ∧ F1 p = none ∧ M1 p = none := by
  have hH := g.dm p hp
  refine ⟨⟨fun b u e => by rw [upd_ne (ne_of_none (w.sub b u e) hp)]; exact w.sub b u e, fun b u e => ?_⟩, ⟨g.fr, fun b u hb f m => ?_, fun b hb => ?_⟩, hH, w.freeF hp, w.freeM hp⟩
  · obtain ⟨z1, v, z2, z3⟩ := w.mu b u e
    exact ⟨z1, v, by rw [upd_ne (ne_of_none z2 hp)]; exact z2, z3⟩
  · obtain ⟨z1, z2, z3⟩ := g.fz b u hb f m
    exact ⟨by rw [upd_ne (ne_of_none z1 hp)]; exact z1, z2, z3⟩
  · by_cases z : b = p
    · rw [z]; exact hH
    · rw [upd_ne z] at hb; exact g.dm b hb
theorem pd_callTyL {x : Str} {p : Pos} {da : DA} {T : String} {r : List V → Hp → VK → Prop} {dr : List D → Mh → (List D → Mh → Prop) → Prop} (hc : CallR X (.type T) r) (hr : SdCL C r dr) (hg : Gl X x) (hm : X.mg x = none) (hv : bootBuiltins x = some (.type T)) (ha : PDA X C (e :: es) da) (hn : x ≠ "__name__" := by decide) (hdb : (x == ("__debug__" : Str)) = false := by decide)
    (he : starEach (e :: es) X.env = (false, eval e X.env) :: starEach es X.env := by rfl) (hpl : (backTo pos (starEach es X.env)).any (·.1) = false := by rfl) : PDL X C (.Call (.Name x p) (e :: es) [] pos) (dCBL dr da) := by
  obtain ⟨ta, h1, h2⟩ := ha.ex
  refine ⟨_, pe_callTy hc hg hm hv h1 hn hdb he hpl, fun δ σ F M H q Q a h p => ?_⟩
  refine h2 δ σ F M H _ _ a h fun ds vs F1 M1 H1 w1 g1 r1 h1 => ?_
  refine hr vs ds F1 M1 H1 q Q w1 r1 h1 fun ds' vs' l hl rl hq => ?_
  obtain ⟨w2, g2, z1, z2, z3⟩ := frame_new (o := .lst vs') w1 g1 hl
  exact p _ _ l _ _ _ w2 g2 z1 z2 z3 upd_same rl hq
def kListL : List D → Mh → (List D → Mh → Prop) → Prop := fun xs M q => match xs with
  | [x] => match seqItems M x with
    | some ds => q ds M
    | none => False
  | _ => False
theorem sc_listL : SdCL C (fun xs H Q => ∃ p ys, xs = [.ref p] ∧ (SqL C.K H p ys ∨ SqT C.K H p ys) ∧ ∀ l, H l = none → Q (.ref l) (upd H l (.lst ys))) kListL := fun xs ds F M H q Q w r h p => by
  unfold kListL at h
  split at h
  · obtain ⟨v, rfl, rv⟩ := Reps.one r
    split at h
    · rename_i e
      obtain ⟨a, ys, rfl, hq, rr⟩ := seqItems_at w rv e
      exact ⟨a, ys, rfl, hq, fun l hl => p _ _ l hl rr h⟩
    · exact h.elim
  · exact h.elim
def dRepL (da db : DE) : DLs := fun δ M q => da δ M fun x M1 => db δ M1 fun y M2 => match x, y with
  | .lst a, .int k => -(2 ^ 63) ≤ k ∧ k < 2 ^ 63 ∧ a.length * k.toNat ≤ sizeLine ∧ q (List.replicate k.toNat a).flatten M2
  | _, _ => False
theorem pd_repL {a b : Expr} {db : DE} (ha : PD X C a da) (hb : PD X C b db) : PDL X C (.BinOp a .Mult b pos) (dRepL da db) := by
  obtain ⟨ta, h1, h2⟩ := ha.ex
  obtain ⟨tb, h3, h4⟩ := hb.ex
  refine ⟨_, pe_op op_rep h1 h3, fun δ σ F M H q Q a h p => ?_⟩
  refine h2 δ σ F M H _ _ a h fun x v F1 M1 H1 w1 g1 r1 h1 => ?_
  refine h4 δ σ F1 M1 H1 _ _ (a.step w1 g1) h1 fun y u F2 M2 H2 w2 g2 r2 h2 => ?_
  split at h2
  · cases r1 with | lst e r => ?_
    cases r2
    refine ⟨_, _, _, rfl, rfl, w2.sub _ _ (g2.fr _ _ e), h2.1, h2.2.1, by rw [r.length]; exact h2.2.2.1, fun l hl => ?_⟩
    obtain ⟨w3, g3, z1, z2, z3⟩ := frame_new (o := .lst (List.replicate _ _).flatten) w2 (g1.trans g2) hl
    exact p _ _ l _ _ _ w3 g3 z1 z2 z3 upd_same ((r.mono g2.fr).rep _) h2.2.2.2
  · exact h2.elim
theorem pdl_lst (ha : PDA X C es dr) : PDL X C (.List es pos) (fun δ M q => dr δ M fun xs M1 => xs.length ≤ sizeLine ∧ q xs M1) := by
  obtain ⟨ta, h1, h2⟩ := ha.ex
  refine ⟨_, pe_lst h1, fun δ σ F M H q Q a h p => ?_⟩
  refine h2 δ σ F M H _ _ a h fun xs vs F1 M1 H1 w1 g1 r1 h1 => ?_
  refine ⟨by rw [r1.length]; exact h1.1, fun l hl => ?_⟩
  obtain ⟨w2, g2, z1, z2, z3⟩ := frame_new (o := .lst vs) w1 g1 hl
  exact p _ _ l _ _ _ w2 g2 z1 z2 z3 upd_same r1 h1.2
end
end DL

set_option Elab.async false
set_option linter.all false
set_option maxRecDepth 100000
set_option maxHeartbeats 1000000
namespace DL
open PySem L2 PyProof.Rows

/-! ### objects -/
theorem lookup_rep {K : PySem.W.Frag} {F : Hp} : ∀ {ws : List (Str × V)} {fs : List (Str × D)} {f : Str} {d : D}, ws.map (·.1) = fs.map (·.1) → Reps K F (ws.map (·.2)) (fs.map (·.2)) → fs.lookup f = some d → ∃ v, ws.lookup f = some v ∧ Rep K F v d
  | [], [], _, _, _, _, h => by cases h
  | [], _ :: _, _, _, e, _, _ => by cases e
  | _ :: _, [], _, _, e, _, _ => by cases e
  | (k, w) :: ws, (k', d') :: fs, f, d, e, r, h => by
    simp only [List.map_cons, List.cons.injEq] at e
    obtain ⟨e1, e2⟩ := e
    subst e1
    rw [List.map_cons, List.map_cons] at r
    cases r with
    | cons r1 r2 =>
      rw [List.lookup_cons] at h ⊢
      cases q : f == k with
      | true => rw [q] at h; cases h; exact ⟨w, rfl, r1⟩
      | false => rw [q] at h; exact lookup_rep e2 r2 h
theorem lookup_none {ws : List (Str × V)} {fs : List (Str × D)} {f : Str} (e : ws.map (·.1) = fs.map (·.1)) (h : fs.lookup f = none) : ws.lookup f = none := by
  induction ws generalizing fs with
  | nil => rfl
  | cons w ws ih =>
    cases fs with
    | nil => cases e
    | cons p fs =>
      obtain ⟨k, w⟩ := w
      obtain ⟨k', d'⟩ := p
      simp only [List.map_cons, List.cons.injEq] at e
      obtain ⟨e1, e2⟩ := e
      subst e1
      rw [List.lookup_cons] at h ⊢
      cases q : f == k with
      | true => rw [q] at h; cases h
      | false => rw [q] at h; exact ih e2 h
def putD (f : Str) (v : D) : List (Str × D) → List (Str × D)
  | [] => [(f, v)]
  | (k, x) :: r => if k = f then (k, v) :: r else (k, x) :: putD f v r
theorem put_rep {K : PySem.W.Frag} {F : Hp} {f : Str} {v : V} {d : D} (rv : Rep K F v d) : ∀ {ws : List (Str × V)} {fs : List (Str × D)}, ws.map (·.1) = fs.map (·.1) → Reps K F (ws.map (·.2)) (fs.map (·.2)) → (putF f v ws).map (·.1) = (putD f d fs).map (·.1) ∧ Reps K F ((putF f v ws).map (·.2)) ((putD f d fs).map (·.2))
  | [], [], _, _ => ⟨rfl, .cons rv .nil⟩
  | [], _ :: _, e, _ => by cases e
  | _ :: _, [], e, _ => by cases e
  | (k, w) :: ws, (k', d') :: fs, e, r => by
    simp only [List.map_cons, List.cons.injEq] at e
    obtain ⟨e1, e2⟩ := e
    subst e1
    rw [List.map_cons, List.map_cons] at r
    cases r with
    | cons r1 r2 =>
      rw [show putF f v ((k, w) :: ws) = (if k = f then (k, v) :: ws else (k, w) :: putF f v ws) from rfl]
      unfold putD
      by_cases hk : k = f
      · rw [if_pos hk, if_pos hk]
        exact ⟨by simp [e2], .cons rv r2⟩
      · rw [if_neg hk, if_neg hk]
        obtain ⟨i1, i2⟩ := put_rep rv e2 r2
        exact ⟨by rw [List.map_cons, List.map_cons, i1], .cons r1 i2⟩
/-- the instance's class and fields -/
def insOf (M : Mh) : D → Option (Addr × List (Str × D))
  | .ins C fs => some (C, fs)
  | .adr a => match M a with
    | some (.ins C fs) => some (C, fs)
    | _ => none
  | _ => none
theorem insOf_at {K : PySem.W.Frag} {F H : Hp} {M : Mh} {v : V} {d : D} {C : Addr} {fs : List (Str × D)} (w : Wl K F M H) (r : Rep K F v d) (h : insOf M d = some (C, fs)) : ∃ a dx ws, v = .ref a ∧ H a = some (.ins C dx ws) ∧ ws.map (·.1) = fs.map (·.1) ∧ Reps K F (ws.map (·.2)) (fs.map (·.2)) := by
  unfold insOf at h
  split at h
  · cases h
    cases r with | ins e k r => ?_
    exact ⟨_, _, _, rfl, w.sub _ _ e, k, r⟩
  · cases r
    split at h
    · rename_i em
      cases h
      obtain ⟨hf, o, ho, r⟩ := w.mu _ _ em
      cases o <;> first | exact r.elim | skip
      obtain ⟨rfl, k, r⟩ := r
      exact ⟨_, _, _, rfl, ho, k, r⟩
    · cases h
  · cases h
def dFld (Cs : List Addr) (f : Str) (da : DE) : DE := fun δ M q => da δ M fun x M1 => match insOf M1 x with
  | some (c, fs) => c ∈ Cs ∧ match fs.lookup f with
    | some d => q d M1
    | none => False
  | none => False
/-- x.f = e -/
def dSetFld (C : Addr) (f : Str) (dv da : DE) : DS := fun DD δ M => dv δ M fun y M1 => da δ M1 fun x M2 => match x with
  | .adr a => match M2 a with
    | some (.ins c fs) => c = C ∧ fs.length < 1000 ∧ DD.nx δ (mset M2 a (.ins C (putD f y fs)))
    | _ => False
  | _ => False
def dMeth (c : Addr) (m : Str) (n : Nat) (f : DF) (xq : XQ) (da : DE) (dr : DA) : DE := fun δ M q => da δ M fun x M1 => match insOf M1 x with
  | some (c', fs) => c' = c ∧ fs.lookup m = none ∧ dr δ M1 fun xs M2 => (x :: xs).length = n ∧ f (x :: xs) M2 q xq
  | none => False
def dMake (c : Addr) (n : Nat) (f : DF) (xq : XQ) (dr : DA) : DE := fun δ M q => dr δ M fun xs M1 => ∀ l, M1 l = none → (xs.length + 1 = n ∧ f (.adr l :: xs) (mset M1 l (.ins c [])) (fun v M2 => v = .non ∧ q (.adr l) M2) xq)
section
variable {X : Cx} {C : Cd} {o e value : Expr} {es : List Expr} {f : Str} {pos pos' apos : Pos} {da dv : DE} {dr : DA} {k n : Nat} {df : DF} {fa c : Addr} {fd : FuncData} {ps : List Str} {m : Str}
theorem pd_fld {Cs : List Addr} (hK : C.K = X.K) (hc : ∀ c ∈ Cs, Cls X.K c ∧ NoAttr X.K c f) (he : PD X C e da) (hb : attributeBase e f X.env (eval e X.env) = eval e X.env := by rfl) : PD X C (.Attribute e f pos) (dFld Cs f da) := by
  obtain ⟨t, h1, h2⟩ := he.ex
  refine ⟨_, pe_fld h1 hb, fun δ σ F M H q Q a h p => ?_⟩
  refine h2 δ σ F M H _ _ a h fun x v F1 M1 H1 w1 g1 r1 h1 => ?_
  split at h1
  · rename_i c fs e1
    obtain ⟨a, dx, ws, rfl, ha, hk, r⟩ := insOf_at w1 r1 e1
    obtain ⟨h0, h1⟩ := h1
    split at h1
    · rename_i d e2
      obtain ⟨v, hv, rv⟩ := lookup_rep hk r e2
      obtain ⟨c1, c2⟩ := hc c h0
      exact ⟨a, c, dx, ws, v, rfl, ha, c1, c2, hv, w1.okE (p.from g1) rv h1⟩
    · exact h1.elim
  · exact h1.elim
theorem pd_setFld (hK : C.K = X.K) (hc : Cls X.K c) (hn : NoAttr X.K c f) (ha : PD X C o da) (hv : PD X C value dv) (hs : swapsWith value (some (.Attribute o f pos')) pos.line X.env = pure false := by rfl) : PDS X C (.Assign [.Attribute o f pos'] value pos) (dSetFld c f dv da) := by
  obtain ⟨t, h1, h2⟩ := ha.ex
  obtain ⟨u, h3, h4⟩ := hv.ex
  refine ⟨_, ps_fld h1 h3 hs, fun δ σ F M H DD DV a h p => ?_⟩
  refine h4 δ σ F M H _ _ a h fun y vy F1 M1 H1 w1 g1 r1 h1 => ?_
  refine h2 δ σ F1 M1 H1 _ _ (a.step w1 g1) h1 fun x v F2 M2 H2 w2 g2 r2 h2 => ?_
  split at h2
  · cases r2
    split at h2
    · rename_i c' fs e2
      obtain ⟨rfl, hl, h2⟩ := h2
      obtain ⟨hf, o, ho, r⟩ := w2.mu _ _ e2
      cases o <;> first | exact r.elim | skip
      obtain ⟨rfl, k, r⟩ := r
      obtain ⟨k', r'⟩ := put_rep (f := f) (r1.mono g2.fr) k r
      have hlen := congrArg List.length k
      rw [List.length_map, List.length_map] at hlen
      refine ⟨_, _, _, _, rfl, ho, hc, hn, by rw [hlen]; exact hl, ?_⟩
      exact p.nx _ _ _ _ _ (w2.set e2 (show RepO C.K F2 (.ins _ (putD f y fs)) (.ins _ _ _) from ⟨rfl, k', r'⟩)) (g1.trans (g2.trans (Gr.set w2 e2))) (a.e.mono (g1.fr.trans g2.fr)) h2
    · exact h2.elim
  · exact h2.elim
theorem sd_meth {ta : TE} {t : TA} {E : XK} {xq : XQ} (hx : ∀ {F M H F' M' H' o fs} {c : Addr}, Gr C.F0 C.M0 C.H0 F M H → Gr F M H F' M' H' → Wl C.K F' M' H' → XRep C.K F' H' fs o → xq c fs M' → E (.ref c) o H') (ha : SdE C ta da) (ht : SdA C t dr) : SdE C (tMeth c m (SpD C.K n df) [] E ta t) (dMeth c m n df xq da dr) := fun δ σ F M H q Q a h p => by
  refine ha δ σ F M H _ _ a h fun x v F1 M1 H1 w1 g1 r1 h1 => ?_
  split at h1
  · rename_i c' fs e1
    obtain ⟨rfl, hl, h1⟩ := h1
    obtain ⟨a0, dx, ws, rfl, ha0, hk, r⟩ := insOf_at w1 r1 e1
    refine ⟨a0, dx, ws, rfl, ha0, lookup_none hk hl, ?_⟩
    refine ht δ σ F1 M1 H1 _ _ (a.step w1 g1) h1 fun xs vs F2 M2 H2 w2 g2 r2 h2 => ?_
    rw [List.append_nil]
    exact ⟨F2, M2, x :: xs, q, xq, w2, .cons (r1.mono g2.fr) r2, h2.1, h2.2, fun d v F3 M3 H3 w3 g3 r3 h3 => p d v F3 M3 H3 w3 (g1.trans (g2.trans g3)) r3 h3, fun c fs F3 M3 H3 o w3 g3 r3 h3 => hx (a.g.trans (g1.trans g2)) g3 w3 r3 h3⟩
  · exact h1.elim
/-- o.m(e, ..) that lets nothing out -/
theorem pd_meth {pl : Sem Bool} (hK : C.K = X.K) (c1 : Cls X.K c) (hm : Meth X.K c m fa) (G : FnOk X.prog X.w X.K X.mg X.base CX0 k fa fd ps (SpD X.K n df)) (hr : Room k X.A) (hb : Binds X.K fd ps []) (ho : PD X C o da) (ha : PDA X C (e :: es) dr)
    (hst : starEach (e :: es) X.env = (false, eval e X.env) :: starEach es X.env := by rfl) (hpl : (backTo pos (starEach es X.env)).any (·.1) = false := by rfl)
    (ht : eval (.Call (.Attribute o m apos) (e :: es) [] pos) X.env = (do
      let ov ← eval o X.env
      standAt apos.atName
      let (f, first) ← holding [ov] (getMethod ov m pl)
      callWith pos f first (backTo pos (starEach (e :: es) X.env)) (backToKw pos (keywordEach [] X.env))) := by rfl) :
    PD X C (.Call (.Attribute o m apos) (e :: es) [] pos) (dMeth c m n df noX da dr) := by
  obtain ⟨to, h1, h2⟩ := ho.ex
  obtain ⟨t, h3, h4⟩ := ha.ex
  exact ⟨_, pe_meth h1 c1 hm G hr hb .nil pass0 h3 hst hpl ht, hK ▸ sd_meth (fun _ _ _ _ h => h.elim) h2 h4⟩
theorem pd_meth0 {pl : Sem Bool} (hK : C.K = X.K) (c1 : Cls X.K c) (hm : Meth X.K c m fa) (G : FnOk X.prog X.w X.K X.mg X.base CX0 k fa fd ps (SpD X.K n df)) (hr : Room k X.A) (hb : Binds X.K fd ps []) (ho : PD X C o da)
    (ht : eval (.Call (.Attribute o m apos) [] [] pos) X.env = (do
      let ov ← eval o X.env
      standAt apos.atName
      let (f, first) ← holding [ov] (getMethod ov m pl)
      callWith pos f first (backTo pos (starEach [] X.env)) (backToKw pos (keywordEach [] X.env))) := by rfl) :
    PD X C (.Call (.Attribute o m apos) [] [] pos) (dMeth c m n df noX da dNil) := by
  obtain ⟨to, h1, h2⟩ := ho.ex
  exact ⟨_, pe_meth0 h1 c1 hm G hr hb .nil pass0 ht, hK ▸ sd_meth (fun _ _ _ _ h => h.elim) h2 (fun δ σ F M H q Q a h p => p [] [] F M H a.w (Gr.refl F M H) .nil h)⟩
theorem pd_methX {pl : Sem Bool} (hK : C.K = X.K) (hx : C.XOk) (hp : Passes (CX X.prog X.w) X C.E) (c1 : Cls X.K c) (hm : Meth X.K c m fa) (G : FnOk X.prog X.w X.K X.mg X.base (CX X.prog X.w) k fa fd ps (SpD X.K n df)) (hr : Room k X.A) (hb : Binds X.K fd ps []) (ho : PD X C o da) (ha : PDA X C (e :: es) dr)
    (hst : starEach (e :: es) X.env = (false, eval e X.env) :: starEach es X.env := by rfl) (hpl : (backTo pos (starEach es X.env)).any (·.1) = false := by rfl)
    (ht : eval (.Call (.Attribute o m apos) (e :: es) [] pos) X.env = (do
      let ov ← eval o X.env
      standAt apos.atName
      let (f, first) ← holding [ov] (getMethod ov m pl)
      callWith pos f first (backTo pos (starEach (e :: es) X.env)) (backToKw pos (keywordEach [] X.env))) := by rfl) :
    PD X C (.Call (.Attribute o m apos) (e :: es) [] pos) (dMeth c m n df C.xq da dr) := by
  obtain ⟨to, h1, h2⟩ := ho.ex
  obtain ⟨t, h3, h4⟩ := ha.ex
  exact ⟨_, pe_meth h1 c1 hm G hr hb .nil hp h3 hst hpl ht, hK ▸ sd_meth (fun g g' w r h => hx _ _ _ _ _ _ w (g.trans g') r h) h2 h4⟩
theorem pd_methX0 {pl : Sem Bool} (hK : C.K = X.K) (hx : C.XOk) (hp : Passes (CX X.prog X.w) X C.E) (c1 : Cls X.K c) (hm : Meth X.K c m fa) (G : FnOk X.prog X.w X.K X.mg X.base (CX X.prog X.w) k fa fd ps (SpD X.K n df)) (hr : Room k X.A) (hb : Binds X.K fd ps []) (ho : PD X C o da)
    (ht : eval (.Call (.Attribute o m apos) [] [] pos) X.env = (do
      let ov ← eval o X.env
      standAt apos.atName
      let (f, first) ← holding [ov] (getMethod ov m pl)
      callWith pos f first (backTo pos (starEach [] X.env)) (backToKw pos (keywordEach [] X.env))) := by rfl) :
    PD X C (.Call (.Attribute o m apos) [] [] pos) (dMeth c m n df C.xq da dNil) := by
  obtain ⟨to, h1, h2⟩ := ho.ex
  exact ⟨_, pe_meth0 h1 c1 hm G hr hb .nil hp ht, hK ▸ sd_meth (fun g g' w r h => hx _ _ _ _ _ _ w (g.trans g') r h) h2 (fun δ σ F M H q Q a h p => p [] [] F M H a.w (Gr.refl F M H) .nil h)⟩
/-- a new instance, and its dict -/
theorem Wl.made {F H : Hp} {M : Mh} {x dx : Addr} {c : Addr} (w : Wl C.K F M H) (hx : H x = none) (hd : H dx = none) (ne : dx ≠ x) : Wl C.K F (mset M x (.ins c [])) (upd (upd H dx (.own x)) x (.ins c dx [])) ∧ Gr F M H F (mset M x (.ins c [])) (upd (upd H dx (.own x)) x (.ins c dx [])) := by
  have fx := w.freeF hx
  have fd := w.freeF hd
  refine ⟨⟨fun b u e => ?_, fun b u e => ?_⟩, ⟨Same.refl F, fun b u hb f m => ?_, fun b hb => ?_⟩⟩
  · have n1 : b ≠ x := fun z => by rw [z, fx] at e; cases e
    have n2 : b ≠ dx := fun z => by rw [z, fd] at e; cases e
    rw [upd_ne n1, upd_ne n2]; exact w.sub b u e
  · by_cases z : b = x
    · subst z
      rw [mset_same] at e; cases e
      exact ⟨fx, _, upd_same, rfl, rfl, .nil⟩
    · rw [mset_ne z] at e
      obtain ⟨z1, v, z2, z3⟩ := w.mu b u e
      have n2 : b ≠ dx := ne_of_none z2 hd
      exact ⟨z1, v, by rw [upd_ne z, upd_ne n2]; exact z2, z3⟩
  · have n1 : b ≠ x := ne_of_none hb hx
    have n2 : b ≠ dx := ne_of_none hb hd
    exact ⟨by rw [upd_ne n1, upd_ne n2]; exact hb, f, by rw [mset_ne n1]; exact m⟩
  · by_cases z : b = x
    · rw [z]; exact hx
    · rw [upd_ne z] at hb
      by_cases z2 : b = dx
      · rw [z2]; exact hd
      · rw [upd_ne z2] at hb; exact hb
theorem sd_make {t : TA} {E : XK} {xq : XQ} (hx : ∀ {F M H F' M' H' o fs} {c : Addr}, Gr C.F0 C.M0 C.H0 F M H → Gr F M H F' M' H' → Wl C.K F' M' H' → XRep C.K F' H' fs o → xq c fs M' → E (.ref c) o H') (ht : SdA C t dr) : SdE C (tMake c (SpD C.K n df) [] E t) (dMake c n df xq dr) := fun δ σ F M H q Q a h p => by
  refine ht δ σ F M H _ _ a h fun xs vs F2 M2 H2 w2 g2 r2 h2 => ?_
  intro x dx hxn hdn ne
  rw [List.append_nil]
  obtain ⟨l1, h3⟩ := h2 x (w2.freeM hxn)
  obtain ⟨w3, g3⟩ := Wl.made (c := c) w2 hxn hdn ne
  exact ⟨F2, _, .adr x :: xs, _, xq, w3, .cons (.adr x) r2, by rw [List.length_cons]; exact l1, h3, fun d v F4 M4 H4 w4 g4 r4 h4 => ⟨by obtain ⟨z, _⟩ := h4; subst z; cases r4; rfl, p _ _ F4 M4 H4 w4 (g2.trans (g3.trans g4)) (.adr x) h4.2⟩, fun c fs F4 M4 H4 o w4 g4 r4 h4 => hx (a.g.trans (g2.trans g3)) g4 w4 r4 h4⟩
theorem pd_make {x : Str} {p : Pos} (hK : C.K = X.K) (M0 : Mk X.K c fa) (G : FnOk X.prog X.w X.K X.mg X.base CX0 k fa fd ps (SpD X.K n df)) (hr : Room (k + 1) X.A) (hg : Gl X x) (hm : X.mg x = some (.ref c)) (hb : Binds X.K fd ps [])
    (ha : PDA X C (e :: es) dr) (hdb : (x == ("__debug__" : Str)) = false := by decide) (he : starEach (e :: es) X.env = (false, eval e X.env) :: starEach es X.env := by rfl) (hpl : (backTo pos (starEach es X.env)).any (·.1) = false := by rfl) :
    PD X C (.Call (.Name x p) (e :: es) [] pos) (dMake c n df noX dr) := by
  obtain ⟨t, h3, h4⟩ := ha.ex
  exact ⟨_, pe_make M0 G hr hg hm hb .nil pass0 h3 hdb he hpl, hK ▸ sd_make (fun _ _ _ _ h => h.elim) h4⟩
theorem pd_makeX {x : Str} {p : Pos} (hK : C.K = X.K) (hx : C.XOk) (hp : Passes (CX X.prog X.w) X C.E) (M0 : Mk X.K c fa) (G : FnOk X.prog X.w X.K X.mg X.base (CX X.prog X.w) k fa fd ps (SpD X.K n df)) (hr : Room (k + 1) X.A) (hg : Gl X x) (hm : X.mg x = some (.ref c)) (hb : Binds X.K fd ps [])
    (ha : PDA X C (e :: es) dr) (hdb : (x == ("__debug__" : Str)) = false := by decide) (he : starEach (e :: es) X.env = (false, eval e X.env) :: starEach es X.env := by rfl) (hpl : (backTo pos (starEach es X.env)).any (·.1) = false := by rfl) :
    PD X C (.Call (.Name x p) (e :: es) [] pos) (dMake c n df C.xq dr) := by
  obtain ⟨t, h3, h4⟩ := ha.ex
  exact ⟨_, pe_make M0 G hr hg hm hb .nil hp h3 hdb he hpl, hK ▸ sd_make (fun g g' w r h => hx _ _ _ _ _ _ w (g.trans g') r h) h4⟩
/-- o.f, a property -/
def dProp (c : Addr) (n : Nat) (f : DF) (da : DE) : DE := fun δ M q => da δ M fun x M1 => match insOf M1 x with
  | some (c', _) => c' = c ∧ n = 1 ∧ f [x] M1 q noX
  | none => False
theorem pd_prop {p g : Addr} (hK : C.K = X.K) (he : PD X C e da) (c1 : Cls X.K c) (hp : PropOf X.K c f p g) (G : FnOk X.prog X.w X.K X.mg X.base CX0 k g fd ps (SpD X.K n df)) (hr : Room (k + 1) X.A) (hb : Binds X.K fd ps [])
    (hab : attributeBase e f X.env (eval e X.env) = eval e X.env := by rfl) : PD X C (.Attribute e f pos) (dProp c n df da) := by
  obtain ⟨t, h1, h2⟩ := he.ex
  refine ⟨_, pe_prop h1 c1 hp G hr hb .nil pass0 hab, fun δ σ F M H q Q a h p => ?_⟩
  refine h2 δ σ F M H _ _ a h fun x v F1 M1 H1 w1 g1 r1 h1 => ?_
  split at h1
  · rename_i c' fs e1
    obtain ⟨rfl, rfl, h1⟩ := h1
    obtain ⟨a0, dx, ws, rfl, ha0, hk, r⟩ := insOf_at w1 r1 e1
    rw [← hK]
    exact ⟨a0, dx, ws, rfl, ha0, F1, M1, [x], q, noX, w1, .cons r1 .nil, rfl, h1, fun d v F3 M3 H3 w3 g3 r3 h3 => p d v F3 M3 H3 w3 (g1.trans g3) r3 h3, fun c fs F3 M3 H3 o w3 g3 r3 h3 => h3.elim⟩
  · exact h1.elim
/-- one of two classes -/
def dEither (da db : DE) : DE := fun δ M q => da δ M q ∨ db δ M q
theorem pd_either {e : Expr} {db : DE} (ha : PD X C e da) (hb : PD X C e db) : PD X C e (dEither da db) := by
  obtain ⟨t, h1, h2⟩ := ha.ex
  obtain ⟨u, h3, h4⟩ := hb.ex
  refine ⟨fun σ H Q => t σ H Q ∨ u σ H Q, ⟨fun pins s σ H Q I h => ?_⟩, fun δ σ F M H q Q a h p => ?_⟩
  · rcases h with h | h
    · exact h1.run pins s σ H Q I h
    · exact h3.run pins s σ H Q I h
  · rcases h with h | h
    · exact .inl (h2 δ σ F M H q Q a h p)
    · exact .inr (h4 δ σ F M H q Q a h p)
end
end DL

set_option Elab.async false
set_option linter.all false
set_option maxRecDepth 100000
set_option maxHeartbeats 1000000
namespace DL
open PySem L2 PyProof.Rows

/-! ### in -/
def eqDb : D → D → Bool
  | .non, .non => true
  | .bl a, .bl b => a == b
  | .bl a, .int b => (if a then 1 else 0) == b
  | .int a, .bl b => a == (if b then 1 else 0)
  | .int a, .int b => a == b
  | .str a, .str b => a == b
  | _, _ => false
def flatD : D → Bool
  | .non => true
  | .bl _ => true
  | .int _ => true
  | .str _ => true
  | _ => false
def inD (x : D) (ds : List D) : Bool := ds.any fun y => eqDb y x
theorem flat_rep {K : PySem.W.Frag} {F : Hp} {v : V} {d : D} (r : Rep K F v d) (h : flatD d = true) : flatV v = true := by
  cases r <;> first | rfl | cases h
theorem eq_rep {K : PySem.W.Frag} {F : Hp} {v u : V} {d e : D} (r : Rep K F v d) (r' : Rep K F u e) (h : flatD d = true) (h' : flatD e = true) : eqV v u = eqDb d e := by
  cases r <;> first | (cases h; done) | skip
  all_goals (cases r' <;> first | (cases h'; done) | rfl)
theorem flats_rep {K : PySem.W.Frag} {F : Hp} : ∀ {vs : List V} {ds : List D}, Reps K F vs ds → ds.all flatD = true → vs.all flatV = true
  | _, _, .nil, _ => rfl
  | _, _, .cons r t, h => by
    rw [List.all_cons, Bool.and_eq_true] at h
    rw [List.all_cons, flat_rep r h.1, flats_rep t h.2]
    rfl
theorem in_rep {K : PySem.W.Frag} {F : Hp} {v : V} {d : D} (r : Rep K F v d) (h : flatD d = true) : ∀ {vs : List V} {ds : List D}, Reps K F vs ds → ds.all flatD = true → inV v vs = inD d ds
  | _, _, .nil, _ => rfl
  | _, _, .cons r' t, h' => by
    rw [List.all_cons, Bool.and_eq_true] at h'
    have ih := in_rep r h t h'.2
    unfold inV inD at ih ⊢
    rw [List.any_cons, List.any_cons, eq_rep r' r h'.1 h, ih]
def oIn (neg : Bool) : DR2 := fun x y M q => match y with
  | .str z => ∃ c, x = .str ⟨#[c]⟩ ∧ q (.bl (if neg then !decide (c ∈ z.cps.toList) else decide (c ∈ z.cps.toList))) M
  | y => match seqItems M y with
    | some ds => flatD x = true ∧ ds.all flatD = true ∧ q (.bl (if neg then !inD x ds else inD x ds)) M
    | none => False
def rInP (K : PySem.W.Frag) (neg : Bool) : R2 := fun x y H Q => rIn K neg x y H Q ∨ ∃ c z, x = .str ⟨#[c]⟩ ∧ y = .str z ∧ Q (.bl (if neg then !decide (c ∈ z.cps.toList) else decide (c ∈ z.cps.toList))) H
section
variable {X : Cx} {C : Cd}
theorem op_inP (hK : C.K = X.K) : OpR X (compareOp .In) (rInP C.K false) := hK ▸ op_in_seq.or op_in_sign
theorem op_notInP (hK : C.K = X.K) : OpR X (compareOp .NotIn) (rInP C.K true) := hK ▸ op_notIn_seq.or op_notIn_sign
theorem so_in {neg : Bool} : SdOp C (rInP C.K neg) (oIn neg) := fun x y d e F M H q Q w rx ry h p => by
  unfold oIn at h
  split at h
  · cases ry
    obtain ⟨c, rfl, h⟩ := h
    cases rx
    exact .inr ⟨c, _, rfl, rfl, w.okE p (.bl _) h⟩
  · split at h
    · rename_i e1
      obtain ⟨a, ys, rfl, hq, rr⟩ := seqItems_at w ry e1
      obtain ⟨h1, h2, h3⟩ := h
      refine .inl ⟨a, ys, rfl, hq, flat_rep rx h1, flats_rep rr h2, ?_⟩
      rw [in_rep rx h1 rr h2]
      exact w.okE p (.bl _) h3
    · exact h.elim
end

/-! ### what stands at a name -/
structure Has0 (P : Program) (w : World) (K : PySem.W.Frag) (mg : Str → Option Value) (base : Heap) (k : Nat) (x : Str) (ps : List Str) (df : DF) : Prop where
  ex : ∃ (f : Addr) (fd : FuncData), mg x = some (.ref f) ∧ PySem.W.keepIn K (.ref f) = true ∧ Binds K fd ps [] ∧ FnOk P w K mg base CX0 k f fd ps (SpD K ps.length df)
structure HasX (P : Program) (w : World) (K : PySem.W.Frag) (mg : Str → Option Value) (base : Heap) (k : Nat) (x : Str) (ps : List Str) (df : DF) : Prop where
  ex : ∃ (f : Addr) (fd : FuncData), mg x = some (.ref f) ∧ PySem.W.keepIn K (.ref f) = true ∧ Binds K fd ps [] ∧ FnOk P w K mg base (CX P w) k f fd ps (SpD K ps.length df)
/-- a method of the class at c -/
structure HasM0 (P : Program) (w : World) (K : PySem.W.Frag) (mg : Str → Option Value) (base : Heap) (c : Addr) (k : Nat) (m : Str) (ps : List Str) (df : DF) : Prop where
  ex : ∃ (f : Addr) (fd : FuncData), Meth K c m f ∧ Binds K fd ps [] ∧ FnOk P w K mg base CX0 k f fd ps (SpD K ps.length df)
structure HasMX (P : Program) (w : World) (K : PySem.W.Frag) (mg : Str → Option Value) (base : Heap) (c : Addr) (k : Nat) (m : Str) (ps : List Str) (df : DF) : Prop where
  ex : ∃ (f : Addr) (fd : FuncData), Meth K c m f ∧ Binds K fd ps [] ∧ FnOk P w K mg base (CX P w) k f fd ps (SpD K ps.length df)
structure HasP0 (P : Program) (w : World) (K : PySem.W.Frag) (mg : Str → Option Value) (base : Heap) (c : Addr) (k : Nat) (m : Str) (df : DF) : Prop where
  ex : ∃ (p f : Addr) (fd : FuncData), PropOf K c m p f ∧ Binds K fd ["self"] [] ∧ FnOk P w K mg base CX0 k f fd ["self"] (SpD K 1 df)
/-- a class that is made by its __init__ -/
structure HasC0 (P : Program) (w : World) (K : PySem.W.Frag) (mg : Str → Option Value) (base : Heap) (c : Addr) (k : Nat) (x : Str) (ps : List Str) (df : DF) : Prop where
  ex : ∃ (f : Addr) (fd : FuncData), mg x = some (.ref c) ∧ Mk K c f ∧ Binds K fd ps [] ∧ FnOk P w K mg base CX0 k f fd ps (SpD K ps.length df)
structure HasCX (P : Program) (w : World) (K : PySem.W.Frag) (mg : Str → Option Value) (base : Heap) (c : Addr) (k : Nat) (x : Str) (ps : List Str) (df : DF) : Prop where
  ex : ∃ (f : Addr) (fd : FuncData), mg x = some (.ref c) ∧ Mk K c f ∧ Binds K fd ps [] ∧ FnOk P w K mg base (CX P w) k f fd ps (SpD K ps.length df)
section
variable {X : Cx} {C : Cd} {x m : Str} {e o : Expr} {es : List Expr} {da : DE} {dr : DA} {k : Nat} {ps : List Str} {df : DF} {p pos apos : Pos} {c : Addr}
theorem pd_f0 (G : Has0 X.prog X.w X.K X.mg X.base k x ps df) (hK : C.K = X.K) (hr : Room k X.A) (ha : PDA X C (e :: es) dr) (hg : Gl X x := by rfl) (hdb : (x == ("__debug__" : Str)) = false := by decide)
    (he : starEach (e :: es) X.env = (false, eval e X.env) :: starEach es X.env := by rfl) (hpl : (backTo pos (starEach es X.env)).any (·.1) = false := by rfl) : PD X C (.Call (.Name x p) (e :: es) [] pos) (dCall ps.length df noX dr) := by
  obtain ⟨f, fd, h1, h2, h3, h4⟩ := G.ex
  exact pd_call0 h4 hK hr hg h1 h2 h3 ha hdb he hpl
theorem pd_fX (G : HasX X.prog X.w X.K X.mg X.base k x ps df) (hK : C.K = X.K) (hr : Room k X.A) (hx : C.XOk) (hp : Passes (CX X.prog X.w) X C.E) (ha : PDA X C (e :: es) dr) (hg : Gl X x := by rfl) (hdb : (x == ("__debug__" : Str)) = false := by decide)
    (he : starEach (e :: es) X.env = (false, eval e X.env) :: starEach es X.env := by rfl) (hpl : (backTo pos (starEach es X.env)).any (·.1) = false := by rfl) : PD X C (.Call (.Name x p) (e :: es) [] pos) (dCall ps.length df C.xq dr) := by
  obtain ⟨f, fd, h1, h2, h3, h4⟩ := G.ex
  exact pd_callX h4 hK hr hg h1 h2 h3 hx hp ha hdb he hpl
theorem pd_m0 {pl : Sem Bool} (G : HasM0 X.prog X.w X.K X.mg X.base c k m ps df) (hK : C.K = X.K) (c1 : Cls X.K c) (hr : Room k X.A) (ho : PD X C o da) (ha : PDA X C (e :: es) dr)
    (hst : starEach (e :: es) X.env = (false, eval e X.env) :: starEach es X.env := by rfl) (hpl : (backTo pos (starEach es X.env)).any (·.1) = false := by rfl)
    (ht : eval (.Call (.Attribute o m apos) (e :: es) [] pos) X.env = (do
      let ov ← eval o X.env
      standAt apos.atName
      let (f, first) ← holding [ov] (getMethod ov m pl)
      callWith pos f first (backTo pos (starEach (e :: es) X.env)) (backToKw pos (keywordEach [] X.env))) := by rfl) :
    PD X C (.Call (.Attribute o m apos) (e :: es) [] pos) (dMeth c m ps.length df noX da dr) := by
  obtain ⟨f, fd, h1, h2, h3⟩ := G.ex
  exact pd_meth hK c1 h1 h3 hr h2 ho ha hst hpl ht
theorem pd_m00 {pl : Sem Bool} (G : HasM0 X.prog X.w X.K X.mg X.base c k m ps df) (hK : C.K = X.K) (c1 : Cls X.K c) (hr : Room k X.A) (ho : PD X C o da)
    (ht : eval (.Call (.Attribute o m apos) [] [] pos) X.env = (do
      let ov ← eval o X.env
      standAt apos.atName
      let (f, first) ← holding [ov] (getMethod ov m pl)
      callWith pos f first (backTo pos (starEach [] X.env)) (backToKw pos (keywordEach [] X.env))) := by rfl) :
    PD X C (.Call (.Attribute o m apos) [] [] pos) (dMeth c m ps.length df noX da dNil) := by
  obtain ⟨f, fd, h1, h2, h3⟩ := G.ex
  exact pd_meth0 hK c1 h1 h3 hr h2 ho ht
theorem pd_p0 (G : HasP0 X.prog X.w X.K X.mg X.base c k m df) (hK : C.K = X.K) (c1 : Cls X.K c) (hr : Room (k + 1) X.A) (ho : PD X C o da)
    (hab : attributeBase o m X.env (eval o X.env) = eval o X.env := by rfl) : PD X C (.Attribute o m pos) (dProp c 1 df da) := by
  obtain ⟨p, f, fd, h1, h2, h3⟩ := G.ex
  exact pd_prop hK ho c1 h1 h3 hr h2 hab
theorem pd_c0 (G : HasC0 X.prog X.w X.K X.mg X.base c k x ps df) (hK : C.K = X.K) (hr : Room (k + 1) X.A) (ha : PDA X C (e :: es) dr) (hg : Gl X x := by rfl) (hdb : (x == ("__debug__" : Str)) = false := by decide)
    (he : starEach (e :: es) X.env = (false, eval e X.env) :: starEach es X.env := by rfl) (hpl : (backTo pos (starEach es X.env)).any (·.1) = false := by rfl) : PD X C (.Call (.Name x p) (e :: es) [] pos) (dMake c ps.length df noX dr) := by
  obtain ⟨f, fd, h1, h2, h3, h4⟩ := G.ex
  exact pd_make hK h2 h4 hr hg h1 h3 ha hdb he hpl
/-- constants of the module -/
def GInt (mg : Str → Option Value) (x : Str) (n : Int) : Prop := ∃ t, mg x = some (.int n t)
def GStr (mg : Str → Option Value) (x : Str) (z : Str) : Prop := ∃ t, mg x = some (.str z t)
def GTup (K : PySem.W.Frag) (mg : Str → Option Value) (x : Str) (ds : List D) : Prop := ∃ a vs, mg x = some (.ref a) ∧ (∀ F, SqT K F a vs) ∧ ∀ F, Reps K F vs ds
theorem pd_gInt {n : Int} (h : GInt X.mg x n) (hg : Gl X x := by rfl) (hd : (x == ("__debug__" : Str)) = false := by decide) : PD X C (.Name x pos) (dC (.int n)) := by
  obtain ⟨t, h⟩ := h
  exact pd_glob (v := .int n) hg h ⟨t, rfl⟩ (fun _ => .int n) hd
theorem pd_gStr {z : Str} (h : GStr X.mg x z) (hg : Gl X x := by rfl) (hd : (x == ("__debug__" : Str)) = false := by decide) : PD X C (.Name x pos) (dC (.str z)) := by
  obtain ⟨t, h⟩ := h
  exact pd_glob (v := .str z) hg h ⟨t, rfl⟩ (fun _ => .str z) hd
theorem pd_gTup {ds : List D} (hK : C.K = X.K) (h : GTup X.K X.mg x ds) (hg : Gl X x := by rfl) (hd : (x == ("__debug__" : Str)) = false := by decide) : PD X C (.Name x pos) (dC (.ktp ds)) := by
  obtain ⟨a, vs, h1, h2, h3⟩ := h
  exact pd_glob (v := .ref a) hg h1 rfl (fun F => hK ▸ .ktp (h2 F) (h3 F)) hd
end
/-- from a def's rule to its name -/
theorem Has0.mk' {P : Program} {w : World} {K : PySem.W.Frag} {mg : Str → Option Value} {base : Heap} {x qual : Str} {st : Stmt} {f : Addr} {fd : FuncData} {k : Nat} {ps : List Str} {df : DF} (G : Fun K x qual st f fd) (hm : mg x = some (.ref f)) (hb : Binds K fd ps []) (h : FnOk P w K mg base CX0 k f fd ps (SpD K ps.length df)) : Has0 P w K mg base k x ps df := ⟨⟨f, fd, hm, G.kp, hb, h⟩⟩
end DL

set_option Elab.async false
set_option linter.all false
set_option maxRecDepth 100000
set_option maxHeartbeats 1000000
namespace DL
open PySem L2 PyProof.Rows

/-! ### xs[::-1] -/
def dRevL (da : DE) : DLs := fun δ M q => da δ M fun x M1 => match items M1 x with
  | some ds => q ds.reverse M1
  | none => False
section
variable {X : Cx} {C : Cd} {e : Expr} {es : List Expr} {da : DE} {pos : Pos}
theorem Reps.reverse {K : PySem.W.Frag} {F : Hp} : ∀ {vs : List V} {ds : List D}, Reps K F vs ds → Reps K F vs.reverse ds.reverse
  | _, _, .nil => .nil
  | _, _, .cons r t => by
    rw [List.reverse_cons, List.reverse_cons]
    exact (Reps.reverse t).append (.cons r .nil)
theorem pd_revL {k : Nat} {p1 p2 p3 : Pos} (hK : C.K = X.K) (he : PD X C e da) : PDL X C (.Subscript e (.Slice none none (some (.UnaryOp .USub (.Constant (.int 1) k p1) p2)) p3) pos) (dRevL da) := by
  obtain ⟨t, h1, h2⟩ := he.ex
  refine ⟨_, pe_revL h1, fun δ σ F M H q Q a h p => ?_⟩
  refine h2 δ σ F M H _ _ a h fun x v F1 M1 H1 w1 g1 r1 h1 => ?_
  split at h1
  · rename_i ds e1
    obtain ⟨b, xs, rfl, hb, r⟩ := items_at w1 r1 e1
    refine ⟨b, xs, rfl, .of hb, fun l hl => ?_⟩
    obtain ⟨w2, g2, z1, z2, z3⟩ := frame_new (o := .lst xs.reverse) w1 g1 hl
    exact p _ _ l _ _ _ w2 g2 z1 z2 z3 upd_same r.reverse h1
  · exact h1.elim
end

/-! ### sorted of data -/
abbrev Tri := V × D × PyData
def triLe : Tri → Tri → Bool := PySem.W.dataLe false fun t => t.2.2
def rSortedD (K : PySem.W.Frag) : List V → Hp → VK → Prop := fun vs H Q => ∃ (a : Addr) (ts : List Tri), vs = [.ref a] ∧ SqL K H a (ts.map (·.1)) ∧ DpAll K H (ts.map (·.1)) (ts.map (·.2.2)) ∧
  PySem.W.AllAlike (ts.map (·.2.2)) ∧ PySem.W.Sortable (ts.map (·.2.2)) ∧ (∀ t ∈ ts, t.2.2.depth ≤ 20) ∧ ∀ l, H l = none → Q (.ref l) (upd H l (.lst ((ts.mergeSort triLe).map (·.1))))
section
variable {X : Cx} {C : Cd} {pins : List (Addr × Obj)} {σ : L2.St} {H : Hp} {s : Shared}
theorem each_rel : ∀ {ts : List Tri} {us : List Value}, Vals (ts.map (·.1)) us → PySem.W.EachIs (fun v (b : Tri) => RelV b.1 v) us ts
  | [], _, .nil => .nil
  | _ :: _, _, .cons r t => .cons r (each_rel t)
theorem each_reads (I : Inv X pins σ H s) : ∀ {ts : List Tri} {us : List Value}, Vals (ts.map (·.1)) us → DpAll X.K H (ts.map (·.1)) (ts.map (·.2.2)) → PySem.W.EachIs (fun v (b : Tri) => ∃ as, Reads s.heap v b.2.2 as) us ts
  | [], _, .nil, _ => .nil
  | _ :: _, _, .cons r t, .cons h1 h2 => .cons (Dp.reads I _ _ _ h1 r) (each_reads I t h2)
theorem vals_each : ∀ {ts : List Tri} {us : List Value}, PySem.W.EachIs (fun v (b : Tri) => RelV b.1 v) us ts → Vals (ts.map (·.1)) us
  | _, _, .nil => .nil
  | _, _, .cons r t => .cons r (vals_each t)
theorem cr_sortedD {k : Nat} (hr : Room k X.A) : CallR X (.builtin "sorted") (rSortedD X.K) := by
  intro pins s σ H vs us Q I r h
  obtain ⟨a, ts, rfl, hq, hd, h1, h2, h3, q⟩ := h
  rw [Vals.ref1 r]
  obtain ⟨its, rv, pl, hz⟩ := I.list hq
  rw [List.length_map] at hz
  have hun := hr.units
  refine PySem.W.sorted_data (R := fun v (b : Tri) => RelV b.1 v) (enc := fun t : Tri => t.2.2) pl.isList (each_rel rv) (each_reads I rv hd) h1 h2 hz (fun b hb => by have := h3 b hb; omega) fun out hlen hout => ?_
  have hv := vals_each hout
  obtain ⟨c, hc⟩ := sortedAll_at s.heap its out.toArray
  have hn := I.hok.fresh (Nat.le_succ s.heap.objs.size)
  have hlen2 : (ts.mergeSort triLe).length = ts.length := List.length_mergeSort ts
  refine ⟨.ref (s.heap.objs.size + 1), upd H (s.heap.objs.size + 1) (.lst ((ts.mergeSort triLe).map (·.1))), I.laid (t' := s.toks) (fun b u q => sortedAll_old q) (Nat.le_succ _) ⟨by rw [List.length_map, hlen2]; exact hz, out, c, hv, hc⟩, rfl, q _ hn⟩
/-- the items sorted by what they are as data -/
def dsort (ds : List D) (ps : List PyData) : List D := ((ds.zip ps).mergeSort (PySem.W.dataLe false fun t => t.2)).map (·.1)
def kSortedD : DRC := fun xs M q => match xs with
  | [x] => ∃ ds ps, items M x = some ds ∧ D.pys ds = some ps ∧ PySem.W.AllAlike ps ∧ PySem.W.Sortable ps ∧ (∀ p ∈ ps, p.depth ≤ 20) ∧ q (.lst (dsort ds ps)) M
  | _ => False
theorem pys_len : ∀ {ds : List D} {ps : List PyData}, D.pys ds = some ps → ds.length = ps.length
  | [], _, h => by cases h; rfl
  | d :: ds, ps, h => by
    simp only [D.pys] at h
    split at h
    · rename_i a b h1 h2
      cases h
      rw [List.length_cons, List.length_cons, pys_len h2]
    · cases h
theorem tri_maps {α β γ : Type} : ∀ {vs : List α} {ds : List β} {ps : List γ}, vs.length = ds.length → ds.length = ps.length →
    (vs.zip (ds.zip ps)).map (·.1) = vs ∧ (vs.zip (ds.zip ps)).map (·.2.1) = ds ∧ (vs.zip (ds.zip ps)).map (·.2.2) = ps ∧ (vs.zip (ds.zip ps)).map (·.2) = ds.zip ps
  | [], [], [], _, _ => ⟨rfl, rfl, rfl, rfl⟩
  | v :: vs, d :: ds, p :: ps, h1, h2 => by
    obtain ⟨a, b, c, e⟩ := tri_maps (vs := vs) (ds := ds) (ps := ps) (by simpa using h1) (by simpa using h2)
    refine ⟨?_, ?_, ?_, ?_⟩ <;> simp only [List.zip_cons_cons, List.map_cons]
    · rw [a]
    · rw [b]
    · rw [c]
    · rw [e]
  | [], _ :: _, _, h1, _ => by cases h1
  | _ :: _, [], _, h1, _ => by cases h1
  | _, [], _ :: _, _, h2 => by cases h2
  | _, _ :: _, [], _, h2 => by cases h2
theorem reps_zip {K : PySem.W.Frag} {F : Hp} : ∀ {vs : List V} {ds : List D} {ps : List PyData}, Reps K F vs ds → ∀ t ∈ vs.zip (ds.zip ps), Rep K F t.1 t.2.1
  | _, _, _, .nil, t, h => by simp at h
  | _, _, [], .cons _ _, t, h => by simp at h
  | _, _, p :: ps, .cons r t', t, h => by
    simp only [List.zip_cons_cons] at h
    rcases List.mem_cons.mp h with e | h
    · rw [e]; exact r
    · exact reps_zip t' t h
theorem reps_of_all {K : PySem.W.Frag} {F : Hp} : ∀ {ts : List Tri}, (∀ t ∈ ts, Rep K F t.1 t.2.1) → Reps K F (ts.map (·.1)) (ts.map (·.2.1))
  | [], _ => .nil
  | t :: ts, h => .cons (h t List.mem_cons_self) (reps_of_all fun x hx => h x (List.mem_cons_of_mem _ hx))
theorem sc_sortedD : SdC C (rSortedD C.K) kSortedD := fun xs ds F M H q Q w r h p => by
  unfold kSortedD at h
  split at h
  · obtain ⟨v, rfl, rv⟩ := Reps.one r
    obtain ⟨ds, ps, e, hp, h1, h2, h3, h⟩ := h
    obtain ⟨a, ys, rfl, hq, rr⟩ := items_at w rv e
    obtain ⟨m1, m2, m3, m4⟩ := tri_maps rr.length (pys_len hp)
    refine ⟨a, ys.zip (ds.zip ps), rfl, by rw [m1]; exact .of hq, by rw [m1, m3]; exact rr.dp w.sub hp, by rw [m3]; exact h1, by rw [m3]; exact h2, fun t ht => h3 _ (by rw [← m3]; exact List.mem_map_of_mem (f := fun x : Tri => x.2.2) ht), fun l hl => ?_⟩
    have hs : ((ys.zip (ds.zip ps)).mergeSort triLe).map (·.2.1) = dsort ds ps := by
      have hm := List.map_mergeSort (r := triLe) (s := PySem.W.dataLe false fun t : D × PyData => t.2) (f := fun t : Tri => t.2) (l := ys.zip (ds.zip ps)) fun _ _ _ _ => rfl
      rw [m4] at hm
      unfold dsort
      rw [← hm, List.map_map]
      rfl
    refine w.newE p hl (rep_lst (w.freeF hl) ?_) h
    rw [← hs]
    exact reps_of_all fun t ht => reps_zip rr t (List.mem_mergeSort.mp ht)
  · exact h.elim
end

/-! ### dicts -/
def kOf : D → Option Key
  | .int i => some (.inl i)
  | .str x => some (.inr x)
  | _ => none
def ksOf : List D → Option (List Key)
  | [] => some []
  | d :: ds => match kOf d, ksOf ds with
    | some k, some ks => some (k :: ks)
    | _, _ => none
section
variable {α β κ : Type} [DecidableEq κ]
def valP (kvs : List (κ × α)) (k : κ) : Option α := (kvs.find? fun kv => decide (kv.1 = k)).map (·.2)
def putP (kvs : List (κ × α)) (k : κ) (v : α) : List (κ × α) :=
  if (kvs.any fun kv => decide (kv.1 = k)) = true then kvs.map (fun kv => if kv.1 = k then (kv.1, v) else kv) else kvs ++ [(k, v)]
end
section
variable {K : PySem.W.Frag} {F : Hp} {κ : Type} [DecidableEq κ]
theorem kOf_at {v : V} {d : D} {k : Key} (r : Rep K F v d) (h : kOf d = some k) : v = kV k := by
  cases r <;> first | (cases h; done) | (cases h; rfl)
theorem ksOf_at : ∀ {vs : List V} {ds : List D} {ks : List Key}, Reps K F vs ds → ksOf ds = some ks → vs = ks.map kV
  | _, _, _, .nil, h => by cases h; rfl
  | _, _, ks, .cons r t, h => by
    simp only [ksOf] at h
    split at h
    · rename_i k ks' h1 h2
      cases h
      rw [List.map_cons, kOf_at r h1, ksOf_at t h2]
    · cases h
theorem val_rep : ∀ {ws : List (κ × V)} {kvs : List (κ × D)} {k : κ}, ws.map (·.1) = kvs.map (·.1) → Reps K F (ws.map (·.2)) (kvs.map (·.2)) → (valV ws k = none ∧ valP kvs k = none) ∨ ∃ v d, valV ws k = some v ∧ valP kvs k = some d ∧ Rep K F v d
  | [], [], _, _, _ => .inl ⟨rfl, rfl⟩
  | [], _ :: _, _, e, _ => by cases e
  | _ :: _, [], _, e, _ => by cases e
  | (j, w) :: ws, (j', d) :: kvs, k, e, r => by
    simp only [List.map_cons, List.cons.injEq] at e
    obtain ⟨e1, e2⟩ := e
    subst e1
    rw [List.map_cons, List.map_cons] at r
    cases r with
    | cons r1 r2 =>
      by_cases hk : j = k
      · refine .inr ⟨w, d, ?_, ?_, r1⟩
        · unfold valV; rw [List.find?_cons_of_pos (by simp [hk])]; rfl
        · unfold valP; rw [List.find?_cons_of_pos (by simp [hk])]; rfl
      · have ih := val_rep (k := k) e2 r2
        have a1 : valV ((j, w) :: ws) k = valV ws k := by unfold valV; rw [List.find?_cons_of_neg (by simp [hk])]
        have a2 : valP ((j, d) :: kvs) k = valP kvs k := by unfold valP; rw [List.find?_cons_of_neg (by simp [hk])]
        rw [a1, a2]
        exact ih
theorem any_keys {α β : Type} {k : κ} : ∀ {ws : List (κ × α)} {kvs : List (κ × β)}, ws.map (·.1) = kvs.map (·.1) → (ws.any fun kv => decide (kv.1 = k)) = kvs.any fun kv => decide (kv.1 = k)
  | [], [], _ => rfl
  | [], _ :: _, e => by cases e
  | _ :: _, [], e => by cases e
  | (j, w) :: ws, (j', d) :: kvs, e => by
    simp only [List.map_cons, List.cons.injEq] at e
    obtain ⟨e1, e2⟩ := e
    subst e1
    rw [List.any_cons, List.any_cons, any_keys e2]
theorem repl_rep {v : V} {d : D} {k : κ} (rv : Rep K F v d) : ∀ {ws : List (κ × V)} {kvs : List (κ × D)}, ws.map (·.1) = kvs.map (·.1) → Reps K F (ws.map (·.2)) (kvs.map (·.2)) →
    (ws.map fun kv => if kv.1 = k then (kv.1, v) else kv).map (·.1) = (kvs.map fun kv => if kv.1 = k then (kv.1, d) else kv).map (·.1) ∧ Reps K F ((ws.map fun kv => if kv.1 = k then (kv.1, v) else kv).map (·.2)) ((kvs.map fun kv => if kv.1 = k then (kv.1, d) else kv).map (·.2))
  | [], [], _, _ => ⟨rfl, .nil⟩
  | [], _ :: _, e, _ => by cases e
  | _ :: _, [], e, _ => by cases e
  | (j, w) :: ws, (j', d') :: kvs, e, r => by
    simp only [List.map_cons, List.cons.injEq] at e
    obtain ⟨e1, e2⟩ := e
    subst e1
    rw [List.map_cons, List.map_cons] at r
    cases r with
    | cons r1 r2 =>
      obtain ⟨i1, i2⟩ := repl_rep (k := k) rv e2 r2
      simp only [List.map_cons]
      by_cases hk : j = k
      · rw [if_pos hk, if_pos hk]
        exact ⟨by rw [i1], .cons rv i2⟩
      · rw [if_neg hk, if_neg hk]
        exact ⟨by rw [i1], .cons r1 i2⟩
theorem putP_rep {v : V} {d : D} {k : κ} (rv : Rep K F v d) {ws : List (κ × V)} {kvs : List (κ × D)} (e : ws.map (·.1) = kvs.map (·.1)) (r : Reps K F (ws.map (·.2)) (kvs.map (·.2))) :
    (putK ws k v).map (·.1) = (putP kvs k d).map (·.1) ∧ Reps K F ((putK ws k v).map (·.2)) ((putP kvs k d).map (·.2)) := by
  unfold putK putP
  rw [any_keys e]
  split
  · exact repl_rep rv e r
  · refine ⟨by rw [List.map_append, List.map_append, e]; rfl, ?_⟩
    rw [List.map_append, List.map_append]
    exact r.append (.cons rv .nil)
end
/-- what a dict holds at a key -/
def dGet (M : Mh) (d k : D) : Option (Option D) := match d with
  | .dK kvs => match kOf k with
    | some k => some (valP kvs k)
    | none => none
  | .dT kvs => match k with
    | .tup ds => match ksOf ds with
      | some ks => some (valP kvs ks)
      | none => none
    | _ => none
  | .adr a => match M a with
    | some (.dK kvs) => match kOf k with
      | some k => some (valP kvs k)
      | none => none
    | some (.dT kvs) => match k with
      | .tup ds => match ksOf ds with
        | some ks => some (valP kvs ks)
        | none => none
      | _ => none
    | _ => none
  | _ => none
theorem dGet_at {K : PySem.W.Frag} {F H : Hp} {M : Mh} {v u : V} {d k : D} {o : Option D} (w : Wl K F M H) (r : Rep K F v d) (rk : Rep K F u k) (h : dGet M d k = some o) :
    ∃ a o', v = .ref a ∧ DGet H a u o' ∧ ((o' = none ∧ o = none) ∨ ∃ y z, o' = some y ∧ o = some z ∧ Rep K F y z) := by
  have hK : ∀ {a ws kvs kk}, H a = some (.dK ws) → ws.map (·.1) = kvs.map (·.1) → Reps K F (ws.map (·.2)) (kvs.map (·.2)) → kOf k = some kk → ∃ o', DGet H a u o' ∧ ((o' = none ∧ valP kvs kk = none) ∨ ∃ y z, o' = some y ∧ valP kvs kk = some z ∧ Rep K F y z) := fun {a ws kvs kk} ha e r ek => by
    rw [kOf_at rk ek]
    refine ⟨_, .k ha, ?_⟩
    rcases val_rep (k := kk) e r with z | ⟨y, z, z1, z2, z3⟩
    · exact .inl z
    · exact .inr ⟨y, z, z1, z2, z3⟩
  have hT : ∀ {a ws kvs kk ds}, H a = some (.dT ws) → ws.map (·.1) = kvs.map (·.1) → Reps K F (ws.map (·.2)) (kvs.map (·.2)) → k = .tup ds → ksOf ds = some kk → ∃ o', DGet H a u o' ∧ ((o' = none ∧ valP kvs kk = none) ∨ ∃ y z, o' = some y ∧ valP kvs kk = some z ∧ Rep K F y z) := fun {a ws kvs kk ds} ha e r e2 ek => by
    subst e2
    cases rk with | tup eb rb => ?_
    have e3 := ksOf_at rb ek
    subst e3
    refine ⟨_, .t ha (w.sub _ _ eb), ?_⟩
    rcases val_rep (k := kk) e r with z | ⟨y, z, z1, z2, z3⟩
    · exact .inl z
    · exact .inr ⟨y, z, z1, z2, z3⟩
  unfold dGet at h
  split at h
  · cases r with | dK e ek r => ?_
    split at h
    · cases h
      rename_i kk hk
      obtain ⟨o', z1, z2⟩ := hK (w.sub _ _ e) ek r hk
      exact ⟨_, o', rfl, z1, z2⟩
    · cases h
  · cases r with | dT e ek r => ?_
    split at h
    · split at h
      · cases h
        rename_i kk hk
        obtain ⟨o', z1, z2⟩ := hT (w.sub _ _ e) ek r rfl hk
        exact ⟨_, o', rfl, z1, z2⟩
      · cases h
    · cases h
  · cases r
    split at h
    · rename_i kvs em
      obtain ⟨hf, o2, ho, r⟩ := w.mu _ _ em
      cases o2 <;> first | exact r.elim | skip
      split at h
      · cases h
        rename_i kk hk
        obtain ⟨o', z1, z2⟩ := hK ho r.1 r.2 hk
        exact ⟨_, o', rfl, z1, z2⟩
      · cases h
    · rename_i kvs em
      obtain ⟨hf, o2, ho, r⟩ := w.mu _ _ em
      cases o2 <;> first | exact r.elim | skip
      split at h
      · split at h
        · cases h
          rename_i kk hk
          obtain ⟨o', z1, z2⟩ := hT ho r.1 r.2 rfl hk
          exact ⟨_, o', rfl, z1, z2⟩
        · cases h
      · cases h
    · cases h
  · cases h
def dInD (neg : Bool) (dk dd : DE) : DE := fun δ M q => dk δ M fun y M1 => dd δ M1 fun x M2 => match dGet M2 x y with
  | some o => q (.bl (if neg then !o.isSome else o.isSome)) M2
  | none => False
def dGetD (dd dk : DE) : DE := fun δ M q => dd δ M fun x M1 => dk δ M1 fun y M2 => match dGet M2 x y with
  | some (some d) => q d M2
  | _ => False
/-- d[k] = v -/
def dPutD (dv dd dk : DE) : DS := fun DD δ M => dv δ M fun v M1 => dd δ M1 fun x M2 => dk δ M2 fun y M3 => match x with
  | .adr a => match M3 a with
    | some (.dK kvs) => match kOf y with
      | some k => kvs.length < sizeLine ∧ DD.nx δ (mset M3 a (.dK (putP kvs k v)))
      | none => False
    | some (.dT kvs) => match y with
      | .tup ds => match ksOf ds with
        | some k => kvs.length < sizeLine ∧ DD.nx δ (mset M3 a (.dT (putP kvs k v)))
        | none => False
      | _ => False
    | _ => False
  | _ => False
section
variable {X : Cx} {C : Cd} {e k o : Expr} {da dk dd dv : DE} {pos pos' : Pos} {n : Nat}
theorem sd_inD {tk td : TE} (hk : SdE C tk dk) (hd : SdE C td dd) : SdE C (tDIn tk td) (dInD false dk dd) ∧ SdE C (tDNotIn tk td) (dInD true dk dd) := by
  refine ⟨fun δ σ F M H q Q a h p => ?_, fun δ σ F M H q Q a h p => ?_⟩
  all_goals
    refine hk δ σ F M H _ _ a h fun y u F1 M1 H1 w1 g1 r1 h1 => ?_
    refine hd δ σ F1 M1 H1 _ _ (a.step w1 g1) h1 fun x v F2 M2 H2 w2 g2 r2 h2 => ?_
    split at h2
    · rename_i ov e2
      obtain ⟨b, o', rfl, z1, z2⟩ := dGet_at w2 r2 (r1.mono g2.fr) e2
      refine ⟨b, o', rfl, z1, ?_⟩
      have es : o'.isSome = ov.isSome := by
        rcases z2 with ⟨z2, z3⟩ | ⟨y, z, z2, z3, _⟩ <;> rw [z2, z3] <;> rfl
      rw [es]
      exact w2.okE (p.from (g1.trans g2)) (.bl _) h2
    · exact h2.elim
theorem pd_inD (hr : Room n X.A) (hk : PD X C k dk) (hd : PD X C o dd) (hm : behindInMarks .In o = false := by rfl) : PD X C (.Compare k [.In] [o] pos) (dInD false dk dd) := by
  obtain ⟨tk, h1, h2⟩ := hk.ex
  obtain ⟨td, h3, h4⟩ := hd.ex
  exact ⟨_, pe_cmp (pc_din (hu_of hr) h1 h3) hm, (sd_inD h2 h4).1⟩
theorem pd_notInD (hr : Room n X.A) (hk : PD X C k dk) (hd : PD X C o dd) (hm : behindInMarks .NotIn o = false := by rfl) : PD X C (.Compare k [.NotIn] [o] pos) (dInD true dk dd) := by
  obtain ⟨tk, h1, h2⟩ := hk.ex
  obtain ⟨td, h3, h4⟩ := hd.ex
  exact ⟨_, pe_cmp (pc_dnotin (hu_of hr) h1 h3) hm, (sd_inD h2 h4).2⟩
theorem sd_B {t : TE} {d : DE} (h : SdE C t d) : SdT C (tB t) (dB d) := sd_test h
theorem pdt_inD (hr : Room n X.A) (hk : PD X C k dk) (hd : PD X C o dd) (hm : behindInMarks .In o = false := by rfl) : PDT X C (.Compare k [.In] [o] pos) (dB (dInD false dk dd)) := by
  obtain ⟨tk, h1, h2⟩ := hk.ex
  obtain ⟨td, h3, h4⟩ := hd.ex
  exact ⟨_, pt_cmp (pc_din (hu_of hr) h1 h3) hm, sd_B (sd_inD h2 h4).1⟩
theorem pdt_notInD (hr : Room n X.A) (hk : PD X C k dk) (hd : PD X C o dd) (hm : behindInMarks .NotIn o = false := by rfl) : PDT X C (.Compare k [.NotIn] [o] pos) (dB (dInD true dk dd)) := by
  obtain ⟨tk, h1, h2⟩ := hk.ex
  obtain ⟨td, h3, h4⟩ := hd.ex
  exact ⟨_, pt_cmp (pc_dnotin (hu_of hr) h1 h3) hm, sd_B (sd_inD h2 h4).2⟩
theorem pd_dget (hr : Room n X.A) (hd : PD X C o dd) (hk : PD X C k dk) (hs : NoSl k := by exact fun _ _ => rfl) : PD X C (.Subscript o k pos) (dGetD dd dk) := by
  obtain ⟨tk, h1, h2⟩ := hk.ex
  obtain ⟨td, h3, h4⟩ := hd.ex
  refine ⟨_, pe_dget (hu_of hr) h3 h1 hs, fun δ σ F M H q Q a h p => ?_⟩
  refine h4 δ σ F M H _ _ a h fun x v F1 M1 H1 w1 g1 r1 h1 => ?_
  refine h2 δ σ F1 M1 H1 _ _ (a.step w1 g1) h1 fun y u F2 M2 H2 w2 g2 r2 h2 => ?_
  split at h2
  · rename_i d e2
    obtain ⟨b, o', rfl, z1, z2⟩ := dGet_at w2 (r1.mono g2.fr) r2 e2
    rcases z2 with ⟨_, z3⟩ | ⟨y', z, rfl, z3, z4⟩
    · cases z3
    · cases z3
      exact ⟨b, y', rfl, z1, w2.okE (p.from (g1.trans g2)) z4 h2⟩
  · exact h2.elim
theorem pd_dput {v : Expr} (hr : Room n X.A) (hv : PD X C v dv) (hd : PD X C o dd) (hk : PD X C k dk) (hs : swapsWith v (some (.Subscript o k pos')) pos.line X.env = pure false := by rfl) : PDS X C (.Assign [.Subscript o k pos'] v pos) (dPutD dv dd dk) := by
  obtain ⟨tv, h5, h6⟩ := hv.ex
  obtain ⟨tk, k1, k2⟩ := hk.ex
  obtain ⟨td, h3, h4⟩ := hd.ex
  refine ⟨_, ps_dput (hu_of hr) h3 k1 h5 hs, fun δ σ F M H DD DV a h p => ?_⟩
  refine h6 δ σ F M H _ _ a h fun x v F1 M1 H1 w1 g1 r1 h1 => ?_
  refine h4 δ σ F1 M1 H1 _ _ (a.step w1 g1) h1 fun dd v2 F2 M2 H2 w2 g2 r2 h2 => ?_
  refine k2 δ σ F2 M2 H2 _ _ ((a.step w1 g1).step w2 g2) h2 fun y u F3 M3 H3 w3 g3 r3 h3 => ?_
  split at h3
  · cases r2
    have rx := r1.mono (g2.fr.trans g3.fr)
    split at h3
    · rename_i kvs em
      split at h3
      · rename_i kk hk
        obtain ⟨hf, o2, ho, r⟩ := w3.mu _ _ em
        cases o2 <;> first | exact r.elim | skip
        rename_i ws
        have hlen := congrArg List.length r.1
        rw [List.length_map, List.length_map] at hlen
        rw [kOf_at r3 hk]
        obtain ⟨z1, z2⟩ := putP_rep (k := kk) rx r.1 r.2
        refine ⟨_, _, rfl, .k ho (by rw [hlen]; exact h3.1), ?_⟩
        exact p.nx _ _ _ _ _ (w3.set em (show RepO C.K F3 (.dK (putP kvs kk x)) (.dK (putK ws kk v)) from ⟨z1, z2⟩)) (g1.trans (g2.trans (g3.trans (Gr.set w3 em)))) (a.e.mono (g1.fr.trans (g2.fr.trans g3.fr))) h3.2
      · exact h3.elim
    · rename_i kvs em
      split at h3
      · split at h3
        · rename_i kk hk
          obtain ⟨hf, o2, ho, r⟩ := w3.mu _ _ em
          cases o2 <;> first | exact r.elim | skip
          rename_i ws
          have hlen := congrArg List.length r.1
          rw [List.length_map, List.length_map] at hlen
          cases r3 with | tup eb rb => ?_
          have e3 := ksOf_at rb hk
          subst e3
          obtain ⟨z1, z2⟩ := putP_rep (k := kk) rx r.1 r.2
          refine ⟨_, _, rfl, .t ho (w3.sub _ _ eb) (by rw [hlen]; exact h3.1), ?_⟩
          exact p.nx _ _ _ _ _ (w3.set em (show RepO C.K F3 (.dT (putP kvs kk x)) (.dT (putK ws kk v)) from ⟨z1, z2⟩)) (g1.trans (g2.trans (g3.trans (Gr.set w3 em)))) (a.e.mono (g1.fr.trans (g2.fr.trans g3.fr))) h3.2
        · exact h3.elim
      · exact h3.elim
    · exact h3.elim
  · exact h3.elim
end
end DL

set_option Elab.async false
set_option linter.all false
set_option maxRecDepth 100000
set_option maxHeartbeats 4000000
/-! sorted(set(xs)) of a list of ints. -/
namespace DL
open PySem PySem.Spec PyProof.Rows L2
section
variable {P : Program} {w : World} {A : Around} {E : Value → Shared → Prop} {s : Shared}
/-- the set as it is made, before it is filled -/
abbrev bare (w : World) : Obj := { cls := .type "set", dict := none, data := .set #[] 0 (.fresh 0 0 (!w.params.followText "set-order")) }
theorem fill_from {S l : Addr} {xs : Array Value} {ns : List Int} {Z : PySem.Fin → Shared → Prop} (zh : A.handled = none) (zS : s.heap.get? S = some (bare w)) (zl : s.heap.IsList l xs) (zi : IntsAre xs.toList ns) (zb : ns.length + 1 < scanBound)
    (k : ∀ h' tk c, SetR w h' S (fun j => decide (j ∈ ns)) c → c ≤ ns.length → (∀ b o, b ≠ S → s.heap.get? b = some o → h'.get? b = some o) → Z (.done (.ret .none)) { s with heap := h', toks := tk }) :
    wpAny (model P w) A.in1 (Builtin.«set.__init__» ⟨[.ref S, .ref l], []⟩) Z E s := by
  obtain ⟨⟨oc, od, ot, os⟩, ho, e1, n, e2⟩ := id zl
  cases e1
  cases e2
  have t1 := F.sub_list_set
  have t2 := F.sub_list_frozenset
  have t3 : (Value.type "list" == Value.type "dict") = false := rfl
  have ne : l ≠ S := fun q => by rw [q, zS] at ho; exact absurd (show Value.type "set" = Value.type "list" from congrArg Obj.cls (Option.some.inj ho)) (by decide)
  have l1 : l < s.heap.objs.size := Heap.lt_size ho
  have l2 : S < s.heap.objs.size := Heap.lt_size zS
  unfold Builtin.«set.__init__» noKeywords Builtin.Frozenset.updateFrom
  generalize hp : pyIter = p
  wp_walk
  subst hp
  refine wpAny_pyIter_list zl (wpAny_bind (wpAny_runValue ?_))
  have sz : xs.size = ns.length := by have q := IntsAre.length zi; rwa [Array.length_toList] at q
  have at_ : ∀ (i : Nat) (v : Value), xs[i]? = some v → ∃ k t, ns[i]? = some k ∧ v = .int k t := fun i v hv => by
    obtain ⟨t, e⟩ := IntsAre.int_at zi i v (by rw [Array.getElem?_toList]; exact hv)
    have hi : i < ns.length := sz ▸ (Array.getElem?_eq_some_iff.mp hv).1
    exact ⟨ns[i], t, List.getElem?_eq_getElem hi, by rw [e, List.getD_eq_getElem?_getD, List.getElem?_eq_getElem hi]; rfl⟩
  refine set_update_ints ((Walks.list (by simp [zh]) s.heap.objs.size l (Nat.ne_of_lt l1) xs).toS) S (by simp; exact ⟨Nat.ne_of_lt l2, ne.symm⟩) ns sz zb at_ xs.size 0 _ (Nat.sub_zero _) (Nat.zero_le _)
    ⟨⟨_, Heap.get?_push_size _ rfl, rfl, rfl⟩, zl.push _⟩ ⟨0, Nat.le_refl 0, setR_new_at (Heap.get?_push_of_some _ zS)⟩ fun s1 c m hc R => ?_
  obtain ⟨h1, g1, d1, tk1, os1⟩ := s1
  obtain rfl : g1 = s.gens := m.gens
  obtain rfl : d1 = s.drawn := m.drawn
  obtain rfl : os1 = s.os := m.os
  refine wpAny_pure (wpAny_pure (k h1 tk1 c R (sz ▸ hc) fun b o nb e => m.heap b o ?_ (Heap.get?_push_of_some _ e)))
  simp only [List.mem_cons, List.not_mem_nil, or_false, not_or]
  exact ⟨nb, Nat.ne_of_lt (Heap.lt_size e)⟩
/-- set(xs), xs a list of ints -/
theorem set_listI {l : Addr} {xs : Array Value} {ns : List Int} {Q : Value → Shared → Prop} (zh : A.handled = none) (zl : s.heap.IsList l xs) (zi : IntsAre xs.toList ns) (zb : ns.length + 1 < scanBound)
    (k : ∀ h' tk c, SetR w h' s.heap.objs.size (fun j => decide (j ∈ ns)) c → c ≤ ns.length → (∀ b o, s.heap.get? b = some o → h'.get? b = some o) → Q (.ref s.heap.objs.size) { s with heap := h', toks := tk }) :
    wpAny (model P w) A (call (.type "set") [.ref l]) Q E s := by
  obtain ⟨C1, C2, ⟨m, tl, C3⟩, C4, C5, C6, C7⟩ := F.called_set
  have C8 := F.typeCall_set_1 (.ref l)
  refine wpAny_call (codeAny_of_tree (show wpAny _ _ (callAny (.type "set") _) _ _ _ from wpAny_pure ⟨Code.quiet_builtin _ (by decide +kernel), codeAny_builtin F.entry_type_call ?_⟩))
  rw [Around.under_plain (weight_type_call_type "set" [Value.ref l] []) rfl]
  repeat any_goals (first | assumption | wp_step)
  refine codeAny_mono (code_set_led1 (E := E) (.ref l) (Q₁ := fun v s1 => v = .ref s.heap.objs.size ∧ s1 = { s with heap := s.heap.push (bare w) }) ⟨rfl, rfl⟩) ?_
  rintro (er | fl) s1 hr
  · exact hr
  cases fl <;> first | exact hr.elim | skip
  obtain ⟨rfl, rfl⟩ := hr
  have nS : (s.heap.push (bare w)).get? s.heap.objs.size = some (bare w) := Heap.get?_push_size _ rfl
  have nT : Shared.TypeIs { s with heap := s.heap.push (bare w) } (.ref s.heap.objs.size) "set" := ⟨_, nS, rfl⟩
  have D1 := C7.lookup
  have D2 := C7.bind (.ref s.heap.objs.size)
  repeat any_goals (first | assumption | wp_step)
  refine codeAny_mono (codeAny_call_builtin (R := wants (fun r s₂ => r = .none ∧ Q (.ref s.heap.objs.size) s₂) E) C7.plain F.entry_set_init (check_set_init_1 nT
    (fill_from (A := A.in1) (by simp [zh]) nS (zl.push _) zi zb fun h' tk c R hc hk => ⟨rfl, k h' tk c R hc fun b o e => hk b o (Nat.ne_of_lt (Heap.lt_size e)) (Heap.get?_push_of_some _ e)⟩))) ?_
  rintro (er | fl) s2 hr
  · exact hr
  cases fl <;> first | exact hr.elim | skip
  obtain ⟨rfl, q⟩ := hr
  repeat any_goals (first | assumption | wp_step)
end
def rSetI (K : PySem.W.Frag) (w : World) : List V → Hp → VK → Prop := fun xs H Q => ∃ (a : Addr) (ns : List Int), xs = [.ref a] ∧ SqL K H a (ns.map V.int) ∧ ns.length < 64 ∧
  ∀ p c, H p = none → c ≤ ns.length → Q (.ref p) (upd H p (SetO w p (fun j => decide (j ∈ ns)) c))
theorem cr_setI {X : Cx} (hc : X.calm = true) : CallR X (.type "set") (rSetI X.K X.w) := by
  intro pins s σ H vs us Q I r h
  obtain ⟨a, ns, rfl, ha, hl, q⟩ := h
  rw [Vals.ref1 r]
  obtain ⟨its, rv, pl, hz⟩ := I.list ha
  refine set_listI (I.ok.hd hc) pl.isList (by simpa using RZ.intsAre_vals rv) (by unfold scanBound; omega) fun h' tk c R c1 hk => ?_
  have J : Inv X pins σ (upd H s.heap.objs.size (SetO X.w s.heap.objs.size (fun j => decide (j ∈ ns)) c)) { s with heap := h', toks := tk } :=
    I.laid (a := s.heap.objs.size) hk (Nat.le_refl _) (setO_new R)
  exact ⟨.ref s.heap.objs.size, _, J, rfl, q _ c (I.hok.fresh (Nat.le_refl _)) c1⟩
/-- sorted(set(e)) -/
def dSortSet (da : DE) : DE := fun δ M q => da δ M fun x M1 => match items M1 x with
  | some ds => ∃ ns : List Int, ds = ns.map D.int ∧ ns.length < 64 ∧ ∀ out : List Int, out.Pairwise (· < ·) → (∀ k, k ∈ out ↔ k ∈ ns) → out.length ≤ ns.length → q (.lst (out.map D.int)) M1
  | none => False
theorem Wl.beside {K : PySem.W.Frag} {F H : Hp} {M : Mh} {p : Addr} {o : HO} (w : Wl K F M H) (h : H p = none) : Wl K F M (upd H p o) := by
  refine ⟨fun a u e => same_new h a u (w.sub a u e), fun a u e => ?_⟩
  obtain ⟨f, v, hv, r⟩ := w.mu a u e
  exact ⟨f, v, same_new h a v hv, r⟩
theorem Gr.beside {F H : Hp} {M : Mh} {p : Addr} {o : HO} (h : H p = none) : Gr F M H F M (upd H p o) :=
  ⟨Same.refl F, fun a u e f m => ⟨same_new h a u e, f, m⟩, fun a e => by
    by_cases q : a = p
    · subst q; exact h
    · rw [upd_ne q] at e; exact e⟩
theorem pd_sortSet {X : Cx} {C : Cd} {e : Expr} {de : DE} {p p2 pos pos2 : Pos} (hK : C.K = X.K) (hc : X.calm = true) (hg : Gl X "sorted") (hm : X.mg "sorted" = none) (hg2 : Gl X "set") (hm2 : X.mg "set" = none) (he : PD X C e de)
    (s1 : starEach [e] X.env = [(false, eval e X.env)] := by rfl) (s2 : starEach [.Call (.Name "set" p2) [e] [] pos2] X.env = [(false, eval (.Call (.Name "set" p2) [e] [] pos2) X.env)] := by rfl)
    (s3 : (backTo pos (starEach [] X.env)).any (·.1) = false := by rfl) (s4 : (backTo pos2 (starEach [] X.env)).any (·.1) = false := by rfl) :
    PD X C (.Call (.Name "sorted" p) [.Call (.Name "set" p2) [e] [] pos2] [] pos) (dSortSet de) := by
  obtain ⟨t, h1, h2⟩ := he.ex
  refine ⟨_, pe_callB (cr_sortedSet hc) hg hm (by decide +kernel) (pa_cons (pe_callTy (cr_setI hc) hg2 hm2 PyProof.Rows.boot_set (pa_cons h1 pa_nil s1) (by decide) (by decide) s1 s4) pa_nil s2) (by decide) (by decide) s2 s3, fun δ σ F M H q Q a h pq => ?_⟩
  refine h2 δ σ F M H _ _ a h fun x v F1 M1 H1 w1 g1 r1 h1 => ?_
  split at h1
  · rename_i ds e1
    obtain ⟨ns, rfl, hl, h1⟩ := h1
    obtain ⟨l, xs, rfl, hq, rr⟩ := items_at w1 r1 e1
    rw [rr.ints] at hq
    refine ⟨l, ns, rfl, hK ▸ .of hq, hl, fun y c hy hc1 => ?_⟩
    have w2 := w1.beside (o := SetO X.w y (fun j => decide (j ∈ ns)) c) hy
    have g2 : Gr F M H F1 M1 (upd H1 y (SetO X.w y (fun j => decide (j ∈ ns)) c)) := g1.trans (Gr.beside hy)
    refine ⟨y, _, c, rfl, upd_same, Nat.lt_of_le_of_lt hc1 hl, fun out z a1 a2 a3 hz => ?_⟩
    exact w2.newE (pq.from g2) hz (rep_lst (w2.freeF hz) (Reps.of_ints out)) (h1 out a1 (fun k => by rw [a2 k]; simp) (a3 ▸ hc1))
  · exact h1.elim
end DL

set_option Elab.async false
set_option linter.all false
set_option maxRecDepth 100000
set_option maxHeartbeats 1000000
/-! sum of a tuple, {k: v} with a tuple for its key, what a def need not keep. -/
namespace DL
open PySem L2 PyProof.Rows
open PySem.Spec PyProof.Rows in
theorem sum_tupI {P : Program} {w : World} {A : Around} {E : Value → Shared → Prop} {s : Shared} {l : Addr} {xs : Array Value} {ns : List Int} {Q : Value → Shared → Prop} (zh : A.handled = none) (zl : s.heap.IsTuple l xs) (zi : IntsAre xs.toList ns)
    (k : ∀ h' tk t', (∀ b o, s.heap.get? b = some o → h'.get? b = some o) → Q (.int ns.sum t') { s with heap := h', toks := tk }) :
    wpAny (model P w) A (call (.builtin "sum") [.ref l]) Q E s := by
  obtain ⟨o, ho, e1, n, e2⟩ := id zl
  have l1 : l < s.heap.objs.size := Heap.lt_size ho
  obtain ⟨ys, e⟩ := zi.allInts.items
  have hn : numsOf (intItems ys).toList = ns := by rw [← e]; exact zi.numsOf
  rw [nums_intItems] at hn
  have ex : xs = intItems ys := by rw [← e]
  rw [ex] at zl
  refine call_sum_walkG (wpAny_pyIter_tuple zl ⟨_, _, _, _, _, _, numAt ys, rfl, Walks.tuple (A := A.in1) (by simp [zh]) s.heap.objs.size l (Nat.ne_of_lt l1) (intItems ys), ⟨⟨_, Heap.get?_push_size _ rfl, rfl, rfl⟩, zl.push _⟩, fun b hb => ?_, (fun _ _ => intItems_at), fun h' tk t' hk => ?_⟩)
  · simp only [List.mem_cons, List.not_mem_nil, or_false] at hb
    rcases hb with rfl | rfl
    · simp [Heap.size_push]
    · rw [Heap.size_push]; exact Nat.lt_succ_of_lt l1
  · have z := k h' tk t' fun b o e => hk b o (by simp; exact Nat.ne_of_lt (Heap.lt_size e)) (Heap.get?_push_of_some _ e)
    rw [show (intItems ys).size = ys.size by simp [intItems], preSum_eq, List.take_of_length_le (by simp), hn]
    exact z
def rSumT (K : PySem.W.Frag) : List V → Hp → VK → Prop := fun vs H Q => ∃ (a : Addr) (ns : List Int), vs = [V.ref a] ∧ SqT K H a (ns.map V.int) ∧ Q (.int ns.sum) H
theorem cr_sumT {X : Cx} (hc : X.calm = true) : CallR X (.builtin "sum") (rSumT X.K) := by
  rintro pins s σ H vs us Q I r ⟨a, ns, rfl, hs, q⟩
  obtain ⟨its, rv, hl, _⟩ := I.tuple hs
  rw [Vals.ref1 r]
  exact sum_tupI (I.ok.hd hc) hl (by simpa using RZ.intsAre_vals rv) fun h' tk t' hk => ⟨.int _, H, I.kept hk, ⟨_, rfl⟩, q⟩
/-- sum of a list or of a tuple -/
def kSumP : DRC := fun xs M q => match xs with
  | [x] => match seqItems M x with
    | some ds => ∃ ns : List Int, ds = ns.map D.int ∧ q (.int ns.sum) M
    | none => False
  | _ => False
theorem sc_sumP {C : Cd} : SdC C (fun xs H Q => rSum C.K xs H Q ∨ rSumT C.K xs H Q) kSumP := fun xs ds F M H q Q w r h p => by
  unfold kSumP at h
  split at h
  · obtain ⟨v, rfl, rv⟩ := Reps.one r
    split at h
    · rename_i ds e
      obtain ⟨ns, rfl, h⟩ := h
      obtain ⟨a, ys, rfl, hq, rr⟩ := seqItems_at w rv e
      rw [rr.ints] at hq
      rcases hq with hq | hq
      · exact .inl ⟨a, ns, rfl, hq, w.okE p (.int _) h⟩
      · exact .inr ⟨a, ns, rfl, hq, w.okE p (.int _) h⟩
    · exact h.elim
  · exact h.elim
theorem cr_sumP {X : Cx} {C : Cd} (hK : C.K = X.K) (hc : X.calm = true) : CallR X (.builtin "sum") (fun xs H Q => rSum C.K xs H Q ∨ rSumT C.K xs H Q) := hK ▸ (cr_sum hc).or (cr_sumT hc)

/-! ### {k: v}, k a tuple -/
def tDisp1T (tk tv : TE) : TE := fun σ H Q => ∀ p, H p = none → tk σ (upd H p (.dT [])) fun x H1 => tv σ H1 fun y H2 => ∃ (b : Addr) (ks : List Key), x = .ref b ∧ H2 p = some (.dT []) ∧ H2 b = some (.tup (ks.map kV)) ∧ Q (.ref p) (upd H2 p (.dT [(ks, y)]))
theorem pe_disp1T {X : Cx} {k v : Expr} {tk tv : TE} {pos : Pos} {n : Nat} (hr : Room n X.A) (hk : PE X k tk) (hv : PE X v tv) : PE X (.Dict [some k] [v] pos) (tDisp1T tk tv) := by
  refine ⟨fun pins s σ H Q I q => ?_⟩
  rw [arm_eval_Dict, zip_pairTrees [some k] [v] X.env pos rfl rfl, dictDisplay_pairs _ (by simp [pairTrees]) (by simp [pairTrees])]
  have hn := I.hok.fresh (Nat.le_refl s.heap.objs.size)
  have I1 := I.laid (a := s.heap.objs.size) (o := .dT []) (h' := s.heap.push { cls := .type "dict", data := .dict #[] }) (t' := s.toks) (fun _ _ q => Heap.get?_push_of_some _ q) (Nat.le_refl _) (dt_empty s.heap I.big)
  refine wpAny_bind (wpAny_standAt (wpAny_bind (wpAny_subDictH (knd := tupleKind (mixKind X.prog X.w)) (Q := fun d s' => wpAny (model X.prog X.w) X.A (pure (Value.ref d)) _ X.xe s') (Nat.lt_of_succ_lt (hu_of hr)) (by simp [pairTrees]) ?_)))
  refine pairTrees_cons_walk (thn (hk.run pins _ σ _ _ I1 (q _ hn)) fun u s1 ⟨x, H1, I2, rx, q1⟩ => thn (hv.run pins s1 σ H1 _ I2 q1) fun w2 s2 ⟨y, H2, I3, ry, b, ks, ex, ep, eb, q2⟩ => pairTrees_nil_walk ?_)
  subst ex
  obtain rfl : u = Value.ref b := rx
  obtain ⟨_, hd, xs, rel, dd⟩ := dt_of I3.hok ep
  cases rel
  refine ⟨[(ks, b, w2)], ⟨rfl, rfl, key_of I3.hok eb, trivial⟩, dd, fun h' tk dd' hs => wpAny_pure ⟨.ref s.heap.objs.size, upd H2 s.heap.objs.size (.dT [(ks, y)]), ?_, rfl, q2⟩⟩
  obtain ⟨o, es, ep', ho, h2, h3, h4, _, h5⟩ := dd'
  refine d_write I3 (by rw [ep]; exact True.intro) hs ⟨o, ho⟩ ⟨(show 1 ≤ sizeLine by decide), hd, [(ks, b, w2)], .cons ⟨rfl, ?_, ry⟩ .nil, o, es, ep', ho, h2, h3, h4, h5⟩
  rw [upd_ne (ne_of eb ep (fun z => nomatch z))]
  exact eb
def dDisp1T (dk dv : DE) : DE := fun δ M q => dk δ M fun x M1 => dv δ M1 fun y M2 => match x with
  | .tup ds => match ksOf ds with
    | some ks => ∀ p, M2 p = none → q (.adr p) (mset M2 p (.dT [(ks, y)]))
    | none => False
  | _ => False
theorem pd_disp1T {X : Cx} {C : Cd} {k v : Expr} {dk dv : DE} {pos : Pos} {n : Nat} (hr : Room n X.A) (hk : PD X C k dk) (hv : PD X C v dv) : PD X C (.Dict [some k] [v] pos) (dDisp1T dk dv) := by
  obtain ⟨tk, h1, h2⟩ := hk.ex
  obtain ⟨tv, h3, h4⟩ := hv.ex
  refine ⟨_, pe_disp1T hr h1 h3, fun δ σ F M H q Q a h p l hl => ?_⟩
  have w0 := a.w.beside (o := .dT []) hl
  have g0 : Gr F M H F M (upd H l (.dT [])) := Gr.beside hl
  refine h2 δ σ F M (upd H l (.dT [])) _ _ (a.step w0 g0) h fun x v F1 M1 H1 w1 g1 r1 h1 => ?_
  refine h4 δ σ F1 M1 H1 _ _ ((a.step w0 g0).step w1 g1) h1 fun y u F2 M2 H2 w2 g2 r2 h2 => ?_
  have r1 := r1.mono g2.fr
  split at h2
  · cases r1 with | tup e1 rr => ?_
    split at h2
    · rename_i ks ek
      have e3 := ksOf_at rr ek
      subst e3
      obtain ⟨z1, z2, z3⟩ := (g1.trans g2).fz l _ upd_same (a.w.freeF hl) (a.w.freeM hl)
      refine ⟨_, ks, rfl, z1, w2.sub _ _ e1, ?_⟩
      refine p _ _ F2 (mset M2 l (.dT [(ks, y)])) _ ⟨fun b u e => ?_, fun b u e => ?_⟩ ⟨g1.fr.trans g2.fr, fun b u hb f m => ?_, fun b e => ?_⟩ (.adr l) (h2 l z3)
      · rw [upd_ne (fun q => by rw [q, z2] at e; cases e)]; exact w2.sub b u e
      · by_cases q : b = l
        · subst q
          rw [mset_same] at e
          cases e
          exact ⟨z2, _, upd_same, rfl, .cons r2 .nil⟩
        · rw [mset_ne q] at e
          obtain ⟨f, o, ho, r⟩ := w2.mu b u e
          exact ⟨f, o, by rw [upd_ne q]; exact ho, r⟩
      · have q : b ≠ l := ne_of_none hb hl
        obtain ⟨y1, y2, y3⟩ := (g0.trans (g1.trans g2)).fz b u hb f m
        exact ⟨by rw [upd_ne q]; exact y1, y2, by rw [mset_ne q]; exact y3⟩
      · by_cases q : b = l
        · subst q; exact hl
        · rw [upd_ne q] at e
          exact (g0.trans (g1.trans g2)).dm b e
    · exact h2.elim
  · exact h2.elim

/-! ### what a def need not keep -/
def MSub (M' M : Mh) : Prop := ∀ a o, M' a = some o → M a = some o
theorem MSub.refl (M : Mh) : MSub M M := fun _ _ h => h
theorem MSub.trans {A B C : Mh} (h : MSub A B) (h' : MSub B C) : MSub A C := fun a o e => h' a o (h a o e)
theorem MSub.mset {M : Mh} {a : Addr} {o : MO} (h : M a = none) : MSub M (mset M a o) := fun b u e => by
  rw [mset_ne (fun z => by rw [z, h] at e; cases e)]; exact e
/-- what holds of a part of the store -/
def fg (q : QD) : QD := fun d M => ∃ M', MSub M' M ∧ q d M'
theorem fg_of {q : QD} {d : D} {M : Mh} (h : q d M) : fg q d M := ⟨M, MSub.refl M, h⟩
theorem fg_wl {K : PySem.W.Frag} {F H F' H' : Hp} {M M' : Mh} {q : QD} {Q : VK} {d : D} {v : V} (w : Wl K F' M' H') (g : Gr F M H F' M' H') (r : Rep K F' v d) (h : fg q d M')
    (k : ∀ d v F' M' H', Wl K F' M' H' → Gr F M H F' M' H' → Rep K F' v d → q d M' → Q v H') : Q v H' := by
  obtain ⟨M2, s, h⟩ := h
  refine k d v F' M2 H' (w.forget s) ⟨g.fr, fun a o h1 h2 h3 => ?_, g.dm⟩ r h
  obtain ⟨z1, z2, z3⟩ := g.fz a o h1 h2 h3
  refine ⟨z1, z2, ?_⟩
  cases e : M2 a with
  | none => rfl
  | some u => rw [s a u e] at z3; cases z3
theorem okDf {P : Program} {w : World} {K : PySem.W.Frag} {mg : Str → Option Value} {base : Heap} {x qual : Str} {st : Stmt} {f : Addr} {fd : FuncData} {N ps : List Str} {k : Nat} {df : DF} {db : DS} (G : Fun K x qual st f fd) (S : FnScope N ps (defScope st))
    (hbody : ∀ (cdv : Value) (A : Around) (outer : List Env) (s : Shared) (H : Hp) (Q : VK) (E : XK) (F0 : Hp) (M0 : Mh) (H0 : Hp), Room k (A.deeper (envOfC qual (defScope st) s.heap.objs.size f cdv)) →
      PDSs (cxOf CX0 P w K mg base N qual (defScope st) f cdv A outer s H E).nox ⟨K, F0, M0, H0, E0, noX⟩ (defBody st) db)
    (sem : ∀ ds M q xq, ds.length = ps.length → df ds M q xq → db { nx := fun _ M' => fg q .non M', rt := fg q } (ds.map some ++ List.replicate (N.length - ps.length) none) M) : FnOk P w K mg base CX0 (k + 1) f fd ps (SpD K ps.length df) := by
  refine G.ok S (fun vs H Q E h => h.len) (fun cdv A outer s H vs Q E hr h => ?_)
  obtain ⟨F, M, ds, q, xq, wl, r, l, h, hq, hx⟩ := h
  obtain ⟨t, h1, h2⟩ := (hbody cdv A outer s H Q E F M H hr).ex
  refine ⟨t, h1, h2 _ _ F M H _ _ ⟨wl, Gr.refl _ _ _, ?_⟩ (sem ds M q xq l h) ⟨fun δ σ F' M' H' w' g' e' h' => fg_wl w' g' .non h' hq, fun d v F' M' H' w' g' r' h' => fg_wl w' g' r' h' hq, fun _ _ _ _ _ _ _ _ h' => h'.elim, fun _ _ _ _ _ _ _ _ h' => h'.elim⟩⟩
  have e := Envs.start (N := N) r
  rw [l] at e
  exact e
end DL

set_option Elab.async false
set_option linter.all false
set_option maxRecDepth 100000
set_option maxHeartbeats 1000000
namespace DL
open PySem L2 PyProof.Rows
theorem map_inj {α β : Type} {f : α → β} (hf : ∀ a b, f a = f b → a = b) : ∀ {xs ys : List α}, xs.map f = ys.map f → xs = ys
  | [], [], _ => rfl
  | [], _ :: _, h => by cases h
  | _ :: _, [], h => by cases h
  | x :: xs, y :: ys, h => by
    rw [List.map_cons, List.map_cons] at h
    injection h with h1 h2
    rw [hf x y h1, map_inj hf h2]
theorem char_inj (a b : Char) (h : a.toNat = b.toNat) : a = b := by
  apply Char.ext
  exact UInt32.toNat_inj.mp h
theorem str_inj {a b : String} : Str.ofString a = Str.ofString b ↔ a = b := by
  refine ⟨fun h => ?_, fun h => by rw [h]⟩
  rw [Str.ofString_eq_toList, Str.ofString_eq_toList] at h
  injection h with h
  have h2 := congrArg Array.toList h
  have h3 : a.toList.map Char.toNat = b.toList.map Char.toNat := by simpa using h2
  exact String.toList_inj.mp (map_inj char_inj h3)
theorem str_beq {a b : String} : (Str.ofString a == Str.ofString b) = (a == b) := by
  rw [Bool.eq_iff_iff, beq_iff_eq, beq_iff_eq]
  exact str_inj
theorem str_dec {a b : String} : decide (Str.ofString a = Str.ofString b) = decide (a = b) := decide_eq_decide.mpr str_inj
theorem line_le {n : Nat} (h : Nat.ble n 100000 = true) : (n ≤ sizeLine) = True := by
  have := Nat.le_of_ble_eq_true h
  rw [sizeLine_eq]
  exact eq_true (by omega)
theorem line_lt {n : Nat} (h : Nat.ble n 100000 = true) : (n < sizeLine) = True := by
  have := Nat.le_of_ble_eq_true h
  rw [sizeLine_eq]
  exact eq_true (by omega)
theorem atI0 {α : Type} {x : α} {xs : List α} : atI (x :: xs) 0 = some x := by
  unfold atI ixN
  simp
theorem atI_cons {α : Type} {x : α} {xs : List α} {n : Nat} : atI (x :: xs) ((n + 1 : Nat) : Int) = atI xs (n : Int) := by
  unfold atI ixN
  simp only [List.length_cons]
  by_cases h : (n : Int) < xs.length
  · have h1 : (0 : Int) ≤ ((n + 1 : Nat) : Int) := by omega
    have h2 : ((n + 1 : Nat) : Int) < ((xs.length + 1 : Nat) : Int) := by omega
    rw [if_pos h1, if_pos h2, if_pos (by omega), if_pos h]
    simp
  · have h1 : (0 : Int) ≤ ((n + 1 : Nat) : Int) := by omega
    have h2 : ¬ ((n + 1 : Nat) : Int) < ((xs.length + 1 : Nat) : Int) := by omega
    rw [if_pos h1, if_neg h2, if_pos (by omega), if_neg h]
    rfl
theorem atI_nat' {α : Type} (xs : List α) (n : Nat) : atI xs (n : Int) = xs[n]? := by
  unfold atI ixN
  have h1 : (0 : Int) ≤ (n : Int) := by omega
  rw [if_pos h1]
  by_cases h : n < xs.length
  · rw [if_pos (by omega)]; simp
  · rw [if_neg (by omega), List.getElem?_eq_none (by omega)]; rfl
theorem atI_pos {α : Type} (xs : List α) {i : Int} (h : 0 ≤ i) : atI xs i = xs[i.toNat]? := by
  have e : i = ((i.toNat : Nat) : Int) := by omega
  have h2 := atI_nat' xs i.toNat
  rw [← e] at h2
  exact h2
/-- the last item -/
theorem atI_m1 {α : Type} (xs : List α) : atI xs (-1) = xs.getLast? := by
  unfold atI ixN
  rw [if_neg (by omega)]
  cases xs with
  | nil => rfl
  | cons x xs =>
    rw [if_pos (by simp only [List.length_cons]; omega)]
    show (x :: xs)[(-1 + ((x :: xs).length : Int)).toNat]? = _
    rw [List.getLast?_eq_getElem?]
    congr 1
    simp only [List.length_cons]; omega
theorem ixN_nat {n j : Nat} (h : j < n) : ixN n (j : Int) = some j := by
  unfold ixN
  rw [if_pos (by omega), if_pos (by omega)]; simp
end DL

set_option Elab.async false
set_option linter.all false
set_option maxRecDepth 100000
set_option maxHeartbeats 1000000
/-! Loops and comprehensions by invariants; the shared list of what the walk unfolds. -/
namespace DL
open PySem L2 PyProof.Rows

theorem dLstL_eq : True := trivial
def dLstL (dr : DA) : DLs := fun δ M q => dr δ M fun xs M1 => xs.length ≤ sizeLine ∧ q xs M1

/-- a loop by an invariant of place, names and store -/
theorem loop_ind {g : DG} {db : DS} {DD : DEnds} (I : Nat → DEnv → Mh → Prop) {ds : List D} {δ : DEnv} {M : Mh}
    (step : ∀ i d, ds[i]? = some d → ∀ δ M, I i δ M → ∀ K : DEnv → Mh → Prop, (∀ δ' M', I (i + 1) δ' M' → K δ' M') → g d δ M fun δ2 M2 => db { nx := K, rt := DD.rt, bk := DD.nx, ct := K } δ2 M2)
    (h0 : I 0 δ M) (post : ∀ δ M, I ds.length δ M → DD.nx δ M) : dLoop g db DD ds δ M := by
  suffices z : ∀ (es : List D) (k : Nat) (δ : DEnv) (M : Mh), k + es.length = ds.length → (∀ i d, es[i]? = some d → ds[k + i]? = some d) → I k δ M → dLoop g db DD es δ M from
    z ds 0 δ M (by omega) (fun i d e => by rw [Nat.zero_add]; exact e) h0
  intro es
  induction es with
  | nil => intro k δ M hk _ h; rw [List.length_nil, Nat.add_zero] at hk; subst hk; exact post δ M h
  | cons d es ih =>
    intro k δ M hk he h
    have e0 : ds[k]? = some d := by have := he 0 d rfl; rwa [Nat.add_zero] at this
    refine step k d e0 δ M h _ fun δ' M' h' => ih (k + 1) δ' M' (by rw [List.length_cons] at hk; omega) (fun i d e => ?_) h'
    have := he (i + 1) d (by rw [List.getElem?_cons_succ]; exact e)
    rwa [show k + (i + 1) = k + 1 + i by omega] at this
/-- a comprehension by an invariant of place, what is got and store -/
theorem comp_ind {g : DG} {dt : DT} {de : DE} {δ : DEnv} {k : List D → Mh → Prop} (I : Nat → List D → Mh → Prop) {ds acc : List D} {M : Mh}
    (step : ∀ i d, ds[i]? = some d → ∀ acc M, I i acc M → ∀ K : List D → Mh → Prop, (∀ acc' M', I (i + 1) acc' M' → K acc' M') → g d δ M fun δ2 M2 => dt δ2 M2 fun b M3 => if b = true then de δ2 M3 fun y M4 => acc.length < sizeLine ∧ K (acc ++ [y]) M4 else K acc M3)
    (h0 : I 0 acc M) (post : ∀ acc M, I ds.length acc M → k acc M) : dComp g dt de δ k ds acc M := by
  suffices z : ∀ (es : List D) (j : Nat) (acc : List D) (M : Mh), j + es.length = ds.length → (∀ i d, es[i]? = some d → ds[j + i]? = some d) → I j acc M → dComp g dt de δ k es acc M from
    z ds 0 acc M (by omega) (fun i d e => by rw [Nat.zero_add]; exact e) h0
  intro es
  induction es with
  | nil => intro j acc M hk _ h; rw [List.length_nil, Nat.add_zero] at hk; subst hk; exact post acc M h
  | cons d es ih =>
    intro j acc M hk he h
    have e0 : ds[j]? = some d := by have := he 0 d rfl; rwa [Nat.add_zero] at this
    refine step j d e0 acc M h (fun acc' M' => dComp g dt de δ k es acc' M') fun acc' M' h' => ih (j + 1) acc' M' (by rw [List.length_cons] at hk; omega) (fun i d e => ?_) h'
    have := he (i + 1) d (by rw [List.getElem?_cons_succ]; exact e)
    rwa [show j + (i + 1) = j + 1 + i by omega] at this
/-- .. that changes nothing: what is kept and made of each -/
theorem comp_pure {α : Type} {g : DG} {dt : DT} {de : DE} {δ : DEnv} {k : List D → Mh → Prop} {src : α → D} (f : α → Option D) {xs : List α} {M : Mh} (hl : xs.length ≤ 16777216)
    (step : ∀ x ∈ xs, ∀ acc : List D, acc.length < sizeLine → ∀ K : List D → Mh → Prop, K (match f x with | some y => acc ++ [y] | none => acc) M → g (src x) δ M fun δ2 M2 => dt δ2 M2 fun b M3 => if b = true then de δ2 M3 fun y M4 => acc.length < sizeLine ∧ K (acc ++ [y]) M4 else K acc M3)
    (post : k (xs.filterMap f) M) : dComp g dt de δ k (xs.map src) [] M := by
  refine comp_ind (fun i acc M' => M' = M ∧ acc = (xs.take i).filterMap f) (fun i d e acc M' h K hK => ?_) ⟨rfl, by simp⟩ fun acc M' h => ?_
  · obtain ⟨rfl, rfl⟩ := h
    rw [List.getElem?_map] at e
    cases ex : xs[i]? with
    | none => rw [ex] at e; cases e
    | some x =>
      rw [ex] at e
      cases e
      have hi := (List.getElem?_eq_some_iff.mp ex).1
      have l1 : ((xs.take i).filterMap f).length ≤ i := Nat.le_trans (List.length_filterMap_le ..) (by rw [List.length_take]; omega)
      refine step x (List.mem_of_getElem? ex) _ (by rw [sizeLine_eq]; omega) K (hK _ _ ⟨rfl, ?_⟩)
      rw [List.take_add_one, ex, List.filterMap_append]
      show _ = _ ++ List.filterMap f [x]
      cases hf : f x <;> simp [hf]
  · obtain ⟨rfl, rfl⟩ := h
    rw [List.length_map, List.take_length]
    exact post
/-- .. each gives one -/
theorem comp_map {α : Type} {g : DG} {dt : DT} {de : DE} {δ : DEnv} {k : List D → Mh → Prop} {src : α → D} (f : α → D) {xs : List α} {M : Mh} (hl : xs.length ≤ 16777216)
    (step : ∀ x ∈ xs, ∀ acc : List D, acc.length < sizeLine → ∀ K : List D → Mh → Prop, K (acc ++ [f x]) M → g (src x) δ M fun δ2 M2 => dt δ2 M2 fun b M3 => if b = true then de δ2 M3 fun y M4 => acc.length < sizeLine ∧ K (acc ++ [y]) M4 else K acc M3)
    (post : k (xs.map f) M) : dComp g dt de δ k (xs.map src) [] M := by
  refine comp_pure (fun x => some (f x)) hl (fun x hx acc ha K hK => step x hx acc ha K hK) ?_
  rw [show (fun x => some (f x)) = some ∘ f from rfl, List.filterMap_eq_map]
  exact post

/-! ### terms and standings -/
inductive Tm where
  | wish (d : Nat) (lo hi f : Int)
  | tie (d o : Nat) (lo hi f : Int)
  | stop (d : Nat) (lo hi : Int)
  | bar (d o : Nat) (lo hi : Int)
  deriving DecidableEq, Inhabited
namespace Tm
def D : Tm → D
  | wish d lo hi f => .tup [.str "wish", .int d, .int lo, .int hi, .int f]
  | tie d o lo hi f => .tup [.str "tie", .int d, .int o, .int lo, .int hi, .int f]
  | stop d lo hi => .tup [.str "stop", .int d, .int lo, .int hi]
  | bar d o lo hi => .tup [.str "bar", .int d, .int o, .int lo, .int hi]
def pull : Tm → Bool | wish .. => true | tie .. => true | _ => false
def dial : Tm → Nat | wish d .. => d | tie d .. => d | stop d .. => d | bar d .. => d
def oth : Tm → Option Nat | tie _ o .. => some o | bar _ o .. => some o | _ => none
def lo : Tm → Int | wish _ l .. => l | tie _ _ l .. => l | stop _ l _ => l | bar _ _ l _ => l
def hi : Tm → Int | wish _ _ h _ => h | tie _ _ _ h _ => h | stop _ _ h => h | bar _ _ _ h => h
def force : Tm → Int | wish _ _ _ f => f | tie _ _ _ _ f => f | _ => 0
def arg (t : Tm) (s : List Int) : Int := s.getD t.dial 0 - (match t.oth with | some o => s.getD o 0 | none => 0)
def dist (t : Tm) (x : Int) : Int := max (max (t.lo - x) (x - t.hi)) 0
/-- it names dials of a board of n -/
def inSize (t : Tm) (n : Nat) : Prop := t.dial < n ∧ ∀ o, t.oth = some o → o < n
/-- it is a term of a board of n -/
structure ok (t : Tm) (n : Nat) : Prop where
  ins : t.inSize n
  ne : ∀ o, t.oth = some o → t.dial ≠ o
  l1 : -1000000000000000000 ≤ t.lo
  h1 : t.hi ≤ 1000000000000000000
  lh : t.lo ≤ t.hi
  f : t.pull = true → 1 ≤ t.force ∧ t.force ≤ 30
end Tm
def sD (s : List Int) : D := .tup (s.map D.int)
/-- the first stop or bar that the standing leaves -/
def leftOf (ts : List Tm) (s : List Int) : Option Nat := ts.findIdx? fun t => !t.pull && decide (0 < t.dist (t.arg s))
def optD : Option Nat → D
  | some n => .int n
  | none => .non
theorem atI_ints {s : List Int} {n : Nat} (h : n < s.length) : atI (s.map D.int) (n : Int) = some (.int (s.getD n 0)) := by
  rw [atI_nat', List.getElem?_map, List.getElem?_eq_getElem h, List.getD_eq_getElem?_getD, List.getElem?_eq_getElem h]
  rfl
theorem atI_map {α : Type} {f : α → D} {xs : List α} {n : Nat} {x : α} (h : xs[n]? = some x) : atI (xs.map f) (n : Int) = some (f x) := by
  rw [atI_nat', List.getElem?_map, h]
  rfl
theorem enD_map {α : Type} (f : α → D) : ∀ (xs : List α) (k : Nat), enD k (xs.map f) = (xs.mapIdx fun i x => (i + k, x)).map fun p => D.tup [.int (p.1 : Nat), f p.2]
  | [], _ => rfl
  | x :: xs, k => by
    rw [List.map_cons, List.mapIdx_cons, List.map_cons]
    show D.tup [.int ((k : Nat) : Int), f x] :: enD (k + 1) (xs.map f) = _
    rw [enD_map f xs (k + 1), Nat.zero_add]
    congr 2
    exact congrArg (fun h => List.mapIdx h xs) (by funext i x; rw [show i + (k + 1) = i + 1 + k by omega])
theorem rgD_get' {lo : Int} {n i : Nat} {d : D} (h : (rgD lo n)[i]? = some d) : i < n ∧ d = .int (lo + (i : Nat)) := by
  have hi : i < n := by rw [← rgD_len lo n]; exact (List.getElem?_eq_some_iff.mp h).1
  rw [rgD_get hi] at h
  cases h
  exact ⟨hi, rfl⟩
theorem mset_eq {M : Mh} {a : Addr} {o : MO} (h : M a = some o) : mset M a o = M := by
  funext b; unfold mset; split
  · rename_i e; rw [e, h]
  · rfl
theorem mset_comm {M : Mh} {a b : Addr} {o u : MO} (h : a ≠ b) : mset (mset M a o) b u = mset (mset M b u) a o := by
  funext c; unfold mset; split <;> split <;> first | rfl | (rename_i e1 e2; exact absurd (e2.symm.trans e1) h)
end DL
namespace DL
open PySem L2 PyProof.Rows
theorem gI {s : List Int} {n : Nat} (h : n < s.length) : (s.map D.int)[n]? = some (.int (s.getD n 0)) := by
  rw [← atI_nat', atI_ints h]
end DL
namespace DL
open PySem L2 PyProof.Rows
theorem kit_ii : kitB "int" "int" = some true := rfl
theorem kit_ib : kitB "int" "bool" = some false := rfl
theorem kit_tt : kitB "tuple" "tuple" = some true := rfl
theorem kit_ss : kitB "str" "str" = some true := rfl
theorem kit_ll : kitB "list" "list" = some true := rfl
theorem six_nat {n d : Nat} {v : Int} (h : 0 ≤ v) : HT.sIx n d (some v) = min v.toNat n := by
  show (if v < 0 then _ else _) = _
  rw [if_neg (by omega)]
theorem cut_pp {α : Type} {xs : List α} {i j : Int} (hi : 0 ≤ i) (hj : 0 ≤ j) (h : i.toNat ≤ xs.length) (h' : j.toNat ≤ xs.length) : cutD xs (some i) (some j) = (xs.drop i.toNat).take (j.toNat - i.toNat) := by
  unfold cutD
  rw [six_nat hi, six_nat hj, Nat.min_eq_left h, Nat.min_eq_left h']
theorem cut_np {α : Type} {xs : List α} {j : Int} (hj : 0 ≤ j) : cutD xs none (some j) = xs.take j.toNat := by
  unfold cutD
  rw [six_nat hj]
  show (xs.drop 0).take (min j.toNat xs.length - 0) = _
  rw [List.drop_zero, Nat.sub_zero]
  by_cases h : j.toNat ≤ xs.length
  · rw [Nat.min_eq_left h]
  · rw [Nat.min_eq_right (by omega), List.take_of_length_le (Nat.le_refl _), List.take_of_length_le (by omega)]
theorem cut_pn {α : Type} {xs : List α} {i : Int} (hi : 0 ≤ i) : cutD xs (some i) none = xs.drop i.toNat := by
  unfold cutD
  rw [six_nat hi]
  show (xs.drop (min i.toNat xs.length)).take (xs.length - min i.toNat xs.length) = _
  by_cases h : i.toNat ≤ xs.length
  · rw [Nat.min_eq_left h, List.take_of_length_le (by rw [List.length_drop]; omega)]
  · rw [Nat.min_eq_right (by omega), List.drop_of_length_le (by omega), List.drop_of_length_le (by omega), List.take_nil]
end DL
namespace DL
open PySem L2 PyProof.Rows
theorem enD_get' {α : Type} {f : α → D} {xs : List α} {i : Nat} {d : D} (h : (enD 0 (xs.map f))[i]? = some d) : ∃ x, xs[i]? = some x ∧ d = .tup [.int (i : Nat), f x] := by
  cases e : xs[i]? with
  | none =>
    have := List.getElem?_eq_none_iff.mp e
    rw [List.getElem?_eq_none (by rw [enD_len, List.length_map]; exact this)] at h
    cases h
  | some x =>
    have e2 : (xs.map f)[i]? = some (f x) := by rw [List.getElem?_map, e]; rfl
    rw [enD_get (k := 0) e2, Nat.zero_add] at h
    cases h
    exact ⟨x, rfl, rfl⟩
theorem get_map {α : Type} {f : α → D} {xs : List α} {i : Nat} {d : D} (h : (xs.map f)[i]? = some d) : ∃ x, xs[i]? = some x ∧ d = f x := by
  rw [List.getElem?_map] at h
  cases e : xs[i]? with
  | none => rw [e] at h; cases h
  | some x => rw [e] at h; cases h; exact ⟨x, rfl, rfl⟩
theorem leftOf_none {ts : List Tm} {s : List Int} (h : ∀ t ∈ ts, (!t.pull && decide (0 < t.dist (t.arg s))) = false) : leftOf ts s = none := by
  unfold leftOf
  rw [List.findIdx?_eq_none_iff]
  exact h
theorem leftOf_some {ts : List Tm} {s : List Int} {i : Nat} {t : Tm} (h : ∀ t ∈ ts.take i, (!t.pull && decide (0 < t.dist (t.arg s))) = false) (e : ts[i]? = some t) (h' : (!t.pull && decide (0 < t.dist (t.arg s))) = true) : leftOf ts s = some i := by
  unfold leftOf
  obtain ⟨hi, et⟩ := List.getElem?_eq_some_iff.mp e
  rw [List.findIdx?_eq_some_iff_getElem]
  refine ⟨hi, by rw [et]; exact h', fun j hj => ?_⟩
  have hm : ts[j]'(by omega) ∈ ts.take i := List.mem_take_iff_getElem.mpr ⟨j, by omega, rfl⟩
  rw [h _ hm]; decide
theorem take_false {ts : List Tm} {i : Nat} {t : Tm} {p : Tm → Bool} (h : ∀ t ∈ ts.take i, p t = false) (e : ts[i]? = some t) (h' : p t = false) : ∀ t ∈ ts.take (i + 1), p t = false := by
  intro u hu
  rw [List.take_add_one, e, List.mem_append] at hu
  rcases hu with hu | hu
  · exact h u hu
  · simp only [Option.toList, List.mem_singleton] at hu
    rw [hu]; exact h'
end DL
namespace DL
open PySem L2 PyProof.Rows
theorem all_true {α : Type} {xs : List α} : (xs.map fun _ => true).all id = true := by simp
end DL
namespace DL
open PySem L2 PyProof.Rows
theorem ixN_lit {n : Nat} {i : Int} (h : 0 ≤ i) (h' : i.toNat < n) : ixN n i = some i.toNat := by
  unfold ixN
  rw [if_pos h, if_pos (by omega)]
end DL
namespace DL
open PySem L2 PyProof.Rows
def gD (g : List Nat) : D := .lst (g.map fun i : Nat => D.int i)
theorem inD_nats {g : List Nat} {i : Nat} : ((g.map fun j : Nat => D.int j).any fun y => eqDb y (.int i)) = decide (i ∈ g) := by
  induction g with
  | nil => rfl
  | cons j r ih =>
    rw [List.map_cons, List.any_cons, ih]
    show ((j : Int) == (i : Int) || decide (i ∈ r)) = _
    by_cases h : j = i
    · subst h; simp
    · have h2 : ((j : Int) == (i : Int)) = false := by rw [beq_eq_false_iff_ne]; omega
      rw [h2]
      simp only [Bool.false_or, List.mem_cons, decide_eq_decide]
      constructor
      · exact .inr
      · rintro (z | z)
        · exact absurd z.symm h
        · exact z
theorem flat_nats {g : List Nat} : ((g.map fun j : Nat => D.int j).all flatD) = true := by
  rw [List.all_map, List.all_eq_true]
  intro x _
  rfl
end DL
namespace DL
open PySem L2 PyProof.Rows
theorem eqDb_ii {a b : Int} : eqDb (.int a) (.int b) = (a == b) := rfl
theorem eqDb_ss {a b : Str} : eqDb (.str a) (.str b) = (a == b) := rfl
end DL

set_option Elab.async false
set_option linter.all false
set_option maxRecDepth 100000
set_option maxHeartbeats 1000000
namespace DL
open PySem L2 PyProof.Rows
local macro_rules | `(tactic| walk_at "d") => `(tactic| simp only [dSeq, dAsg, dRet, dRetN, dIfS, dNext, dVar, dC, dOp, dUn, dB, dTru, dAnd, dOr, dNot, dIf, dAndV, dOrV, dNotV, dNil, dCons, dTup, dLst, dLstL, dLstM, dCall, dCB, dName, dgNil, dgCons, dUnp, dPar, dPar3, dAug, dSl, dPart, dNoPart, dChain, dDrop, dFor, dSeqI, dRg1, dRg2, dEnum, dZip, dStrI, dOfL, dOfM, dLcL, dYes, dwipe, dBM, mAppend, dSub, dAugSub, dFrz, frz, dMeth, dMake, dFld, dSetFld, insOf, putD, dRevL, dSortSet, dInD, dPutD, dGet, dDisp1T, oI, oIC, oU, oSub, oMod, oDiv, oNeg, oLt, oLe, oGt, oGe, oEq, oNe, kAll, kAny, kMax2, kMin2, kSorted, oAdd, oMul, oIx, oSl, oIn, oIsN, oEqW, sEq, kLen, kAbs, kTwo, kMax3, kInt, kStr, kList, kTuple, kIsi, kInts, kBools, kSumP, kSortedD, tyName, seqItems, items, mset_same, mset_mset, mdel_mset,
  List.map, List.replicate, List.cons_append, List.nil_append, List.set, List.getElem?_cons_zero, List.getElem?_cons_succ, List.length_cons, List.length_nil, Nat.zero_add, Nat.reduceAdd, true_and, and_true, and_self, atI0, atI_pos, Int.reduceLE, Int.reduceLT, Int.natCast_nonneg, Int.toNat_natCast, Int.reduceToNat, Int.reduceNeg, Int.reduceAdd, Int.reduceSub, Int.reduceMul, atI_m1, line_le, line_lt, Nat.ble, flatD, inD, eqDb_ii, eqDb_ss, inD_nats, flat_nats, Int.zero_add, List.lookup, List.mem_cons, true_or, List.length_map, List.all_cons, List.all_nil, List.any_cons, List.any_nil, str_beq, str_dec, str_inj, all_true, String.reduceBEq, String.reduceEq, Int.reduceBEq, Bool.and_true, Bool.true_and, Bool.and_self, Bool.or_false, Bool.false_or, Bool.or_true, Bool.true_or, Bool.and_false, Bool.false_and, Bool.not_true, Bool.not_false, Bool.false_eq_true, if_true, if_false, ite_true, ite_false, reduceIte, Nat.reduceLeDiff, Nat.reduceLT, decide_true, decide_false, Int.cast_ofNat_Int, Option.some.injEq, exists_eq_left', exists_eq_left, exists_and_left, kit_ii, kit_ib, kit_tt, kit_ss, kit_ll, ixN_lit, cut_pp, cut_np, cut_pn, List.drop_succ_cons, List.drop_zero, List.take_succ_cons, List.take_zero, List.take_nil, List.getLast?_cons_cons, List.getLast?_singleton, Nat.reduceSub, Nat.sub_zero, decide_eq_true_eq, Int.reduceEq, Int.reduceNe, Nat.reduceEqDiff])
structure Zs where
  Board : Addr

def db_is_pulling (Z : Zs) : DS := (dRet (dOp (oIn false) (dOp oIx (dVar 0) (dC (.int 0))) (dTup (dCons (dC (.str "wish")) (dCons (dC (.str "tie")) dNil)))))
def df_is_pulling (Z : Zs) : DF := fun ds M q xq => ∃ t : Tm, ds = [t.D] ∧ q (.bl t.pull) M
theorem sem_is_pulling (Z : Zs) : ∀ ds M q xq, ds.length = 1 → df_is_pulling Z ds M q xq → db_is_pulling Z { nx := fun _ M' => q .non M', rt := q } (ds.map some ++ List.replicate 0 none) M := by
  rintro _ M q xq - ⟨t, rfl, h⟩
  unfold db_is_pulling
  cases t <;> simp only [Tm.D] <;> walk_at "d" <;> exact h

def db_other_of (Z : Zs) : DS := (dRet (dIf (dB (dOp (oIn false) (dOp oIx (dVar 0) (dC (.int 0))) (dTup (dCons (dC (.str "tie")) (dCons (dC (.str "bar")) dNil))))) (dOp oIx (dVar 0) (dC (.int 2))) (dC .non)))
def df_other_of (Z : Zs) : DF := fun ds M q xq => ∃ t : Tm, ds = [t.D] ∧ q (optD t.oth) M
theorem sem_other_of (Z : Zs) : ∀ ds M q xq, ds.length = 1 → df_other_of Z ds M q xq → db_other_of Z { nx := fun _ M' => q .non M', rt := q } (ds.map some ++ List.replicate 0 none) M := by
  rintro _ M q xq - ⟨t, rfl, h⟩
  unfold db_other_of
  cases t <;> simp only [Tm.D] <;> walk_at "d" <;> exact h

def db_ends_of (Z : Zs) : DS := (dSeq (dAsg (dIf (dB (dOp (oIn false) (dOp oIx (dVar 0) (dC (.int 0))) (dTup (dCons (dC (.str "tie")) (dCons (dC (.str "bar")) dNil))))) (dC (.int 3)) (dC (.int 2))) (dName 1)) (dRet (dTup (dCons (dOp oIx (dVar 0) (dVar 1)) (dCons (dOp oIx (dVar 0) (dOp oAdd (dVar 1) (dC (.int 1)))) dNil)))))
def df_ends_of (Z : Zs) : DF := fun ds M q xq => ∃ t : Tm, ds = [t.D] ∧ q (.tup [.int t.lo, .int t.hi]) M
theorem sem_ends_of (Z : Zs) : ∀ ds M q xq, ds.length = 1 → df_ends_of Z ds M q xq → db_ends_of Z { nx := fun _ M' => q .non M', rt := q } (ds.map some ++ List.replicate 1 none) M := by
  rintro _ M q xq - ⟨t, rfl, h⟩
  unfold db_ends_of
  cases t <;> simp only [Tm.D] <;> walk_at "d" <;> exact h

def db_argument (Z : Zs) : DS := (dSeq (dAsg (dCall 1 (df_other_of Z) noX (dCons (dVar 0) dNil)) (dName 2)) (dRet (dOp oSub (dOp oIx (dVar 1) (dOp oIx (dVar 0) (dC (.int 1)))) (dIf (dB (dOp (oIsN fun k => !k) (dVar 2) (dC .non))) (dOp oIx (dVar 1) (dVar 2)) (dC (.int 0))))))
def df_argument (Z : Zs) : DF := fun ds M q xq => ∃ (t : Tm) (s : List Int), ds = [t.D, sD s] ∧ t.inSize s.length ∧ q (.int (t.arg s)) M
theorem sem_argument (Z : Zs) : ∀ ds M q xq, ds.length = 2 → df_argument Z ds M q xq → db_argument Z { nx := fun _ M' => q .non M', rt := q } (ds.map some ++ List.replicate 1 none) M := by
  rintro _ M q xq - ⟨t, s, rfl, ⟨h1, h2⟩, h⟩
  unfold db_argument
  cases t with
  | wish d lo hi f => walk_at "d"; refine ⟨_, rfl, ?_⟩; simp only [Tm.D, Tm.oth, optD, sD]; walk_at "d"; rw [gI (show d < s.length from h1)]; walk_at "d"; exact h
  | stop d lo hi => walk_at "d"; refine ⟨_, rfl, ?_⟩; simp only [Tm.D, Tm.oth, optD, sD]; walk_at "d"; rw [gI (show d < s.length from h1)]; walk_at "d"; exact h
  | tie d o lo hi f => walk_at "d"; refine ⟨_, rfl, ?_⟩; simp only [Tm.D, Tm.oth, optD, sD]; walk_at "d"; rw [gI (show d < s.length from h1), gI (h2 o rfl)]; walk_at "d"; exact h
  | bar d o lo hi => walk_at "d"; refine ⟨_, rfl, ?_⟩; simp only [Tm.D, Tm.oth, optD, sD]; walk_at "d"; rw [gI (show d < s.length from h1), gI (h2 o rfl)]; walk_at "d"; exact h

def db_distance (Z : Zs) : DS := (dSeq (dAsg (dCall 1 (df_ends_of Z) noX (dCons (dVar 0) dNil)) (dUnp 2 (dgCons (dName 2) (dgCons (dName 3) dgNil)))) (dRet (dCB kMax3 (dCons (dOp oSub (dVar 2) (dVar 1)) (dCons (dOp oSub (dVar 1) (dVar 3)) (dCons (dC (.int 0)) dNil))))))
def df_distance (Z : Zs) : DF := fun ds M q xq => ∃ (t : Tm) (x : Int), ds = [t.D, .int x] ∧ q (.int (t.dist x)) M
theorem sem_distance (Z : Zs) : ∀ ds M q xq, ds.length = 2 → df_distance Z ds M q xq → db_distance Z { nx := fun _ M' => q .non M', rt := q } (ds.map some ++ List.replicate 2 none) M := by
  rintro _ M q xq - ⟨t, x, rfl, h⟩
  unfold db_distance
  walk_at "d"; refine ⟨_, rfl, ?_⟩; walk_at "d"; exact h

def db_is_integer (Z : Zs) : DS := (dRet (dAndV (dCB kIsi (dCons (dVar 0) (dCons (dC (.ty "int")) dNil))) (dNotV (dCB kIsi (dCons (dVar 0) (dCons (dC (.ty "bool")) dNil))))))
def df_is_integer (Z : Zs) : DF := fun ds M q xq => ∃ (x : Int), ds = [.int x] ∧ q (.bl true) M
theorem sem_is_integer (Z : Zs) : ∀ ds M q xq, ds.length = 1 → df_is_integer Z ds M q xq → db_is_integer Z { nx := fun _ M' => q .non M', rt := q } (ds.map some ++ List.replicate 0 none) M := by
  rintro _ M q xq - ⟨x, rfl, h⟩
  unfold db_is_integer
  walk_at "d"; exact h

def db_is_between (Z : Zs) : DS := (dRet (dAndV (dCall 1 (df_is_integer Z) noX (dCons (dVar 0) dNil)) (dChain oLe oLe (dVar 1) (dVar 0) (dVar 2))))
def df_is_between (Z : Zs) : DF := fun ds M q xq => ∃ (x a b : Int), ds = [.int x, .int a, .int b] ∧ q (.bl (decide (a ≤ x) && decide (x ≤ b))) M
theorem sem_is_between (Z : Zs) : ∀ ds M q xq, ds.length = 3 → df_is_between Z ds M q xq → db_is_between Z { nx := fun _ M' => q .non M', rt := q } (ds.map some ++ List.replicate 0 none) M := by
  rintro _ M q xq - ⟨x, a, b, rfl, h⟩
  unfold db_is_between
  walk_at "d"; refine ⟨_, rfl, ?_⟩; walk_at "d"
  split
  · rename_i c; simpa only [c, decide_true, Bool.true_and] using h
  · rename_i c; simpa only [c, decide_false, Bool.false_and] using h

def db_is_value (Z : Zs) : DS := (dRet (dCall 3 (df_is_between Z) noX (dCons (dVar 0) (dCons (dUn oNeg (dC (.int 1000000000000000000))) (dCons (dC (.int 1000000000000000000)) dNil)))))
def df_is_value (Z : Zs) : DF := fun ds M q xq => ∃ (x : Int), ds = [.int x] ∧ q (.bl (decide (-1000000000000000000 ≤ x) && decide (x ≤ 1000000000000000000))) M
theorem sem_is_value (Z : Zs) : ∀ ds M q xq, ds.length = 1 → df_is_value Z ds M q xq → db_is_value Z { nx := fun _ M' => q .non M', rt := q } (ds.map some ++ List.replicate 0 none) M := by
  rintro _ M q xq - ⟨x, rfl, h⟩
  unfold db_is_value
  walk_at "d"; exact ⟨_, _, _, rfl, h⟩

def db_is_force (Z : Zs) : DS := (dRet (dCall 3 (df_is_between Z) noX (dCons (dVar 0) (dCons (dC (.int 1)) (dCons (dC (.int 30)) dNil)))))
def df_is_force (Z : Zs) : DF := fun ds M q xq => ∃ (x : Int), ds = [.int x] ∧ q (.bl (decide (1 ≤ x) && decide (x ≤ 30))) M
theorem sem_is_force (Z : Zs) : ∀ ds M q xq, ds.length = 1 → df_is_force Z ds M q xq → db_is_force Z { nx := fun _ M' => q .non M', rt := q } (ds.map some ++ List.replicate 0 none) M := by
  rintro _ M q xq - ⟨x, rfl, h⟩
  unfold db_is_force
  walk_at "d"; exact ⟨_, _, _, rfl, h⟩

def db_is_term (Z : Zs) : DS := (dSeq (dIfS (dOr (dNot (dTru (dCB kIsi (dCons (dVar 0) (dCons (dC (.ty "tuple")) dNil))))) (dOr (dB (dOp oLt (dCB kLen (dCons (dVar 0) dNil)) (dC (.int 4)))) (dOr (dNot (dTru (dCB kIsi (dCons (dOp oIx (dVar 0) (dC (.int 0))) (dCons (dC (.ty "str")) dNil))))) (dB (dOp (oIn true) (dOp oIx (dVar 0) (dC (.int 0))) (dC (.ktp [.str "wish", .str "tie", .str "stop", .str "bar"]))))))) (dRet (dC (.bl false))) dNext) (dSeq (dPar 2 3 (dCons (dOp oAdd (dC (.int 1)) (dCB kInt (dCons (dOp (oIn false) (dOp oIx (dVar 0) (dC (.int 0))) (dTup (dCons (dC (.str "tie")) (dCons (dC (.str "bar")) dNil)))) dNil))) (dCons (dOp (oIn false) (dOp oIx (dVar 0) (dC (.int 0))) (dTup (dCons (dC (.str "wish")) (dCons (dC (.str "tie")) dNil)))) dNil))) (dSeq (dIfS (dB (dOp oNe (dCB kLen (dCons (dVar 0) dNil)) (dOp oAdd (dOp oAdd (dC (.int 3)) (dVar 2)) (dCB kInt (dCons (dVar 3) dNil))))) (dRet (dC (.bl false))) dNext) (dSeq (dIfS (dNot (dTru (dCB kAll (dCons (dOfL (dLcL (dSeqI (dSl (dVar 0) (dPart (dC (.int 1))) (dPart (dOp oAdd (dC (.int 1)) (dVar 2))))) (dName 6) dYes (dCall 3 (df_is_between Z) noX (dCons (dVar 6) (dCons (dC (.int 0)) (dCons (dOp oSub (dVar 1) (dC (.int 1))) dNil)))) [6])) dNil)))) (dRet (dC (.bl false))) dNext) (dSeq (dIfS (dAnd (dB (dOp oEq (dVar 2) (dC (.int 2)))) (dB (dOp oEq (dOp oIx (dVar 0) (dC (.int 1))) (dOp oIx (dVar 0) (dC (.int 2)))))) (dRet (dC (.bl false))) dNext) (dSeq (dAsg (dSl (dVar 0) (dPart (dOp oAdd (dC (.int 1)) (dVar 2))) (dPart (dOp oAdd (dC (.int 3)) (dVar 2)))) (dUnp 2 (dgCons (dName 4) (dgCons (dName 5) dgNil)))) (dSeq (dIfS (dOr (dNot (dTru (dCall 1 (df_is_value Z) noX (dCons (dVar 4) dNil)))) (dOr (dNot (dTru (dCall 1 (df_is_value Z) noX (dCons (dVar 5) dNil)))) (dB (dOp oGt (dVar 4) (dVar 5))))) (dRet (dC (.bl false))) dNext) (dRet (dOrV (dNotV (dVar 3)) (dCall 1 (df_is_force Z) noX (dCons (dOp oIx (dVar 0) (dUn oNeg (dC (.int 1)))) dNil)))))))))))
def df_is_term (Z : Zs) : DF := fun ds M q xq => ∃ (t : Tm) (n : Nat), ds = [t.D, .int n] ∧ t.ok n ∧ q (.bl true) M
theorem sem_is_term (Z : Zs) : ∀ ds M q xq, ds.length = 2 → df_is_term Z ds M q xq → db_is_term Z { nx := fun _ M' => q .non M', rt := q } (ds.map some ++ List.replicate 5 none) M := by
  rintro _ M q xq - ⟨t, n, rfl, ok, h⟩
  unfold db_is_term
  have k1 := ok.ins.1
  have k2 := ok.ins.2
  have k3 := ok.ne
  have k4 := ok.l1
  have k5 := ok.h1
  have k6 := ok.lh
  have k7 := ok.f
  cases t with
  | wish d lo hi f =>
    simp only [Tm.dial, Tm.oth, Tm.lo, Tm.hi, Tm.force, Tm.pull] at k1 k2 k3 k4 k5 k6 k7
    have k8 := k7 trivial
    simp only [Tm.D]; walk_at "d"; simp only [dComp]; walk_at "d"
    refine ⟨_, _, _, rfl, ?_⟩; rw [decide_eq_true (by omega), decide_eq_true (by omega)]; walk_at "d"
    refine ⟨[true], rfl, ?_⟩; walk_at "d"
    refine ⟨_, rfl, ?_⟩; rw [decide_eq_true (by omega), decide_eq_true (by omega)]; walk_at "d"
    refine ⟨_, rfl, ?_⟩; rw [decide_eq_true (by omega), decide_eq_true (by omega)]; walk_at "d"
    rw [if_neg (by omega)]
    refine ⟨_, rfl, ?_⟩; rw [decide_eq_true (by omega), decide_eq_true (by omega)]; exact h
  | tie d o lo hi f =>
    simp only [Tm.dial, Tm.oth, Tm.lo, Tm.hi, Tm.force, Tm.pull] at k1 k2 k3 k4 k5 k6 k7
    have k8 := k7 trivial
    have k9 := k2 o rfl
    have k10 := k3 o rfl
    simp only [Tm.D]; walk_at "d"; simp only [dComp]; walk_at "d"
    refine ⟨_, _, _, rfl, ?_⟩; rw [decide_eq_true (by omega), decide_eq_true (by omega)]; walk_at "d"
    refine ⟨_, _, _, rfl, ?_⟩; rw [decide_eq_true (by omega), decide_eq_true (by omega)]; walk_at "d"
    refine ⟨[true, true], rfl, ?_⟩; walk_at "d"
    have k11 : ¬ ((d : Int) = (o : Int)) := by omega
    rw [if_neg k11]
    refine ⟨_, rfl, ?_⟩; rw [decide_eq_true (by omega), decide_eq_true (by omega)]; walk_at "d"
    refine ⟨_, rfl, ?_⟩; rw [decide_eq_true (by omega), decide_eq_true (by omega)]; walk_at "d"
    rw [if_neg (by omega)]
    refine ⟨_, rfl, ?_⟩; rw [decide_eq_true (by omega), decide_eq_true (by omega)]; exact h
  | stop d lo hi =>
    simp only [Tm.dial, Tm.oth, Tm.lo, Tm.hi, Tm.force, Tm.pull] at k1 k2 k3 k4 k5 k6 k7
    simp only [Tm.D]; walk_at "d"; simp only [dComp]; walk_at "d"
    refine ⟨_, _, _, rfl, ?_⟩; rw [decide_eq_true (by omega), decide_eq_true (by omega)]; walk_at "d"
    refine ⟨[true], rfl, ?_⟩; walk_at "d"
    refine ⟨_, rfl, ?_⟩; rw [decide_eq_true (by omega), decide_eq_true (by omega)]; walk_at "d"
    refine ⟨_, rfl, ?_⟩; rw [decide_eq_true (by omega), decide_eq_true (by omega)]; walk_at "d"
    rw [if_neg (by omega)]
    exact h
  | bar d o lo hi =>
    simp only [Tm.dial, Tm.oth, Tm.lo, Tm.hi, Tm.force, Tm.pull] at k1 k2 k3 k4 k5 k6 k7
    have k9 := k2 o rfl
    have k10 := k3 o rfl
    simp only [Tm.D]; walk_at "d"; simp only [dComp]; walk_at "d"
    refine ⟨_, _, _, rfl, ?_⟩; rw [decide_eq_true (by omega), decide_eq_true (by omega)]; walk_at "d"
    refine ⟨_, _, _, rfl, ?_⟩; rw [decide_eq_true (by omega), decide_eq_true (by omega)]; walk_at "d"
    refine ⟨[true, true], rfl, ?_⟩; walk_at "d"
    have k11 : ¬ ((d : Int) = (o : Int)) := by omega
    rw [if_neg k11]
    refine ⟨_, rfl, ?_⟩; rw [decide_eq_true (by omega), decide_eq_true (by omega)]; walk_at "d"
    refine ⟨_, rfl, ?_⟩; rw [decide_eq_true (by omega), decide_eq_true (by omega)]; walk_at "d"
    rw [if_neg (by omega)]
    exact h

def db_Board_left (Z : Zs) : DS := (dSeq (dFor (dEnum (dCons (dFld [Z.Board] "term_list" (dVar 0)) dNil)) (dUnp 2 (dgCons (dName 2) (dgCons (dName 3) dgNil))) (dIfS (dAnd (dNot (dTru (dCall 1 (df_is_pulling Z) noX (dCons (dVar 3) dNil)))) (dB (dOp oGt (dCall 2 (df_distance Z) noX (dCons (dVar 3) (dCons (dCall 2 (df_argument Z) noX (dCons (dVar 3) (dCons (dVar 1) dNil))) dNil))) (dC (.int 0))))) (dRet (dVar 2)) dNext)) (dRet (dC .non)))
def bD (Z : Zs) (n : Nat) (ts : List Tm) : D := .ins Z.Board [("dial_count", .int n), ("term_list", .lst (ts.map Tm.D))]
def df_Board_left (Z : Zs) : DF := fun ds M q xq => ∃ (n : Nat) (ts : List Tm) (s : List Int), ds = [bD Z n ts, sD s] ∧ (∀ t ∈ ts, t.inSize s.length) ∧ q (optD (leftOf ts s)) M
theorem sem_Board_left (Z : Zs) : ∀ ds M q xq, ds.length = 2 → df_Board_left Z ds M q xq → db_Board_left Z { nx := fun _ M' => q .non M', rt := q } (ds.map some ++ List.replicate 2 none) M := by
  rintro _ M q xq - ⟨n, ts, s, rfl, hi, h⟩
  unfold db_Board_left bD
  walk_at "d"
  refine loop_ind (fun i δ M' => M' = M ∧ (∃ a b, δ = [some _, some (sD s), a, b]) ∧ ∀ t ∈ ts.take i, (!t.pull && decide (0 < t.dist (t.arg s))) = false) (fun i d e δ M' hI K hK => ?_) ⟨rfl, ⟨_, _, rfl⟩, by simp⟩ fun δ M' hI => ?_
  · obtain ⟨rfl, ⟨a, b, rfl⟩, hn⟩ := hI
    obtain ⟨t, et, rfl⟩ := enD_get' e
    have hm := List.mem_of_getElem? et
    walk_at "d"
    refine ⟨t, rfl, ?_⟩
    cases hp : t.pull with
    | true => walk_at "d"; exact hK _ _ ⟨rfl, ⟨_, _, rfl⟩, take_false hn et (by rw [hp]; rfl)⟩
    | false =>
      walk_at "d"
      refine ⟨t, s, rfl, hi t hm, ?_⟩; refine ⟨t, _, rfl, ?_⟩; walk_at "d"
      split
      · rename_i c
        rw [leftOf_some hn et (by rw [hp, decide_eq_true c]; rfl)] at h
        exact h
      · rename_i c
        exact hK _ _ ⟨rfl, ⟨_, _, rfl⟩, take_false hn et (by rw [decide_eq_false c, Bool.and_false])⟩
  · obtain ⟨rfl, ⟨a, b, rfl⟩, hn⟩ := hI
    rw [enD_len, List.length_map, List.take_length] at hn
    rw [leftOf_none hn] at h
    walk_at "d"; exact h

def db_need_allowed (Z : Zs) : DS := (dSeq (dAsg (dMeth Z.Board "left" 2 (df_Board_left Z) noX (dVar 0) (dCons (dVar 1) dNil)) (dName 2)) (dIfS (dB (dOp (oIsN fun k => !k) (dVar 2) (dC .non))) dNever dNext))
def df_need_allowed (Z : Zs) : DF := fun ds M q xq => ∃ (n : Nat) (ts : List Tm) (s : List Int), ds = [bD Z n ts, sD s] ∧ (∀ t ∈ ts, t.inSize s.length) ∧ leftOf ts s = none ∧ q .non M
theorem sem_need_allowed (Z : Zs) : ∀ ds M q xq, ds.length = 2 → df_need_allowed Z ds M q xq → db_need_allowed Z { nx := fun _ M' => q .non M', rt := q } (ds.map some ++ List.replicate 1 none) M := by
  rintro _ M q xq - ⟨n, ts, s, rfl, hi, hl, h⟩
  unfold db_need_allowed
  walk_at "d"
  unfold bD
  walk_at "d"
  refine ⟨n, ts, s, rfl, hi, ?_⟩
  rw [hl]
  unfold optD
  walk_at "d"; exact h

def db_Board_init (Z : Zs) : DS := (dSeq (dIfS (dNot (dTru (dCall 3 (df_is_between Z) noX (dCons (dVar 1) (dCons (dC (.int 1)) (dCons (dC (.int 8)) dNil)))))) dNever dNext) (dSeq (dIfS (dOr (dNot (dTru (dCB kIsi (dCons (dVar 2) (dCons (dC (.ty "list")) dNil))))) (dOr (dB (dOp oGt (dCB kLen (dCons (dVar 2) dNil)) (dC (.int 24)))) (dNot (dTru (dCB kAll (dCons (dOfL (dLcL (dSeqI (dVar 2)) (dName 3) dYes (dCall 2 (df_is_term Z) noX (dCons (dVar 3) (dCons (dVar 1) dNil))) [3])) dNil)))))) dNever dNext) (dSeq (dSetFld Z.Board "dial_count" (dVar 1) (dVar 0)) (dSetFld Z.Board "term_list" (dCB kList (dCons (dVar 2) dNil)) (dVar 0)))))
def df_Board_init (Z : Zs) : DF := fun ds M q xq => ∃ (l : Addr) (n : Nat) (ts : List Tm), ds = [.adr l, .int n, .lst (ts.map Tm.D)] ∧ M l = some (.ins Z.Board []) ∧ 1 ≤ n ∧ n ≤ 8 ∧ ts.length ≤ 24 ∧ (∀ t ∈ ts, t.ok n) ∧
  q .non (mset M l (.ins Z.Board [("dial_count", .int n), ("term_list", .lst (ts.map Tm.D))]))
theorem sem_Board_init (Z : Zs) : ∀ ds M q xq, ds.length = 3 → df_Board_init Z ds M q xq → db_Board_init Z { nx := fun _ M' => q .non M', rt := q } (ds.map some ++ List.replicate 1 none) M := by
  rintro _ M q xq - ⟨l, n, ts, rfl, hl, n1, n8, ht, hk, h⟩
  unfold db_Board_init
  walk_at "d"
  refine ⟨_, _, _, rfl, ?_⟩; rw [decide_eq_true (by omega), decide_eq_true (by omega)]; walk_at "d"
  rw [if_neg (by omega)]
  refine comp_map (fun _ => .bl true) (by omega) (fun t hm acc ha K hK => ?_) ?_
  · walk_at "d"; exact ⟨t, n, rfl, hk t hm, ha, hK⟩
  · refine ⟨ts.map fun _ => true, by rw [List.map_map]; rfl, ?_⟩
    walk_at "d"
    simp only [hl]
    walk_at "d"
    exact h

end DL

set_option Elab.async false
set_option linter.all false
set_option maxRecDepth 100000
set_option maxHeartbeats 1000000
namespace DL
open PySem L2 PyProof.Rows
local macro_rules | `(tactic| walk_at "d") => `(tactic| simp only [dSeq, dAsg, dRet, dRetN, dIfS, dNext, dVar, dC, dOp, dUn, dB, dTru, dAnd, dOr, dNot, dIf, dAndV, dOrV, dNotV, dNil, dCons, dTup, dLst, dLstL, dLstM, dCall, dCB, dName, dgNil, dgCons, dUnp, dPar, dPar3, dAug, dSl, dPart, dNoPart, dChain, dDrop, dFor, dSeqI, dRg1, dRg2, dEnum, dZip, dStrI, dOfL, dOfM, dLcL, dYes, dwipe, dBM, mAppend, dSub, dAugSub, dFrz, frz, dMeth, dMake, dFld, dSetFld, insOf, putD, dRevL, dSortSet, dInD, dPutD, dGet, dDisp1T, oI, oIC, oU, oSub, oMod, oDiv, oNeg, oLt, oLe, oGt, oGe, oEq, oNe, kAll, kAny, kMax2, kMin2, kSorted, oAdd, oMul, oIx, oSl, oIn, oIsN, oEqW, sEq, kLen, kAbs, kTwo, kMax3, kInt, kStr, kList, kTuple, kIsi, kInts, kBools, kSumP, kSortedD, tyName, seqItems, items, mset_same, mset_mset, mdel_mset,
  List.map, List.replicate, List.cons_append, List.nil_append, List.set, List.getElem?_cons_zero, List.getElem?_cons_succ, List.length_cons, List.length_nil, Nat.zero_add, Nat.reduceAdd, true_and, and_true, and_self, atI0, atI_pos, Int.reduceLE, Int.reduceLT, Int.natCast_nonneg, Int.toNat_natCast, Int.reduceToNat, Int.reduceNeg, Int.reduceAdd, Int.reduceSub, Int.reduceMul, atI_m1, line_le, line_lt, Nat.ble, flatD, inD, eqDb_ii, eqDb_ss, inD_nats, flat_nats, Int.zero_add, List.lookup, List.mem_cons, true_or, List.length_map, List.all_cons, List.all_nil, List.any_cons, List.any_nil, str_beq, str_dec, str_inj, all_true, String.reduceBEq, String.reduceEq, Int.reduceBEq, Bool.and_true, Bool.true_and, Bool.and_self, Bool.or_false, Bool.false_or, Bool.or_true, Bool.true_or, Bool.and_false, Bool.false_and, Bool.not_true, Bool.not_false, Bool.false_eq_true, if_true, if_false, ite_true, ite_false, reduceIte, Nat.reduceLeDiff, Nat.reduceLT, decide_true, decide_false, Int.cast_ofNat_Int, Option.some.injEq, exists_eq_left', exists_eq_left, exists_and_left, kit_ii, kit_ib, kit_tt, kit_ss, kit_ll, ixN_lit, cut_pp, cut_np, cut_pn, List.drop_succ_cons, List.drop_zero, List.take_succ_cons, List.take_zero, List.take_nil, List.getLast?_cons_cons, List.getLast?_singleton, Nat.reduceSub, Nat.sub_zero, decide_eq_true_eq, Int.reduceEq, Int.reduceNe, Nat.reduceEqDiff])
theorem zpD_map {α β : Type} {f : α → D} {g : β → D} : ∀ (xs : List α) (ys : List β), zpD (xs.map f) (ys.map g) = (List.zip xs ys).map fun p => D.tup [f p.1, g p.2]
  | [], ys => by cases ys <;> rfl
  | _ :: _, [] => rfl
  | x :: xs, y :: ys => by
    rw [List.map_cons, List.map_cons, List.zip_cons_cons, List.map_cons, ← zpD_map xs ys]
    rfl
theorem enD_pairs {α : Type} (f : α → D) (xs : List α) : ∃ ps : List (Nat × α), ps.length = xs.length ∧ enD 0 (xs.map f) = ps.map fun p => D.tup [.int (p.1 : Nat), f p.2] := by
  refine ⟨_, ?_, enD_map f xs 0⟩
  rw [List.length_mapIdx]
theorem fmax_ge : ∀ (xs : List Int) (m : Int), m ≤ xs.foldl max m
  | [], m => Int.le_refl m
  | x :: xs, m => Int.le_trans (Int.le_max_left m x) (fmax_ge xs (max m x))
theorem fmax_mem : ∀ (xs : List Int) (m : Int), xs.foldl max m = m ∨ xs.foldl max m ∈ xs
  | [], m => .inl rfl
  | x :: xs, m => by
    rcases fmax_mem xs (max m x) with h | h
    · rw [List.foldl_cons, h]
      by_cases c : x ≤ m
      · left; omega
      · right; rw [show max m x = x by omega]; exact List.mem_cons_self
    · exact .inr (List.mem_cons_of_mem _ h)
theorem fmax_le : ∀ (xs : List Int) (m : Int), ∀ x ∈ xs, x ≤ xs.foldl max m
  | [], m, _, h => by cases h
  | y :: xs, m, x, h => by
    rcases List.mem_cons.mp h with h | h
    · rw [h]; exact Int.le_trans (Int.le_max_right m y) (fmax_ge xs _)
    · exact fmax_le xs _ x h
theorem fmax_is {xs : List Int} {m : Int} (h0 : 0 ≤ m) (h1 : ∀ x ∈ xs, x ≤ m) (h2 : m = 0 ∨ m ∈ xs) : xs.foldl max 0 = m := by
  have a := fmax_ge xs 0
  rcases fmax_mem xs 0 with b | b
  · rcases h2 with h2 | h2
    · omega
    · have := fmax_le xs 0 m h2; omega
  · have := h1 _ b
    rcases h2 with h2 | h2
    · omega
    · have := fmax_le xs 0 m h2; omega
theorem tele : ∀ L : List Int, ((List.zip L (L.drop 1 ++ [0])).map fun p => p.1 - p.2).sum = L.headD 0
  | [] => rfl
  | [x] => by simp
  | x :: y :: r => by
    have ih := tele (y :: r)
    simp only [List.drop_succ_cons, List.drop_zero, List.cons_append, List.zip_cons_cons, List.map_cons, List.sum_cons, List.headD_cons] at ih ⊢
    omega
/-- how far the greatest of the gaps in one way is -/
def gaps (w : Int) (a b : List Int) : List Int := (List.zip a b).map fun p => w * (p.2 - p.1)
def gap (w : Int) (a b : List Int) : Int := (gaps w a b).foldl max 0
theorem gap_head {w : Int} {a b out : List Int} (hp : out.Pairwise (· < ·)) (hm : ∀ k, k ∈ out ↔ k ∈ (gaps w a b).filter fun x => decide (0 < x)) : out.reverse.headD 0 = gap w a b := by
  symm
  have hr : out.reverse.Pairwise (fun x y => y < x) := List.pairwise_reverse.mpr hp
  have hm2 : ∀ k, k ∈ out.reverse ↔ k ∈ gaps w a b ∧ 0 < k := fun k => by rw [List.mem_reverse, hm k, List.mem_filter, decide_eq_true_eq]
  cases e : out.reverse with
  | nil =>
    rw [e] at hm2
    refine fmax_is (Int.le_refl 0) (fun x hx => ?_) (.inl rfl)
    by_cases c : 0 < x
    · exact absurd ((hm2 x).mpr ⟨hx, c⟩) (by simp)
    · show x ≤ 0; omega
  | cons x r =>
    rw [e] at hm2 hr
    have hx := (hm2 x).mp List.mem_cons_self
    refine fmax_is (by show 0 ≤ x; omega) (fun y hy => ?_) (.inr hx.1)
    show y ≤ x
    by_cases c : 0 < y
    · rcases List.mem_cons.mp ((hm2 y).mpr ⟨hy, c⟩) with z | z
      · omega
      · have := (List.pairwise_cons.mp hr).1 y z; omega
    · omega
def planD (its : List (D × D × Int)) : D := .lst (its.map fun t => .tup [t.1, t.2.1, .int t.2.2])
theorem planD_snoc (its : List (D × D × Int)) (t : D × D × Int) : (its.map fun t => D.tup [t.1, t.2.1, .int t.2.2]) ++ [D.tup [t.1, t.2.1, .int t.2.2]] = (its ++ [t]).map fun t => D.tup [t.1, t.2.1, .int t.2.2] := by
  rw [List.map_append]; rfl

def db_legs (Z : Zs) : DS := (dSeq (dAsg (dOfL (dLcL (dZip (dCons (dVar 0) (dCons (dVar 1) dNil))) (dUnp 2 (dgCons (dName 8) (dgCons (dName 9) dgNil))) dYes (dOp oMul (dVar 2) (dOp oSub (dVar 9) (dVar 8))) [8, 9])) (dName 3)) (dSeq (dAsg (dOfL (dRevL (dSortSet (dOfL (dLcL (dSeqI (dVar 3)) (dName 10) (dB (dOp oGt (dVar 10) (dC (.int 0)))) (dVar 10) [10]))))) (dName 4)) (dSeq (dAsg (dOfM (dLstL dNil)) (dName 5)) (dSeq (dFor (dZip (dCons (dVar 4) (dCons (dOp oAdd (dSl (dVar 4) (dPart (dC (.int 1))) dNoPart) (dLst (dCons (dC (.int 0)) dNil))) dNil))) (dUnp 2 (dgCons (dName 6) (dgCons (dName 7) dgNil))) (dDrop (dBM mAppend (dVar 5) (dCons (dTup (dCons (dVar 2) (dCons (dOfL (dLcL (dEnum (dCons (dVar 3) dNil)) (dUnp 2 (dgCons (dName 11) (dgCons (dName 10) dgNil))) (dB (dOp oGe (dVar 10) (dVar 6))) (dVar 11) [11, 10])) (dCons (dOp oSub (dVar 6) (dVar 7)) dNil)))) dNil)))) (dRet (dFrz (dVar 5)))))))
def df_legs (Z : Zs) : DF := fun ds M q xq => ∃ (a b : List Int) (w : Int), ds = [sD a, sD b, .int w] ∧ a.length = b.length ∧ a.length ≤ 8 ∧ (w = 1 ∨ w = -1) ∧
  ∀ its : List (D × D × Int), its.length ≤ 8 → (its.map fun t => t.2.2).sum = gap w a b → q (planD its) M
theorem sem_legs (Z : Zs) : ∀ ds M q xq, ds.length = 3 → df_legs Z ds M q xq → db_legs Z { nx := fun _ M' => q .non M', rt := q } (ds.map some ++ List.replicate 9 none) M := by
  rintro _ M q xq - ⟨a, b, w, rfl, hab, h8, hw, h⟩
  unfold db_legs sD
  walk_at "d"
  rw [zpD_map]
  have hz : (List.zip a b).length ≤ 8 := by rw [List.length_zip]; omega
  refine comp_map (fun p => .int (w * (p.2 - p.1))) (by omega) (fun p hp acc ha K hK => ?_) ?_
  · walk_at "d"
    exact ⟨.inl (.inl (by rcases hw with rfl | rfl <;> decide)), ha, hK⟩
  have e1 : ((List.zip a b).map fun p => D.int (w * (p.2 - p.1))) = (gaps w a b).map D.int := by unfold gaps; rw [List.map_map]; rfl
  have hg : (gaps w a b).length ≤ 8 := by unfold gaps; rw [List.length_map]; exact hz
  rw [e1]
  refine comp_pure (fun x => if 0 < x then some (.int x) else none) (by omega) (fun x hx acc ha K hK => ?_) ?_
  · walk_at "d"
    split
    · rename_i c; rw [if_pos c] at hK; exact ⟨ha, hK⟩
    · rename_i c; rw [if_neg c] at hK; exact hK
  have e2 : ((gaps w a b).filterMap fun x => if 0 < x then some (D.int x) else none) = ((gaps w a b).filter fun x => decide (0 < x)).map D.int := by
    induction gaps w a b with
    | nil => rfl
    | cons x r ih =>
      rw [List.filterMap_cons, List.filter_cons]
      by_cases c : 0 < x
      · simp only [c, if_true, decide_true, List.map_cons, ih]
      · simp only [c, if_false, decide_false, ih, Bool.false_eq_true]
  rw [e2]
  have hf : ((gaps w a b).filter fun x => decide (0 < x)).length ≤ 8 := Nat.le_trans (List.length_filter_le ..) hg
  refine ⟨_, rfl, by omega, fun out hp hm hl l hln => ⟨?_, ?_⟩⟩
  · rw [List.length_drop, List.length_reverse, List.length_map, sizeLine_eq]; omega
  have e3 : (out.map D.int).reverse = out.reverse.map D.int := List.map_reverse.symm
  have e4 : (out.reverse.map D.int).drop 1 ++ [D.int 0] = (out.reverse.drop 1 ++ [0]).map D.int := by rw [List.map_append, List.map_drop]; rfl
  have hL : out.reverse.length ≤ 8 := by rw [List.length_reverse]; omega
  rw [e3, e4, zpD_map]
  have hgap := gap_head hp hm
  have ht := tele out.reverse
  rw [hgap] at ht
  generalize out.reverse = L at *
  have hzl : (List.zip L (L.drop 1 ++ [0])).length ≤ 8 := by rw [List.length_zip]; omega
  generalize hZ : List.zip L (L.drop 1 ++ [0]) = Zp at *
  refine loop_ind (fun i δ M' => ∃ (its : List (D × D × Int)) (x y z u : Option D), its.length = i ∧ (its.map fun t => t.2.2).sum = ((Zp.take i).map fun p => p.1 - p.2).sum ∧
    M' = mset M l (.lst (its.map fun t => .tup [t.1, t.2.1, .int t.2.2])) ∧ δ = [some (D.tup (a.map D.int)), some (D.tup (b.map D.int)), some (D.int w), some (D.lst ((gaps w a b).map D.int)), some (D.lst (L.map D.int)), some (D.adr l), x, y, none, none, z, u])
    (fun i d e δ M' hI K hK => ?_) ⟨[], _, _, _, _, rfl, rfl, rfl, rfl⟩ fun δ M' hI => ?_
  · obtain ⟨its, x, y, z, u, h1, h2, rfl, rfl⟩ := hI
    obtain ⟨p, ep, rfl⟩ := get_map e
    walk_at "d"
    refine ⟨⟨_, rfl⟩, ?_⟩
    obtain ⟨ps, hps, eps⟩ := enD_pairs D.int (gaps w a b)
    rw [eps]
    refine comp_pure (fun g : Nat × Int => if p.1 ≤ g.2 then some (.int (g.1 : Nat)) else none) (by omega) (fun g hgm acc ha K2 hK2 => ?_) ?_
    · walk_at "d"
      split
      · rename_i c; rw [if_pos c] at hK2; exact ⟨ha, hK2⟩
      · rename_i c; rw [if_neg c] at hK2; exact hK2
    walk_at "d"
    have hi := (List.getElem?_eq_some_iff.mp ep).1
    refine ⟨by rw [h1, sizeLine_eq]; omega, hK _ _ ⟨its ++ [(D.int w, _, p.1 - p.2)], _, _, _, _, by rw [List.length_append, h1]; rfl, ?_, by rw [← planD_snoc], rfl⟩⟩
    rw [List.map_append, List.sum_append, h2, List.take_add_one, ep, List.map_append, List.sum_append]
    simp
  · obtain ⟨its, x, y, z, u, h1, h2, rfl, rfl⟩ := hI
    rw [List.length_map] at h1 h2
    rw [List.take_length, ht] at h2
    walk_at "d"
    rw [mdel_mset hln]
    exact h its (by omega) h2

def db_shortest (Z : Zs) : DS := (dSeq (dDrop (dCall 2 (df_need_allowed Z) noX (dCons (dVar 0) (dCons (dVar 1) dNil)))) (dSeq (dDrop (dCall 2 (df_need_allowed Z) noX (dCons (dVar 0) (dCons (dVar 2) dNil)))) (dRet (dOp oAdd (dCall 3 (df_legs Z) noX (dCons (dVar 1) (dCons (dVar 2) (dCons (dC (.int 1)) dNil)))) (dCall 3 (df_legs Z) noX (dCons (dVar 1) (dCons (dVar 2) (dCons (dUn oNeg (dC (.int 1))) dNil))))))))
def df_shortest (Z : Zs) : DF := fun ds M q xq => ∃ (n : Nat) (ts : List Tm) (a b : List Int), ds = [bD Z n ts, sD a, sD b] ∧ (∀ t ∈ ts, t.inSize a.length) ∧ a.length = b.length ∧ a.length ≤ 8 ∧ leftOf ts a = none ∧ leftOf ts b = none ∧
  ∀ its : List (D × D × Int), its.length ≤ 16 → (its.map fun t => t.2.2).sum = gap 1 a b + gap (-1) a b → q (planD its) M
theorem sem_shortest (Z : Zs) : ∀ ds M q xq, ds.length = 3 → df_shortest Z ds M q xq → db_shortest Z { nx := fun _ M' => q .non M', rt := q } (ds.map some ++ List.replicate 0 none) M := by
  rintro _ M q xq - ⟨n, ts, a, b, rfl, hi, hab, h8, ha, hb, h⟩
  unfold db_shortest
  walk_at "d"
  refine ⟨n, ts, a, rfl, hi, ha, n, ts, b, rfl, hab ▸ hi, hb, a, b, 1, rfl, hab, h8, .inl rfl, fun i1 l1 s1 => ?_⟩
  refine ⟨a, b, -1, rfl, hab, h8, .inr rfl, fun i2 l2 s2 => ?_⟩
  unfold planD
  walk_at "d"
  rw [← List.map_append]
  exact ⟨by rw [sizeLine_eq]; omega, h (i1 ++ i2) (by rw [List.length_append]; omega) (by rw [List.map_append, List.sum_append, s1, s2])⟩
end DL

set_option Elab.async false
set_option linter.all false
set_option maxRecDepth 100000
set_option maxHeartbeats 1000000
namespace DL
open PySem L2 PyProof.Rows
local macro_rules | `(tactic| walk_at "d") => `(tactic| simp only [dSeq, dAsg, dRet, dRetN, dIfS, dNext, dVar, dC, dOp, dUn, dB, dTru, dAnd, dOr, dNot, dIf, dAndV, dOrV, dNotV, dNil, dCons, dTup, dLst, dLstL, dLstM, dCall, dCB, dName, dgNil, dgCons, dUnp, dPar, dPar3, dAug, dSl, dPart, dNoPart, dChain, dDrop, dFor, dSeqI, dRg1, dRg2, dEnum, dZip, dStrI, dOfL, dOfM, dLcL, dYes, dwipe, dBM, mAppend, dSub, dAugSub, dFrz, frz, dMeth, dMake, dFld, dSetFld, insOf, putD, dRevL, dSortSet, dInD, dPutD, dGet, dDisp1T, oI, oIC, oU, oSub, oMod, oDiv, oNeg, oLt, oLe, oGt, oGe, oEq, oNe, kAll, kAny, kMax2, kMin2, kSorted, oAdd, oMul, oIx, oSl, oIn, oIsN, oEqW, sEq, kLen, kAbs, kTwo, kMax3, kInt, kStr, kList, kTuple, kIsi, kInts, kBools, kSumP, kSortedD, tyName, seqItems, items, mset_same, mset_mset, mdel_mset,
  List.map, List.replicate, List.cons_append, List.nil_append, List.set, List.getElem?_cons_zero, List.getElem?_cons_succ, List.length_cons, List.length_nil, Nat.zero_add, Nat.reduceAdd, true_and, and_true, and_self, atI0, atI_pos, Int.reduceLE, Int.reduceLT, Int.natCast_nonneg, Int.toNat_natCast, Int.reduceToNat, Int.reduceNeg, Int.reduceAdd, Int.reduceSub, Int.reduceMul, atI_m1, line_le, line_lt, Nat.ble, flatD, inD, eqDb_ii, eqDb_ss, inD_nats, flat_nats, Int.zero_add, List.lookup, List.mem_cons, true_or, List.length_map, List.all_cons, List.all_nil, List.any_cons, List.any_nil, str_beq, str_dec, str_inj, all_true, String.reduceBEq, String.reduceEq, Int.reduceBEq, Bool.and_true, Bool.true_and, Bool.and_self, Bool.or_false, Bool.false_or, Bool.or_true, Bool.true_or, Bool.and_false, Bool.false_and, Bool.not_true, Bool.not_false, Bool.false_eq_true, if_true, if_false, ite_true, ite_false, reduceIte, Nat.reduceLeDiff, Nat.reduceLT, decide_true, decide_false, Int.cast_ofNat_Int, Option.some.injEq, exists_eq_left', exists_eq_left, exists_and_left, kit_ii, kit_ib, kit_tt, kit_ss, kit_ll, ixN_lit, cut_pp, cut_np, cut_pn, List.drop_succ_cons, List.drop_zero, List.take_succ_cons, List.take_zero, List.take_nil, List.getLast?_cons_cons, List.getLast?_singleton, Nat.reduceSub, Nat.sub_zero, decide_eq_true_eq, Int.reduceEq, Int.reduceNe, Nat.reduceEqDiff])
/-- the law's bag -/
def BagO (o : MO) : Prop := ∃ (a b c : Int) (cells : List Int), o = .lst [.int a, .int b, .int c, .lst (cells.map D.int)] ∧ 0 ≤ a ∧ 0 ≤ c ∧ (∀ x ∈ cells, 0 ≤ x) ∧ 0 ≤ b ∧ b < 18446744073709551615

def db__law_bag (Z : Zs) : DS := (dRet (dLstM (dCons (dC (.int 0)) (dCons (dC (.int 1234567891)) (dCons (dC (.int 0)) (dCons (dOfL (dLcL (dSeqI (dSl (dVar 0) dNoPart (dPart (dC (.int 63))))) (dName 1) dYes (dCB kAbs (dCons (dVar 1) dNil)) [1])) dNil))))))
def df__law_bag (Z : Zs) : DF := fun ds M q xq => ∃ ns : List Int, ds = [.flst (ns.map D.int)] ∧ ∀ l o, M l = none → BagO o → q (.adr l) (mset M l o)
theorem sem__law_bag (Z : Zs) : ∀ ds M q xq, ds.length = 1 → df__law_bag Z ds M q xq → db__law_bag Z { nx := fun _ M' => q .non M', rt := q } (ds.map some ++ List.replicate 1 none) M := by
  rintro _ M q xq - ⟨ns, rfl, h⟩
  unfold db__law_bag
  walk_at "d"
  rw [← List.map_take]
  have hl : (ns.take 63).length ≤ 63 := by rw [List.length_take]; exact Nat.min_le_left ..
  refine comp_map (fun x => .int (if x < 0 then -x else x)) (by omega) (fun x hx acc ha K hK => ?_) ?_
  · walk_at "d"; exact ⟨ha, hK⟩
  · intro l hl
    refine h l _ hl ⟨0, 1234567891, 0, (ns.take 63).map fun x => if x < 0 then -x else x, by rw [List.map_map]; rfl, by decide, by decide, fun x hx => ?_, by decide, by decide⟩
    obtain ⟨y, _, rfl⟩ := List.mem_map.mp hx
    split <;> omega

def db__law_take (Z : Zs) : DS := (dSeq (dIfS (dB (dOp oEq (dOp oIx (dVar 0) (dC (.int 0))) (dC (.int 0)))) (dSeq (dAsg (dC (.int 0)) (dName 2)) (dSeq (dIfS (dB (dOp oLt (dOp oIx (dVar 0) (dC (.int 2))) (dCB kLen (dCons (dOp oIx (dVar 0) (dC (.int 3))) dNil)))) (dAsg (dOp oIx (dOp oIx (dVar 0) (dC (.int 3))) (dOp oIx (dVar 0) (dC (.int 2)))) (dName 2)) dNext) (dSeq (dAugSub (fun a b => a + b) (dVar 0) (dC (.int 2)) (dC (.int 1))) (dSeq (dIfS (dB (dOp oGe (dVar 2) (dC (.int 1000000000000000000)))) (dAsg (dVar 2) (dSub (dVar 0) (dC (.int 0)))) dNext) (dAsg (dOp oMod (dOp oAdd (dOp oAdd (dOp oMul (dOp oIx (dVar 0) (dC (.int 1))) (dC (.int 48271))) (dOp oMod (dVar 2) (dC (.int 2147483647)))) (dOp oMul (dC (.int 7919)) (dOp oIx (dVar 0) (dC (.int 2))))) (dC (.int 2147483647))) (dSub (dVar 0) (dC (.int 1)))))))) dNext) (dSeq (dIfS (dB (dOp oGt (dOp oIx (dVar 0) (dC (.int 0))) (dC (.int 0)))) (dSeq (dAsg (dOp oMod (dOp oIx (dVar 0) (dC (.int 0))) (dVar 1)) (dName 3)) (dSeq (dAsg (dOp oDiv (dOp oIx (dVar 0) (dC (.int 0))) (dVar 1)) (dSub (dVar 0) (dC (.int 0)))) (dRet (dVar 3)))) dNext) (dSeq (dAsg (dOp oMod (dOp oMul (dOp oAdd (dOp oIx (dVar 0) (dC (.int 1))) (dC (.int 1))) (dC (.int 39373))) (dC (.int 1000000007))) (dName 4)) (dSeq (dAsg (dOp oMod (dOp oMul (dOp oMod (dOp oMul (dVar 4) (dVar 4)) (dC (.int 998244353))) (dC (.int 30011))) (dC (.int 998244353))) (dName 5)) (dSeq (dIfS (dB (dOp oGt (dVar 1) (dC (.int 1000000)))) (dRet (dOp oMod (dOp oAdd (dOp oMul (dVar 5) (dC (.int 1000000007))) (dVar 4)) (dVar 1))) dNext) (dRet (dOp oMod (dOp oDiv (dVar 5) (dC (.int 7))) (dVar 1))))))))
def dt__law_take (Z : Zs) : DS := (dSeq (dIfS (dB (dOp oGt (dOp oIx (dVar 0) (dC (.int 0))) (dC (.int 0)))) (dSeq (dAsg (dOp oMod (dOp oIx (dVar 0) (dC (.int 0))) (dVar 1)) (dName 3)) (dSeq (dAsg (dOp oDiv (dOp oIx (dVar 0) (dC (.int 0))) (dVar 1)) (dSub (dVar 0) (dC (.int 0)))) (dRet (dVar 3)))) dNext) (dSeq (dAsg (dOp oMod (dOp oMul (dOp oAdd (dOp oIx (dVar 0) (dC (.int 1))) (dC (.int 1))) (dC (.int 39373))) (dC (.int 1000000007))) (dName 4)) (dSeq (dAsg (dOp oMod (dOp oMul (dOp oMod (dOp oMul (dVar 4) (dVar 4)) (dC (.int 998244353))) (dC (.int 30011))) (dC (.int 998244353))) (dName 5)) (dSeq (dIfS (dB (dOp oGt (dVar 1) (dC (.int 1000000)))) (dRet (dOp oMod (dOp oAdd (dOp oMul (dVar 5) (dC (.int 1000000007))) (dVar 4)) (dVar 1))) dNext) (dRet (dOp oMod (dOp oDiv (dVar 5) (dC (.int 7))) (dVar 1)))))))
def df__law_take (Z : Zs) : DF := fun ds M q xq => ∃ (l : Addr) (m : Int) (o : MO), ds = [.adr l, .int m] ∧ 0 < m ∧ m.natAbs.log2 < 9000 ∧ M l = some o ∧ BagO o ∧ ∀ v o', BagO o' → 0 ≤ v → v < m → q (.int v) (mset M l o')
theorem take_tail (Z : Zs) {M : Mh} {l : Addr} {m a b c : Int} {cells : List Int} {x y z : Option D} {w : Option D} {q : QD} {nx : DEnv → Mh → Prop} (m0 : 0 < m) (m1 : m.natAbs.log2 < 9000) (ha : 0 ≤ a) (hc : 0 ≤ c) (hk : ∀ x ∈ cells, 0 ≤ x) (hb : 0 ≤ b) (hb2 : b < 18446744073709551615)
    (h : ∀ v o', BagO o' → 0 ≤ v → v < m → q (.int v) (mset M l o')) : dt__law_take Z { nx := nx, rt := q } [some (.adr l), some (.int m), x, y, z, w] (mset M l (.lst [.int a, .int b, .int c, .lst (cells.map D.int)])) := by
  unfold dt__law_take
  walk_at "d"
  split
  · refine ⟨m0, ⟨m0, m1⟩, h _ _ ⟨a / m, b, c, cells, rfl, Int.ediv_nonneg ha (Int.le_of_lt m0), hc, hk, hb, hb2⟩ (Int.emod_nonneg _ (by omega)) (Int.emod_lt_of_pos _ m0)⟩
  · have e1 : 0 ≤ (b + 1) * 39373 % 1000000007 := Int.emod_nonneg _ (by decide)
    have e2 : (b + 1) * 39373 % 1000000007 < 1000000007 := Int.emod_lt_of_pos _ (by decide)
    refine ⟨.inl (.inr ⟨by decide, by decide⟩), .inl (.inl ⟨by omega, by omega⟩), .inl (.inr ⟨by decide, by decide⟩), ?_⟩
    have hB : BagO (.lst [.int a, .int b, .int c, .lst (cells.map D.int)]) := ⟨a, b, c, cells, rfl, ha, hc, hk, hb, hb2⟩
    split
    · exact ⟨.inl (.inr ⟨by decide, by decide⟩), m0, h _ _ hB (Int.emod_nonneg _ (by omega)) (Int.emod_lt_of_pos _ m0)⟩
    · exact ⟨⟨by decide, by decide⟩, m0, h _ _ hB (Int.emod_nonneg _ (by omega)) (Int.emod_lt_of_pos _ m0)⟩
theorem sem__law_take (Z : Zs) : ∀ ds M q xq, ds.length = 2 → df__law_take Z ds M q xq → db__law_take Z { nx := fun _ M' => q .non M', rt := q } (ds.map some ++ List.replicate 4 none) M := by
  rintro _ M q xq - ⟨l, m, o, rfl, m0, m1, hM, ⟨a, b, c, cells, rfl, ha, hc, hcells, hb, hb2⟩, h⟩
  have hM2 := mset_eq hM
  have main : ∀ (x y z : Option D), db__law_take Z { nx := fun _ M' => q .non M', rt := q } [some (.adr l), some (.int m), x, y, z, none] M := by
    intro x y z
    show dSeq _ (dt__law_take Z) _ _ _
    obtain ⟨c, rfl⟩ := Int.eq_ofNat_of_zero_le hc
    have fin : ∀ (b' : Int) (a' : Int) (w u : Option D), 0 ≤ a' → 0 ≤ b' → b' < 18446744073709551615 → dt__law_take Z { nx := fun _ M' => q .non M', rt := q } [some (.adr l), some (.int m), w, y, z, u] (mset M l (.lst [.int a', .int b', .int ((c : Int) + 1), .lst (cells.map D.int)])) := fun b' a' w u h1 h2 h3 =>
      take_tail Z m0 m1 h1 (by omega) hcells h2 h3 h
    have fin0 : dt__law_take Z { nx := fun _ M' => q .non M', rt := q } [some (.adr l), some (.int m), x, y, z, none] M := by
      rw [← hM2]; exact take_tail Z m0 m1 ha hc hcells hb hb2 h
    have em : ∀ t : Int, 0 ≤ t % 2147483647 ∧ t % 2147483647 < 18446744073709551615 := fun t => ⟨Int.emod_nonneg _ (by decide), Int.lt_trans (Int.emod_lt_of_pos _ (by decide)) (by decide)⟩
    have mu1 : MulOk b 48271 := .inl (.inr ⟨by decide, by decide⟩)
    have mu2 : MulOk 7919 ((c : Int) + 1) := .inl (.inl ⟨by decide, by decide⟩)
    walk_at "d"
    simp only [hM]
    walk_at "d"
    split
    · split
      · rename_i e1 e2
        have e3 : c < cells.length := by omega
        rw [gI e3]
        have e4 : 0 ≤ cells.getD c 0 := by
          rw [List.getD_eq_getElem?_getD, List.getElem?_eq_getElem e3]
          exact hcells _ (List.getElem_mem e3)
        walk_at "d"
        split
        · exact ⟨mu1, mu2, fin _ _ _ _ e4 (em _).1 (em _).2⟩
        · exact ⟨mu1, mu2, fin _ _ _ _ ha (em _).1 (em _).2⟩
      · exact ⟨mu1, mu2, fin _ _ _ _ ha (em _).1 (em _).2⟩
    · exact fin0
  exact main none none none

def db__law_parts (Z : Zs) : DS := (dSeq (dAsg (dOp oAdd (dC (.int 2)) (dCB kInt (dCons (dOp (oIn false) (dOp oIx (dVar 0) (dC (.int 0))) (dTup (dCons (dC (.str "tie")) (dCons (dC (.str "bar")) dNil)))) dNil))) (dName 1)) (dSeq (dAsg (dIf (dB (dOp oEq (dVar 1) (dC (.int 3)))) (dOp oIx (dVar 0) (dC (.int 2))) (dC .non)) (dName 2)) (dRet (dTup (dCons (dOp oIx (dVar 0) (dC (.int 1))) (dCons (dVar 2) (dCons (dOp oIx (dVar 0) (dVar 1)) (dCons (dOp oIx (dVar 0) (dOp oAdd (dVar 1) (dC (.int 1)))) (dCons (dIf (dB (dOp (oIn false) (dOp oIx (dVar 0) (dC (.int 0))) (dTup (dCons (dC (.str "wish")) (dCons (dC (.str "tie")) dNil))))) (dOp oIx (dVar 0) (dUn oNeg (dC (.int 1)))) (dC .non)) dNil)))))))))
def oiD (b : Bool) (i : Int) : D := if b then .int i else .non
def df__law_parts (Z : Zs) : DF := fun ds M q xq => ∃ t : Tm, ds = [t.D] ∧ q (.tup [.int t.dial, optD t.oth, .int t.lo, .int t.hi, oiD t.pull t.force]) M
theorem sem__law_parts (Z : Zs) : ∀ ds M q xq, ds.length = 1 → df__law_parts Z ds M q xq → db__law_parts Z { nx := fun _ M' => q .non M', rt := q } (ds.map some ++ List.replicate 2 none) M := by
  rintro _ M q xq - ⟨t, rfl, h⟩
  unfold db__law_parts
  cases t <;> simp only [Tm.D] <;> walk_at "d" <;> exact h

def db__law_argument (Z : Zs) : DS := (dSeq (dAsg (dCall 1 (df__law_parts Z) noX (dCons (dVar 0) dNil)) (dUnp 5 (dgCons (dName 2) (dgCons (dName 3) (dgCons (dName 4) (dgCons (dName 5) (dgCons (dName 6) dgNil))))))) (dRet (dIf (dB (dOp (oIsN fun k => k) (dVar 3) (dC .non))) (dOp oIx (dVar 1) (dVar 2)) (dOp oSub (dOp oIx (dVar 1) (dVar 2)) (dOp oIx (dVar 1) (dVar 3))))))
def df__law_argument (Z : Zs) : DF := fun ds M q xq => ∃ (t : Tm) (s : List Int), ds = [t.D, sD s] ∧ t.inSize s.length ∧ q (.int (t.arg s)) M
theorem sem__law_argument (Z : Zs) : ∀ ds M q xq, ds.length = 2 → df__law_argument Z ds M q xq → db__law_argument Z { nx := fun _ M' => q .non M', rt := q } (ds.map some ++ List.replicate 5 none) M := by
  rintro _ M q xq - ⟨t, s, rfl, ⟨h1, h2⟩, h⟩
  unfold db__law_argument
  walk_at "d"
  refine ⟨t, rfl, ?_⟩
  unfold Tm.arg at h
  cases ho : t.oth with
  | none => rw [ho] at h; simp only [optD, sD]; walk_at "d"; rw [gI h1]; simp only [Int.sub_zero] at h; exact h
  | some o => rw [ho] at h; simp only [optD, sD]; walk_at "d"; rw [gI h1, gI (h2 o ho)]; exact h

def db__law_far (Z : Zs) : DS := (dSeq (dAsg (dSl (dCall 1 (df__law_parts Z) noX (dCons (dVar 0) dNil)) (dPart (dC (.int 2))) (dPart (dC (.int 4)))) (dUnp 2 (dgCons (dName 2) (dgCons (dName 3) dgNil)))) (dSeq (dIfS (dB (dOp oLt (dVar 1) (dVar 2))) (dRet (dOp oSub (dVar 2) (dVar 1))) dNext) (dRet (dIf (dB (dOp oGt (dVar 1) (dVar 3))) (dOp oSub (dVar 1) (dVar 3)) (dC (.int 0))))))
def farOf (t : Tm) (x : Int) : Int := if x < t.lo then t.lo - x else if t.hi < x then x - t.hi else 0
def df__law_far (Z : Zs) : DF := fun ds M q xq => ∃ (t : Tm) (x : Int), ds = [t.D, .int x] ∧ q (.int (farOf t x)) M
theorem sem__law_far (Z : Zs) : ∀ ds M q xq, ds.length = 2 → df__law_far Z ds M q xq → db__law_far Z { nx := fun _ M' => q .non M', rt := q } (ds.map some ++ List.replicate 2 none) M := by
  rintro _ M q xq - ⟨t, x, rfl, h⟩
  unfold db__law_far
  walk_at "d"
  refine ⟨t, rfl, ?_⟩
  walk_at "d"
  unfold farOf at h
  split
  · rename_i c; rw [if_pos c] at h; exact h
  · rename_i c; rw [if_neg c] at h
    split
    · rename_i c2; rw [if_pos c2] at h; exact h
    · rename_i c2; rw [if_neg c2] at h; exact h

def db__law_number (Z : Zs) : DS := (dRet (dOp oSub (dCall 2 (df__law_take Z) noX (dCons (dVar 0) (dCons (dOp oAdd (dOp oMul (dC (.int 2)) (dVar 1)) (dC (.int 1))) dNil))) (dVar 1)))
def df__law_number (Z : Zs) : DF := fun ds M q xq => ∃ (l : Addr) (m : Nat) (o : MO), ds = [.adr l, .int m] ∧ m ≤ 1000000000000000000 ∧ M l = some o ∧ BagO o ∧ ∀ v o', BagO o' → -(m : Int) ≤ v → v ≤ m → q (.int v) (mset M l o')
theorem log_lt {m : Int} (h0 : 0 ≤ m) (h : m < 18446744073709551616) : m.natAbs.log2 < 9000 := by
  by_cases c : m.natAbs = 0
  · rw [c]; decide
  · have e : m.natAbs < 2 ^ 64 := by omega
    exact Nat.lt_of_lt_of_le ((Nat.log2_lt c).mpr e) (by decide)
theorem sem__law_number (Z : Zs) : ∀ ds M q xq, ds.length = 2 → df__law_number Z ds M q xq → db__law_number Z { nx := fun _ M' => q .non M', rt := q } (ds.map some ++ List.replicate 0 none) M := by
  rintro _ M q xq - ⟨l, m, o, rfl, m1, hM, hO, h⟩
  unfold db__law_number
  walk_at "d"
  refine ⟨.inl (.inl (by decide)), l, _, o, rfl, by omega, log_lt (by omega) (by omega), hM, hO, fun v o' ho' v0 v1 => ?_⟩
  walk_at "d"
  exact h _ _ ho' (by omega) (by omega)
end DL

set_option Elab.async false
set_option linter.all false
set_option maxRecDepth 100000
set_option maxHeartbeats 1000000
namespace DL
open PySem L2 PyProof.Rows
local macro_rules | `(tactic| walk_at "d") => `(tactic| simp only [dSeq, dAsg, dRet, dRetN, dIfS, dNext, dVar, dC, dOp, dUn, dB, dTru, dAnd, dOr, dNot, dIf, dAndV, dOrV, dNotV, dNil, dCons, dTup, dLst, dLstL, dLstM, dCall, dCB, dName, dgNil, dgCons, dUnp, dPar, dPar3, dAug, dSl, dPart, dNoPart, dChain, dDrop, dFor, dSeqI, dRg1, dRg2, dEnum, dZip, dStrI, dOfL, dOfM, dLcL, dYes, dwipe, dBM, mAppend, dSub, dAugSub, dFrz, frz, dMeth, dMake, dFld, dSetFld, insOf, putD, dRevL, dSortSet, dInD, dPutD, dGet, dDisp1T, oI, oIC, oU, oSub, oMod, oDiv, oNeg, oLt, oLe, oGt, oGe, oEq, oNe, kAll, kAny, kMax2, kMin2, kSorted, oAdd, oMul, oIx, oSl, oIn, oIsN, oEqW, sEq, kLen, kAbs, kTwo, kMax3, kInt, kStr, kList, kTuple, kIsi, kInts, kBools, kSumP, kSortedD, tyName, seqItems, items, mset_same, mset_mset, mdel_mset,
  List.map, List.replicate, List.cons_append, List.nil_append, List.set, List.getElem?_cons_zero, List.getElem?_cons_succ, List.length_cons, List.length_nil, Nat.zero_add, Nat.reduceAdd, true_and, and_true, and_self, atI0, atI_pos, Int.reduceLE, Int.reduceLT, Int.natCast_nonneg, Int.toNat_natCast, Int.reduceToNat, Int.reduceNeg, Int.reduceAdd, Int.reduceSub, Int.reduceMul, atI_m1, line_le, line_lt, Nat.ble, flatD, inD, eqDb_ii, eqDb_ss, inD_nats, flat_nats, Int.zero_add, List.lookup, List.mem_cons, true_or, List.length_map, List.all_cons, List.all_nil, List.any_cons, List.any_nil, str_beq, str_dec, str_inj, all_true, String.reduceBEq, String.reduceEq, Int.reduceBEq, Bool.and_true, Bool.true_and, Bool.and_self, Bool.or_false, Bool.false_or, Bool.or_true, Bool.true_or, Bool.and_false, Bool.false_and, Bool.not_true, Bool.not_false, Bool.false_eq_true, if_true, if_false, ite_true, ite_false, reduceIte, Nat.reduceLeDiff, Nat.reduceLT, decide_true, decide_false, Int.cast_ofNat_Int, Option.some.injEq, exists_eq_left', exists_eq_left, exists_and_left, kit_ii, kit_ib, kit_tt, kit_ss, kit_ll, ixN_lit, cut_pp, cut_np, cut_pn, List.drop_succ_cons, List.drop_zero, List.take_succ_cons, List.take_zero, List.take_nil, List.getLast?_cons_cons, List.getLast?_singleton, Nat.reduceSub, Nat.sub_zero, decide_eq_true_eq, Int.reduceEq, Int.reduceNe, Nat.reduceEqDiff])
/-! ### groups -/
def gP (g : List Nat) : PyData := .list (g.map fun i : Nat => PyData.int i)
def subs : Nat → List (List Nat)
  | 0 => [[]]
  | n + 1 => subs n ++ (subs n).map (· ++ [n])
theorem subs_len : ∀ n, (subs n).length = 2 ^ n
  | 0 => rfl
  | n + 1 => by rw [subs, List.length_append, List.length_map, subs_len n, Nat.pow_succ]; omega
theorem subs_lt : ∀ {n : Nat} {g : List Nat}, g ∈ subs n → ∀ i ∈ g, i < n
  | 0, g, h, i, hi => by
    rw [subs, List.mem_singleton] at h
    subst h
    cases hi
  | n + 1, g, h, i, hi => by
    rw [subs, List.mem_append, List.mem_map] at h
    rcases h with h | ⟨g', h, rfl⟩
    · have := subs_lt h i hi; omega
    · rw [List.mem_append, List.mem_singleton] at hi
      rcases hi with hi | hi
      · have := subs_lt h i hi; omega
      · omega
theorem subs_filter (p : Nat → Bool) : ∀ n, (List.range n).filter p ∈ subs n
  | 0 => by rw [subs, List.range_zero]; exact List.mem_singleton.mpr rfl
  | n + 1 => by
    have ih := subs_filter p n
    rw [List.range_succ, List.filter_append, subs, List.mem_append]
    cases h : p n with
    | false => left; simpa [List.filter_cons, h] using ih
    | true => right; exact List.mem_map.mpr ⟨_, ih, by simp [List.filter_cons, h]⟩
theorem pys_grp : ∀ g : List Nat, D.pys (g.map fun i : Nat => D.int i) = some (g.map fun i : Nat => PyData.int i)
  | [] => rfl
  | i :: g => by
    rw [List.map_cons, D.pys, pys_grp g]
    rfl
theorem pys_grps : ∀ gs : List (List Nat), D.pys (gs.map gD) = some (gs.map gP)
  | [] => rfl
  | g :: gs => by
    rw [List.map_cons, D.pys, pys_grps gs]
    simp only [gD, D.py, pys_grp, Option.map_some]
    rfl
theorem alike_ints : ∀ g h : List Nat, PySem.W.alikeAll (g.map fun i : Nat => PyData.int i) (h.map fun i : Nat => PyData.int i) = true
  | [], _ => by simp [PySem.W.alikeAll]
  | _ :: _, [] => by simp [PySem.W.alikeAll]
  | i :: g, j :: h => by
    rw [List.map_cons, List.map_cons, PySem.W.alikeAll, alike_ints g h]
    rfl
theorem grps_alike (gs : List (List Nat)) : PySem.W.AllAlike (gs.map gP) := by
  intro d hd e he
  obtain ⟨g, _, rfl⟩ := List.mem_map.mp hd
  obtain ⟨h, _, rfl⟩ := List.mem_map.mp he
  exact alike_ints g h
theorem grps_sortable (gs : List (List Nat)) : PySem.W.Sortable (gs.map gP) := by
  refine .inr fun d hd => ?_
  obtain ⟨g, _, rfl⟩ := List.mem_map.mp hd
  exact ⟨nofun, nofun⟩
theorem depth_ints : ∀ g : List Nat, PyData.depthAll (g.map fun i : Nat => PyData.int i) = 0
  | [] => rfl
  | i :: g => by
    rw [List.map_cons, PyData.depthAll, depth_ints g]
    rfl
theorem grps_depth (gs : List (List Nat)) : ∀ p ∈ gs.map gP, p.depth ≤ 20 := by
  intro d hd
  obtain ⟨g, _, rfl⟩ := List.mem_map.mp hd
  show PyData.depthAll _ + 1 ≤ 20
  rw [depth_ints]
  decide
def gLe (a b : List Nat) : Bool := PySem.W.dataLe false gP a b
theorem dsort_grps (gs : List (List Nat)) : dsort (gs.map gD) (gs.map gP) = (gs.mergeSort gLe).map gD := by
  unfold dsort
  rw [List.zip_map']
  have hm := List.map_mergeSort (r := gLe) (s := PySem.W.dataLe false fun t : D × PyData => t.2) (f := fun g : List Nat => (gD g, gP g)) (l := gs) fun _ _ _ _ => rfl
  rw [← hm, List.map_map]
  rfl
theorem gLe_nil {g : List Nat} (h : gLe g [] = true) : g = [] := by
  cases g with
  | nil => rfl
  | cons i g =>
    have e : PySem.W.dataLt (gP []) (gP (i :: g)) = true := by
      show PyProof.Rows.lexLt PyProof.Rows.itemOrd (PySem.W.keyToks (gP [])) (PySem.W.keyToks (gP (i :: g))) = true
      simp only [gP, List.map_nil, List.map_cons, PySem.W.keyToks, PySem.W.keyToksAll, PyProof.Rows.lexLt]
      rfl
    have e2 : gLe (i :: g) [] = !PySem.W.dataLt (gP []) (gP (i :: g)) := rfl
    rw [e2, e] at h
    cases h
theorem sorted_grps {gs : List (List Nat)} (h : [] ∈ gs) : ∃ r, gs.mergeSort gLe = [] :: r ∧ ([] :: r).Perm gs := by
  have hp : (gs.mergeSort gLe).Perm gs := List.mergeSort_perm gs gLe
  have hT : PySem.W.TotalLe gLe := PySem.W.sortLe_total (PyProof.Rows.listOrd PyProof.Rows.itemOrd) false fun b => PySem.W.keyToks (gP b)
  have hs : (gs.mergeSort gLe).Pairwise (fun a b => gLe a b = true) := List.pairwise_mergeSort (fun a b c h1 h2 => hT.trans a b c h1 h2) (fun a b => by rcases hT.total a b with h | h <;> simp [h]) gs
  cases e : gs.mergeSort gLe with
  | nil => rw [e] at hp; have := hp.mem_iff.mpr h; cases this
  | cons x r =>
    rw [e] at hp hs
    have hx : x = [] := by
      rcases List.mem_cons.mp (hp.mem_iff.mpr h) with z | z
      · exact z.symm
      · exact gLe_nil ((List.pairwise_cons.mp hs).1 _ z)
    subst hx
    exact ⟨r, rfl, hp⟩
theorem subs_glen : ∀ {n : Nat} {g : List Nat}, g ∈ subs n → g.length ≤ n
  | 0, g, h => by
    rw [subs, List.mem_singleton] at h
    subst h
    exact Nat.le_refl 0
  | n + 1, g, h => by
    rw [subs, List.mem_append, List.mem_map] at h
    rcases h with h | ⟨g', h, rfl⟩
    · have := subs_glen h; omega
    · have := subs_glen h
      rw [List.length_append]
      show _ + 1 ≤ _
      omega
theorem nil_subs : ∀ n, [] ∈ subs n
  | 0 => List.mem_singleton.mpr rfl
  | n + 1 => List.mem_append_left _ (nil_subs n)

def db__law_groups (Z : Zs) : DS := (dSeq (dAsg (dLst (dCons (dLst dNil) dNil)) (dName 1)) (dSeq (dFor (dRg1 (dCons (dVar 0) dNil)) (dName 2) (dAsg (dOp oAdd (dVar 1) (dOfL (dLcL (dSeqI (dVar 1)) (dName 3) dYes (dOp oAdd (dVar 3) (dLst (dCons (dVar 2) dNil))) [3]))) (dName 1))) (dRet (dSl (dCB kSortedD (dCons (dVar 1) dNil)) (dPart (dC (.int 1))) dNoPart))))
def df__law_groups (Z : Zs) : DF := fun ds M q xq => ∃ (n : Nat), ds = [.int n] ∧ n ≤ 8 ∧ ∀ gs : List (List Nat), ([] :: gs).Perm (subs n) → q (.lst (gs.map gD)) M
theorem sem__law_groups (Z : Zs) : ∀ ds M q xq, ds.length = 1 → df__law_groups Z ds M q xq → db__law_groups Z { nx := fun _ M' => q .non M', rt := q } (ds.map some ++ List.replicate 3 none) M := by
  rintro _ M q xq - ⟨n, rfl, h8, h⟩
  unfold db__law_groups
  walk_at "d"
  refine ⟨by omega, by omega, ?_⟩
  refine loop_ind (fun i δ M' => M' = M ∧ ∃ x y, δ = [some (.int n), some (.lst ((subs i).map gD)), x, y]) (fun i d e δ M' hI K hK => ?_) ⟨rfl, _, _, rfl⟩ fun δ M' hI => ?_
  · obtain ⟨rfl, x, y, rfl⟩ := hI
    obtain ⟨hi, rfl⟩ := rgD_get' e
    have hi8 : i < 8 := by omega
    have hl : (subs i).length ≤ 256 := by
      rw [subs_len]
      have z : 2 ^ i ≤ 2 ^ 8 := Nat.pow_le_pow_right (by decide) (by omega)
      exact z
    walk_at "d"
    refine comp_map (fun g => gD (g ++ [i])) (by omega) (fun g hg acc ha K2 hK2 => ?_) ?_
    · have hgl := subs_glen hg
      unfold gD
      walk_at "d"
      refine ⟨by rw [sizeLine_eq]; omega, ha, ?_⟩
      rw [show (g.map fun i : Nat => D.int i) ++ [D.int (i : Nat)] = (g ++ [i]).map fun i : Nat => D.int i by rw [List.map_append]; rfl]
      exact hK2
    · walk_at "d"
      refine ⟨by rw [sizeLine_eq]; omega, hK _ _ ⟨rfl, some (.int i), y, ?_⟩⟩
      rw [subs, List.map_append, List.map_map]
      rfl
  · obtain ⟨rfl, x, y, rfl⟩ := hI
    rw [rgD_len]
    walk_at "d"
    refine ⟨_, pys_grps _, grps_alike _, grps_sortable _, grps_depth _, ?_⟩
    obtain ⟨r, e, hp⟩ := sorted_grps (nil_subs n)
    rw [dsort_grps, e]
    walk_at "d"
    exact h r hp
end DL

set_option Elab.async false
set_option linter.all false
set_option maxRecDepth 100000
set_option maxHeartbeats 1000000
namespace DL
open PySem L2 PyProof.Rows
local macro_rules | `(tactic| walk_at "d") => `(tactic| simp only [dSeq, dAsg, dRet, dRetN, dIfS, dNext, dVar, dC, dOp, dUn, dB, dTru, dAnd, dOr, dNot, dIf, dAndV, dOrV, dNotV, dNil, dCons, dTup, dLst, dLstL, dLstM, dCall, dCB, dName, dgNil, dgCons, dUnp, dPar, dPar3, dAug, dSl, dPart, dNoPart, dChain, dDrop, dFor, dSeqI, dRg1, dRg2, dEnum, dZip, dStrI, dOfL, dOfM, dLcL, dYes, dwipe, dBM, mAppend, dSub, dAugSub, dFrz, frz, dMeth, dMake, dFld, dSetFld, insOf, putD, dRevL, dSortSet, dInD, dPutD, dGet, dDisp1T, oI, oIC, oU, oSub, oMod, oDiv, oNeg, oLt, oLe, oGt, oGe, oEq, oNe, kAll, kAny, kMax2, kMin2, kSorted, oAdd, oMul, oIx, oSl, oIn, oIsN, oEqW, sEq, kLen, kAbs, kTwo, kMax3, kInt, kStr, kList, kTuple, kIsi, kInts, kBools, kSumP, kSortedD, tyName, seqItems, items, mset_same, mset_mset, mdel_mset,
  List.map, List.replicate, List.cons_append, List.nil_append, List.set, List.getElem?_cons_zero, List.getElem?_cons_succ, List.length_cons, List.length_nil, Nat.zero_add, Nat.reduceAdd, true_and, and_true, and_self, atI0, atI_pos, Int.reduceLE, Int.reduceLT, Int.natCast_nonneg, Int.toNat_natCast, Int.reduceToNat, Int.reduceNeg, Int.reduceAdd, Int.reduceSub, Int.reduceMul, atI_m1, line_le, line_lt, Nat.ble, flatD, inD, eqDb_ii, eqDb_ss, inD_nats, flat_nats, Int.zero_add, List.lookup, List.mem_cons, true_or, List.length_map, List.all_cons, List.all_nil, List.any_cons, List.any_nil, str_beq, str_dec, str_inj, all_true, String.reduceBEq, String.reduceEq, Int.reduceBEq, Bool.and_true, Bool.true_and, Bool.and_self, Bool.or_false, Bool.false_or, Bool.or_true, Bool.true_or, Bool.and_false, Bool.false_and, Bool.not_true, Bool.not_false, Bool.false_eq_true, if_true, if_false, ite_true, ite_false, reduceIte, Nat.reduceLeDiff, Nat.reduceLT, decide_true, decide_false, Int.cast_ofNat_Int, Option.some.injEq, exists_eq_left', exists_eq_left, exists_and_left, kit_ii, kit_ib, kit_tt, kit_ss, kit_ll, ixN_lit, cut_pp, cut_np, cut_pn, List.drop_succ_cons, List.drop_zero, List.take_succ_cons, List.take_zero, List.take_nil, List.getLast?_cons_cons, List.getLast?_singleton, Nat.reduceSub, Nat.sub_zero, decide_eq_true_eq, Int.reduceEq, Int.reduceNe, Nat.reduceEqDiff])
theorem zip_get {a b : List Int} {i : Nat} (h : a.length = b.length) (hi : i < a.length) : (List.zip a b)[i]? = some (a.getD i 0, b.getD i 0) := by
  rw [List.getElem?_zip_eq_some]
  exact ⟨by show a[i]? = some (a.getD i 0); rw [List.getD_eq_getElem?_getD, List.getElem?_eq_getElem hi]; rfl, by show b[i]? = some (b.getD i 0); rw [List.getD_eq_getElem?_getD, List.getElem?_eq_getElem (h ▸ hi)]; rfl⟩
theorem gaps_get {w : Int} {a b : List Int} {i : Nat} (h : a.length = b.length) (hi : i < a.length) : (gaps w a b)[i]? = some (w * (b.getD i 0 - a.getD i 0)) := by
  unfold gaps
  rw [List.getElem?_map, zip_get h hi]
  rfl
theorem gaps_len {w : Int} {a b : List Int} (h : a.length = b.length) : (gaps w a b).length = a.length := by
  unfold gaps
  rw [List.length_map, List.length_zip, h, Nat.min_self]
theorem gap_nn (w : Int) (a b : List Int) : 0 ≤ gap w a b := fmax_ge _ _
theorem gap_ge {w : Int} {a b : List Int} {i : Nat} (h : a.length = b.length) (hi : i < a.length) : w * (b.getD i 0 - a.getD i 0) ≤ gap w a b :=
  fmax_le _ _ _ (List.mem_of_getElem? (gaps_get h hi))
theorem gap_le {w m : Int} {a b : List Int} (h : a.length = b.length) (m0 : 0 ≤ m) (hm : ∀ i, i < a.length → w * (b.getD i 0 - a.getD i 0) ≤ m) : gap w a b ≤ m := by
  rcases fmax_mem (gaps w a b) 0 with e | e
  · show List.foldl max 0 (gaps w a b) ≤ m; omega
  · obtain ⟨i, hi⟩ := List.mem_iff_getElem?.mp e
    have hl := (List.getElem?_eq_some_iff.mp hi).1
    rw [gaps_len h] at hl
    rw [gaps_get h hl] at hi
    have := hm i hl
    cases hi2 : (some (w * (b.getD i 0 - a.getD i 0)) : Option Int) with
    | none => cases hi2
    | some z =>
      rw [hi2] at hi
      have e1 : z = gap w a b := Option.some.inj hi
      have e2 : w * (b.getD i 0 - a.getD i 0) = z := Option.some.inj hi2
      omega
/-- one step of a group -/
def stepOf (s : List Int) (w : Int) (g : List Nat) : List Int := (List.range s.length).map fun i => s.getD i 0 + w * (if i ∈ g then 1 else 0)
theorem stepOf_len (s : List Int) (w : Int) (g : List Nat) : (stepOf s w g).length = s.length := by
  unfold stepOf
  rw [List.length_map, List.length_range]
theorem stepOf_get {s : List Int} {w : Int} {g : List Nat} {i : Nat} (h : i < s.length) : (stepOf s w g).getD i 0 = s.getD i 0 + w * (if i ∈ g then 1 else 0) := by
  unfold stepOf
  rw [List.getD_eq_getElem?_getD, List.getElem?_map, List.getElem?_range h]
  rfl
theorem gap_step {a s : List Int} {w : Int} {g : List Nat} (h : a.length = s.length) (hw : w = 1 ∨ w = -1) : gap 1 a (stepOf s w g) + gap (-1) a (stepOf s w g) ≤ gap 1 a s + gap (-1) a s + 1 := by
  have h2 : a.length = (stepOf s w g).length := by rw [stepOf_len]; exact h
  have n1 := gap_nn 1 a s
  have n2 := gap_nn (-1) a s
  rcases hw with rfl | rfl
  · have x1 : gap 1 a (stepOf s 1 g) ≤ gap 1 a s + 1 := gap_le h2 (by omega) fun i hi => by
      rw [stepOf_get (h ▸ hi)]
      have := gap_ge (w := 1) h hi
      split <;> omega
    have x2 : gap (-1) a (stepOf s 1 g) ≤ gap (-1) a s := gap_le h2 n2 fun i hi => by
      rw [stepOf_get (h ▸ hi)]
      have := gap_ge (w := -1) h hi
      split <;> omega
    omega
  · have x1 : gap 1 a (stepOf s (-1) g) ≤ gap 1 a s := gap_le h2 n1 fun i hi => by
      rw [stepOf_get (h ▸ hi)]
      have := gap_ge (w := 1) h hi
      split <;> omega
    have x2 : gap (-1) a (stepOf s (-1) g) ≤ gap (-1) a s + 1 := gap_le h2 (by omega) fun i hi => by
      rw [stepOf_get (h ▸ hi)]
      have := gap_ge (w := -1) h hi
      split <;> omega
    omega
theorem gap_self (w : Int) (a : List Int) : gap w a a = 0 := by
  have h : gap w a a ≤ 0 := gap_le rfl (Int.le_refl 0) fun i hi => by rw [Int.sub_self, Int.mul_zero]; exact Int.le_refl 0
  have := gap_nn w a a
  omega

def db__law_stepped (Z : Zs) : DS := (dRet (dCB kTuple (dCons (dOfL (dLcL (dRg1 (dCons (dCB kLen (dCons (dVar 0) dNil)) dNil)) (dName 3) dYes (dOp oAdd (dOp oIx (dVar 0) (dVar 3)) (dOp oMul (dVar 1) (dCB kInt (dCons (dOp (oIn false) (dVar 3) (dVar 2)) dNil)))) [3])) dNil)))
def df__law_stepped (Z : Zs) : DF := fun ds M q xq => ∃ (s : List Int) (w : Int) (g : List Nat), ds = [sD s, .int w, gD g] ∧ s.length ≤ 8 ∧ q (sD (stepOf s w g)) M
theorem sem__law_stepped (Z : Zs) : ∀ ds M q xq, ds.length = 3 → df__law_stepped Z ds M q xq → db__law_stepped Z { nx := fun _ M' => q .non M', rt := q } (ds.map some ++ List.replicate 1 none) M := by
  rintro _ M q xq - ⟨s, w, g, rfl, h8, h⟩
  unfold db__law_stepped sD gD
  walk_at "d"
  refine ⟨by omega, by omega, ?_⟩
  unfold rgD
  refine comp_map (fun i : Nat => .int (s.getD i 0 + w * (if i ∈ g then 1 else 0))) (by rw [List.length_range]; omega) (fun i hi acc ha K hK => ?_) ?_
  · have hi2 := List.mem_range.mp hi
    walk_at "d"
    rw [gI (by omega)]
    walk_at "d"
    refine ⟨.inl (.inr (by split <;> decide)), ha, ?_⟩
    exact hK
  · have e : ((List.range s.length).map fun i : Nat => D.int (s.getD i 0 + w * (if i ∈ g then 1 else 0))) = (stepOf s w g).map D.int := by unfold stepOf; rw [List.map_map]; rfl
    rw [e]
    exact h

def db__law_left (Z : Zs) : DS := (dSeq (dFor (dRg1 (dCons (dCB kLen (dCons (dVar 0) dNil)) dNil)) (dName 2) (dSeq (dPar 3 4 (dCons (dCall 2 (df__law_far Z) noX (dCons (dOp oIx (dVar 0) (dVar 2)) (dCons (dCall 2 (df__law_argument Z) noX (dCons (dOp oIx (dVar 0) (dVar 2)) (dCons (dVar 1) dNil))) dNil))) (dCons (dOp oIx (dCall 1 (df__law_parts Z) noX (dCons (dOp oIx (dVar 0) (dVar 2)) dNil)) (dC (.int 4))) dNil))) (dIfS (dAnd (dB (dOp (oIsN fun k => k) (dVar 4) (dC .non))) (dB (dOp oGt (dVar 3) (dC (.int 0))))) (dRet (dVar 2)) dNext))) (dRet (dC .non)))
theorem far_pos {t : Tm} {x : Int} : (0 < farOf t x) ↔ 0 < t.dist x := by
  unfold farOf Tm.dist
  split
  · omega
  · split <;> omega
def df__law_left (Z : Zs) : DF := fun ds M q xq => ∃ (ts : List Tm) (s : List Int), ds = [.lst (ts.map Tm.D), sD s] ∧ ts.length ≤ 100 ∧ (∀ t ∈ ts, t.inSize s.length) ∧ q (optD (leftOf ts s)) M
theorem sem__law_left (Z : Zs) : ∀ ds M q xq, ds.length = 2 → df__law_left Z ds M q xq → db__law_left Z { nx := fun _ M' => q .non M', rt := q } (ds.map some ++ List.replicate 3 none) M := by
  rintro _ M q xq - ⟨ts, s, rfl, hl, hi, h⟩
  unfold db__law_left
  walk_at "d"
  refine ⟨by omega, by omega, ?_⟩
  refine loop_ind (fun i δ M' => M' = M ∧ (∃ a b c, δ = [some (.lst (ts.map Tm.D)), some (sD s), a, b, c]) ∧ ∀ t ∈ ts.take i, (!t.pull && decide (0 < t.dist (t.arg s))) = false) (fun i d e δ M' hI K hK => ?_) ⟨rfl, ⟨_, _, _, rfl⟩, by simp⟩ fun δ M' hI => ?_
  · obtain ⟨rfl, ⟨a, b, c, rfl⟩, hn⟩ := hI
    obtain ⟨hil, rfl⟩ := rgD_get' e
    have et : ts[i]? = some ts[i] := List.getElem?_eq_getElem hil
    have em : (ts.map Tm.D)[i]? = some (ts[i]).D := by rw [List.getElem?_map, et]; rfl
    have hm := List.getElem_mem hil
    generalize ts[i] = t at *
    walk_at "d"
    simp only [em]
    try walk_at "d"
    refine ⟨t, s, rfl, hi t hm, t, _, rfl, t, rfl, ?_⟩
    unfold oiD
    cases hp : t.pull with
    | true =>
      walk_at "d"
      exact hK _ _ ⟨rfl, ⟨_, _, _, rfl⟩, take_false hn et (by rw [hp]; rfl)⟩
    | false =>
      walk_at "d"
      split
      · rename_i z
        rw [leftOf_some hn et (by rw [hp, decide_eq_true (far_pos.mp z)]; rfl)] at h
        exact h
      · rename_i z
        exact hK _ _ ⟨rfl, ⟨_, _, _, rfl⟩, take_false hn et (by rw [decide_eq_false (fun y => z (far_pos.mpr y)), Bool.and_false])⟩
  · obtain ⟨rfl, ⟨a, b, c, rfl⟩, hn⟩ := hI
    rw [rgD_len, List.take_length] at hn
    rw [leftOf_none hn] at h
    walk_at "d"; exact h

def db__law_apart (Z : Zs) : DS := (dSeq (dAsg (dTup (dCons (dC (.int 0)) (dCons (dC (.int 0)) dNil))) (dUnp 2 (dgCons (dName 2) (dgCons (dName 3) dgNil)))) (dSeq (dFor (dRg1 (dCons (dCB kLen (dCons (dVar 0) dNil)) dNil)) (dName 4) (dPar 2 3 (dCons (dCB kMax2 (dCons (dVar 2) (dCons (dOp oSub (dOp oIx (dVar 1) (dVar 4)) (dOp oIx (dVar 0) (dVar 4))) dNil))) (dCons (dCB kMax2 (dCons (dVar 3) (dCons (dOp oSub (dOp oIx (dVar 0) (dVar 4)) (dOp oIx (dVar 1) (dVar 4))) dNil))) dNil)))) (dRet (dTup (dCons (dVar 2) (dCons (dVar 3) dNil))))))
def df__law_apart (Z : Zs) : DF := fun ds M q xq => ∃ (a b : List Int), ds = [sD a, sD b] ∧ a.length = b.length ∧ a.length ≤ 8 ∧ q (.tup [.int (gap 1 a b), .int (gap (-1) a b)]) M
theorem fmax_snoc (xs : List Int) (x m : Int) : (xs ++ [x]).foldl max m = max (xs.foldl max m) x := by rw [List.foldl_append]; rfl
theorem max_py (i j : Int) : (if j > i then j else i) = max i j := by split <;> omega
theorem sem__law_apart (Z : Zs) : ∀ ds M q xq, ds.length = 2 → df__law_apart Z ds M q xq → db__law_apart Z { nx := fun _ M' => q .non M', rt := q } (ds.map some ++ List.replicate 3 none) M := by
  rintro _ M q xq - ⟨a, b, rfl, hab, h8, h⟩
  unfold db__law_apart sD
  walk_at "d"
  refine ⟨by omega, by omega, ?_⟩
  refine loop_ind (fun i δ M' => M' = M ∧ ∃ x, δ = [some (.tup (a.map D.int)), some (.tup (b.map D.int)), some (.int (((gaps 1 a b).take i).foldl max 0)), some (.int (((gaps (-1) a b).take i).foldl max 0)), x]) (fun i d e δ M' hI K hK => ?_) ⟨rfl, _, rfl⟩ fun δ M' hI => ?_
  · obtain ⟨rfl, x, rfl⟩ := hI
    obtain ⟨hil, rfl⟩ := rgD_get' e
    walk_at "d"
    rw [gI hil, gI (hab ▸ hil)]
    walk_at "d"
    refine hK _ _ ⟨rfl, some (.int i), ?_⟩
    rw [List.take_add_one, List.take_add_one, gaps_get hab hil, gaps_get hab hil]
    simp only [Option.toList, fmax_snoc, max_py]
    rw [show (1 : Int) * (b.getD i 0 - a.getD i 0) = b.getD i 0 - a.getD i 0 by omega, show (-1 : Int) * (b.getD i 0 - a.getD i 0) = a.getD i 0 - b.getD i 0 by omega]
  · obtain ⟨rfl, x, rfl⟩ := hI
    rw [rgD_len, List.take_of_length_le (by rw [gaps_len hab]; omega), List.take_of_length_le (by rw [gaps_len hab]; omega)]
    walk_at "d"
    exact h
end DL

set_option Elab.async false
set_option linter.all false
set_option maxRecDepth 100000
set_option maxHeartbeats 1000000
namespace DL
open PySem L2 PyProof.Rows
local macro_rules | `(tactic| walk_at "d") => `(tactic| simp only [dSeq, dAsg, dRet, dRetN, dIfS, dNext, dVar, dC, dOp, dUn, dB, dTru, dAnd, dOr, dNot, dIf, dAndV, dOrV, dNotV, dNil, dCons, dTup, dLst, dLstL, dLstM, dCall, dCB, dName, dgNil, dgCons, dUnp, dPar, dPar3, dAug, dSl, dPart, dNoPart, dChain, dDrop, dFor, dSeqI, dRg1, dRg2, dEnum, dZip, dStrI, dOfL, dOfM, dLcL, dYes, dwipe, dBM, mAppend, dSub, dAugSub, dFrz, frz, dMeth, dMake, dFld, dSetFld, insOf, putD, dRevL, dSortSet, dInD, dPutD, dGet, dDisp1T, oI, oIC, oU, oSub, oMod, oDiv, oNeg, oLt, oLe, oGt, oGe, oEq, oNe, kAll, kAny, kMax2, kMin2, kSorted, oAdd, oMul, oIx, oSl, oIn, oIsN, oEqW, sEq, kLen, kAbs, kTwo, kMax3, kInt, kStr, kList, kTuple, kIsi, kInts, kBools, kSumP, kSortedD, tyName, seqItems, items, mset_same, mset_mset, mdel_mset,
  List.map, List.replicate, List.cons_append, List.nil_append, List.set, List.getElem?_cons_zero, List.getElem?_cons_succ, List.length_cons, List.length_nil, Nat.zero_add, Nat.reduceAdd, true_and, and_true, and_self, atI0, atI_pos, Int.reduceLE, Int.reduceLT, Int.natCast_nonneg, Int.toNat_natCast, Int.reduceToNat, Int.reduceNeg, Int.reduceAdd, Int.reduceSub, Int.reduceMul, atI_m1, line_le, line_lt, Nat.ble, flatD, inD, eqDb_ii, eqDb_ss, inD_nats, flat_nats, Int.zero_add, List.lookup, List.mem_cons, true_or, List.length_map, List.all_cons, List.all_nil, List.any_cons, List.any_nil, str_beq, str_dec, str_inj, all_true, String.reduceBEq, String.reduceEq, Int.reduceBEq, Bool.and_true, Bool.true_and, Bool.and_self, Bool.or_false, Bool.false_or, Bool.or_true, Bool.true_or, Bool.and_false, Bool.false_and, Bool.not_true, Bool.not_false, Bool.false_eq_true, if_true, if_false, ite_true, ite_false, reduceIte, Nat.reduceLeDiff, Nat.reduceLT, decide_true, decide_false, Int.cast_ofNat_Int, Option.some.injEq, exists_eq_left', exists_eq_left, exists_and_left, kit_ii, kit_ib, kit_tt, kit_ss, kit_ll, ixN_lit, cut_pp, cut_np, cut_pn, List.drop_succ_cons, List.drop_zero, List.take_succ_cons, List.take_zero, List.take_nil, List.getLast?_cons_cons, List.getLast?_singleton, Nat.reduceSub, Nat.sub_zero, decide_eq_true_eq, Int.reduceEq, Int.reduceNe, Nat.reduceEqDiff])
theorem grps_len {gs : List (List Nat)} {n : Nat} (h : ([] :: gs).Perm (subs n)) : gs.length + 1 = 2 ^ n := by
  rw [← subs_len n, ← h.length_eq]; rfl

def db__law_wandered (Z : Zs) : DS := (dSeq (dAsg (dCall 1 (df__law_groups Z) noX (dCons (dCB kLen (dCons (dVar 2) dNil)) dNil)) (dName 4)) (dSeq (dFor (dRg1 (dCons (dCall 2 (df__law_take Z) noX (dCons (dVar 0) (dCons (dOp oAdd (dVar 3) (dC (.int 1))) dNil))) dNil)) (dName 5) (dSeq (dPar 6 7 (dCons (dOp oIx (dLst (dCons (dC (.int 1)) (dCons (dUn oNeg (dC (.int 1))) dNil))) (dCall 2 (df__law_take Z) noX (dCons (dVar 0) (dCons (dC (.int 2)) dNil)))) (dCons (dOp oIx (dVar 4) (dCall 2 (df__law_take Z) noX (dCons (dVar 0) (dCons (dCB kLen (dCons (dVar 4) dNil)) dNil)))) dNil))) (dSeq (dAsg (dCall 3 (df__law_stepped Z) noX (dCons (dVar 2) (dCons (dVar 6) (dCons (dVar 7) dNil)))) (dName 8)) (dIfS (dB (dOp (oIsN fun k => k) (dCall 2 (df__law_left Z) noX (dCons (dVar 1) (dCons (dVar 8) dNil))) (dC .non))) (dAsg (dVar 8) (dName 2)) dNext)))) (dRet (dVar 2))))
def df__law_wandered (Z : Zs) : DF := fun ds M q xq => ∃ (l : Addr) (o : MO) (ts : List Tm) (s : List Int) (m : Nat), ds = [.adr l, .lst (ts.map Tm.D), sD s, .int m] ∧ M l = some o ∧ BagO o ∧ m ≤ 100 ∧ ts.length ≤ 100 ∧ 1 ≤ s.length ∧ s.length ≤ 8 ∧ (∀ t ∈ ts, t.inSize s.length) ∧ leftOf ts s = none ∧
  ∀ (s' : List Int) (o' : MO), BagO o' → s'.length = s.length → leftOf ts s' = none → gap 1 s s' + gap (-1) s s' ≤ m → q (sD s') (mset M l o')
theorem sem__law_wandered (Z : Zs) : ∀ ds M q xq, ds.length = 4 → df__law_wandered Z ds M q xq → db__law_wandered Z { nx := fun _ M' => q .non M', rt := q } (ds.map some ++ List.replicate 5 none) M := by
  rintro _ M q xq - ⟨l, o, ts, s, m, rfl, hM, hO, hm, hl, s1, s8, hi, hs, h⟩
  unfold db__law_wandered
  walk_at "d"
  have es : ∀ t : List Int, sD t = .tup (t.map D.int) := fun _ => rfl
  simp only [es]
  walk_at "d"
  refine ⟨s.length, rfl, s8, fun gs hgs => ?_⟩
  have hgl := grps_len hgs
  have hg2 : 2 ^ s.length ≤ 2 ^ 8 := Nat.pow_le_pow_right (by decide) s8
  have hg3 : 2 ^ 1 ≤ 2 ^ s.length := Nat.pow_le_pow_right (by decide) s1
  refine ⟨l, _, o, rfl, by omega, log_lt (by omega) (by omega), hM, hO, fun v o1 ho1 v0 v1 => ?_⟩
  walk_at "d"
  refine ⟨by omega, by omega, ?_⟩
  refine loop_ind (fun i δ M' => ∃ (s' : List Int) (o' : MO) (x y z u : Option D), M' = mset M l o' ∧ BagO o' ∧ s'.length = s.length ∧ leftOf ts s' = none ∧ gap 1 s s' + gap (-1) s s' ≤ i ∧
    δ = [some (.adr l), some (.lst (ts.map Tm.D)), some (sD s'), some (.int m), some (.lst (gs.map gD)), x, y, z, u]) (fun i d e δ M' hI K hK => ?_) ⟨s, o1, _, _, _, _, rfl, ho1, rfl, hs, by rw [gap_self, gap_self]; exact Int.le_refl _, rfl⟩ fun δ M' hI => ?_
  · obtain ⟨s', o', x, y, z, u, rfl, ho', hl', hs', hg, rfl⟩ := hI
    obtain ⟨hil, rfl⟩ := rgD_get' e
    walk_at "d"
    refine ⟨l, _, o', rfl, by decide, by decide, mset_same, ho', fun v2 o2 ho2 a0 a1 => ?_⟩
    walk_at "d"
    have e2 : ∃ w : Int, (w = 1 ∨ w = -1) ∧ atI [D.int 1, D.int (-1)] v2 = some (.int w) := by
      obtain rfl | rfl : v2 = 0 ∨ v2 = 1 := by omega
      · exact ⟨1, .inl rfl, rfl⟩
      · exact ⟨-1, .inr rfl, rfl⟩
    obtain ⟨w, hw, e2⟩ := e2
    rw [e2]
    walk_at "d"
    refine ⟨l, _, o2, rfl, by omega, log_lt (by omega) (by omega), mset_same, ho2, fun v3 o3 ho3 b0 b1 => ?_⟩
    walk_at "d"
    obtain ⟨j, rfl⟩ := Int.eq_ofNat_of_zero_le b0
    have hj : j < gs.length := by omega
    have e3 : atI (gs.map gD) (j : Int) = some (gD gs[j]) := atI_map (List.getElem?_eq_getElem hj)
    rw [atI_nat'] at e3
    walk_at "d"
    simp only [e3]
    refine ⟨s', w, gs[j], rfl, by omega, ?_⟩
    refine ⟨ts, _, rfl, hl, by rw [stepOf_len, hl']; exact hi, ?_⟩
    cases hL : leftOf ts (stepOf s' w gs[j]) with
    | none =>
      unfold optD
      walk_at "d"
      refine hK _ _ ⟨stepOf s' w gs[j], o3, _, _, _, _, rfl, ho3, by rw [stepOf_len, hl'], hL, ?_, rfl⟩
      have := gap_step (g := gs[j]) hl'.symm hw
      omega
    | some k =>
      unfold optD
      walk_at "d"
      refine hK _ _ ⟨s', o3, _, _, _, _, rfl, ho3, hl', hs', by omega, rfl⟩
  · obtain ⟨s', o', x, y, z, u, rfl, ho', hl', hs', hg, rfl⟩ := hI
    rw [rgD_len] at hg
    walk_at "d"
    exact h s' o' ho' hl' hs' (by omega)

theorem mset_swap {M : Mh} {l p : Addr} {o o' X : MO} (h : l ≠ p) : mset (mset (mset M l o) p X) l o' = mset (mset M l o') p X := by
  rw [mset_comm h, mset_mset, mset_comm h.symm]
/-- what the drawn terms are -/
structure NearOk (n : Nat) (s : List Int) (t : Tm) : Prop where
  ok : t.ok n
  at_ : (!t.pull && decide (0 < t.dist (t.arg s))) = false
def dn__law_near (Z : Zs) : DS := (dIfS (dAnd (dB (dOp (oIn false) (dVar 8) (dTup (dCons (dC (.int 3)) (dCons (dC (.int 7)) dNil))))) (dB (dChain oLe oLe (dUn oNeg (dVar 2)) (dVar 12) (dVar 2)))) (dDrop (dBM mAppend (dVar 3) (dCons (dOp oAdd (dOp oAdd (dTup (dCons (dOp oIx (dLst (dCons (dC (.str "stop")) (dCons (dC (.str "bar")) dNil))) (dOp oSub (dCB kLen (dCons (dVar 11) dNil)) (dC (.int 1)))) dNil)) (dVar 11)) (dTup (dCons (dCB kMin2 (dCons (dVar 9) (dCons (dVar 12) dNil))) (dCons (dCB kMax2 (dCons (dVar 10) (dCons (dVar 12) dNil))) dNil)))) dNil))) (dDrop (dBM mAppend (dVar 3) (dCons (dOp oAdd (dOp oAdd (dTup (dCons (dOp oIx (dLst (dCons (dC (.str "wish")) (dCons (dC (.str "tie")) dNil))) (dOp oSub (dCB kLen (dCons (dVar 11) dNil)) (dC (.int 1)))) dNil)) (dVar 11)) (dTup (dCons (dVar 9) (dCons (dVar 10) (dCons (dOp oAdd (dC (.int 1)) (dCall 2 (df__law_take Z) noX (dCons (dVar 0) (dCons (dVar 5) dNil)))) dNil))))) dNil))))
theorem min_py (i j : Int) : (if j < i then j else i) = min i j := by split <;> omega
theorem near_tail (Z : Zs) {M0 : Mh} {l p : Addr} {o : MO} {n : Nat} {sc mo wy lo hi v : Int} {hd : List Nat} {s : List Int} {ts : List Tm} {x y z : Option D} {K : DEnv → Mh → Prop} {DD : DEnds}
    (hlp : l ≠ p) (hO : BagO o) (hsc : 0 ≤ sc ∧ sc ≤ 3) (hmo : 1 ≤ mo ∧ mo ≤ 30) (hlo : -sc ≤ lo) (hhi : hi ≤ sc) (hlh : lo ≤ hi) (hlen : ts.length ≤ 100)
    (hhd : (∃ d, hd = [d] ∧ d < n ∧ v = s.getD d 0) ∨ ∃ d e, hd = [d, e] ∧ d < n ∧ e < n ∧ d ≠ e ∧ v = s.getD d 0 - s.getD e 0)
    (k : ∀ (t : Tm) (o' : MO), BagO o' → NearOk n s t → K [some (.adr l), some (.int n), some (.int sc), some (.adr p), some (sD s), some (.int mo), x, y, some (.int wy), some (.int lo), some (.int hi), some (.tup (hd.map fun i : Nat => .int i)), some (.int v), z] (mset (mset M0 l o') p (.lst ((ts ++ [t]).map Tm.D)))) :
    dn__law_near Z { nx := K, rt := DD.rt, bk := DD.bk, ct := K } [some (.adr l), some (.int n), some (.int sc), some (.adr p), some (sD s), some (.int mo), x, y, some (.int wy), some (.int lo), some (.int hi), some (.tup (hd.map fun i : Nat => .int i)), some (.int v), z] (mset (mset M0 l o) p (.lst (ts.map Tm.D))) := by
  have hM : (mset (mset M0 l o) p (.lst (ts.map Tm.D))) l = some o := by rw [mset_ne hlp, mset_same]
  have hmp : ∀ o X, (mset (mset M0 l o) p X) p = some X := fun o X => mset_same
  unfold dn__law_near
  rcases hhd with ⟨d, rfl, hd, hv⟩ | ⟨d, e, rfl, hd, he, hne, hv⟩
  · walk_at "d"
    have hW : ∀ v2 : Int, 0 ≤ v2 → v2 < mo → NearOk n s (.wish d lo hi (1 + v2)) := fun v2 a0 a1 => ⟨⟨⟨hd, nofun⟩, nofun, by simp only [Tm.lo]; omega, by simp only [Tm.hi]; omega, hlh, fun _ => by simp only [Tm.force]; omega⟩, rfl⟩
    split
    · split
      · split
        · rename_i c1 c2 c3
          refine ⟨⟨_, rfl⟩, by rw [sizeLine_eq]; omega, ?_⟩
          have z := k (.stop d (min lo v) (max hi v)) o hO ⟨⟨⟨hd, nofun⟩, nofun, by simp only [Tm.lo]; omega, by simp only [Tm.hi]; omega, by simp only [Tm.lo, Tm.hi]; omega, nofun⟩, by
            simp only [Tm.pull, Tm.dist, Tm.arg, Tm.dial, Tm.oth, Tm.lo, Tm.hi, ← hv, Int.sub_zero, Bool.not_false, Bool.true_and, decide_eq_false_iff_not]; omega⟩
          rw [List.map_append] at z
          simp only [min_py, max_py]
          exact z
        · refine ⟨⟨_, rfl⟩, l, _, o, rfl, by omega, log_lt (by omega) (by omega), hM, hO, fun v2 o2 ho2 a0 a1 => ?_⟩
          rw [mset_swap hlp]
          walk_at "d"
          have z := k _ o2 ho2 (hW v2 a0 a1)
          rw [List.map_append] at z
          exact ⟨by rw [sizeLine_eq]; omega, z⟩
      · refine ⟨⟨_, rfl⟩, l, _, o, rfl, by omega, log_lt (by omega) (by omega), hM, hO, fun v2 o2 ho2 a0 a1 => ?_⟩
        rw [mset_swap hlp]
        walk_at "d"
        have z := k _ o2 ho2 (hW v2 a0 a1)
        rw [List.map_append] at z
        exact ⟨by rw [sizeLine_eq]; omega, z⟩
    · refine ⟨⟨_, rfl⟩, l, _, o, rfl, by omega, log_lt (by omega) (by omega), hM, hO, fun v2 o2 ho2 a0 a1 => ?_⟩
      rw [mset_swap hlp]
      walk_at "d"
      have z := k _ o2 ho2 (hW v2 a0 a1)
      rw [List.map_append] at z
      exact ⟨by rw [sizeLine_eq]; omega, z⟩
  · walk_at "d"
    have he2 : ∀ o2 : Nat, some e = some o2 → o2 < n := fun o2 q => by cases q; exact he
    have hn2 : ∀ o2 : Nat, some e = some o2 → d ≠ o2 := fun o2 q => by cases q; exact hne
    have hW : ∀ v2 : Int, 0 ≤ v2 → v2 < mo → NearOk n s (.tie d e lo hi (1 + v2)) := fun v2 a0 a1 => ⟨⟨⟨hd, he2⟩, hn2, by simp only [Tm.lo]; omega, by simp only [Tm.hi]; omega, hlh, fun _ => by simp only [Tm.force]; omega⟩, rfl⟩
    split
    · split
      · split
        · rename_i c1 c2 c3
          refine ⟨⟨_, rfl⟩, by rw [sizeLine_eq]; omega, ?_⟩
          have z := k (.bar d e (min lo v) (max hi v)) o hO ⟨⟨⟨hd, he2⟩, hn2, by simp only [Tm.lo]; omega, by simp only [Tm.hi]; omega, by simp only [Tm.lo, Tm.hi]; omega, nofun⟩, by
            simp only [Tm.pull, Tm.dist, Tm.arg, Tm.dial, Tm.oth, Tm.lo, Tm.hi, ← hv, Bool.not_false, Bool.true_and, decide_eq_false_iff_not]; omega⟩
          rw [List.map_append] at z
          simp only [min_py, max_py]
          exact z
        · refine ⟨⟨_, rfl⟩, l, _, o, rfl, by omega, log_lt (by omega) (by omega), hM, hO, fun v2 o2 ho2 a0 a1 => ?_⟩
          rw [mset_swap hlp]
          walk_at "d"
          have z := k _ o2 ho2 (hW v2 a0 a1)
          rw [List.map_append] at z
          exact ⟨by rw [sizeLine_eq]; omega, z⟩
      · refine ⟨⟨_, rfl⟩, l, _, o, rfl, by omega, log_lt (by omega) (by omega), hM, hO, fun v2 o2 ho2 a0 a1 => ?_⟩
        rw [mset_swap hlp]
        walk_at "d"
        have z := k _ o2 ho2 (hW v2 a0 a1)
        rw [List.map_append] at z
        exact ⟨by rw [sizeLine_eq]; omega, z⟩
    · refine ⟨⟨_, rfl⟩, l, _, o, rfl, by omega, log_lt (by omega) (by omega), hM, hO, fun v2 o2 ho2 a0 a1 => ?_⟩
      rw [mset_swap hlp]
      walk_at "d"
      have z := k _ o2 ho2 (hW v2 a0 a1)
      rw [List.map_append] at z
      exact ⟨by rw [sizeLine_eq]; omega, z⟩

def db__law_near (Z : Zs) : DS := (dSeq (dAsg (dTup (dCons (dOp oIx (dLst (dCons (dC (.int 3)) (dCons (dC (.int 3)) (dCons (dC (.int 2)) dNil)))) (dOp oSub (dVar 1) (dC (.int 1)))) (dCons (dOfM (dLstL dNil)) dNil))) (dUnp 2 (dgCons (dName 2) (dgCons (dName 3) dgNil)))) (dSeq (dAsg (dCB kTuple (dCons (dOfL (dLcL (dRg1 (dCons (dVar 1) dNil)) (dName 7) dYes (dCall 2 (df__law_number Z) noX (dCons (dVar 0) (dCons (dVar 2) dNil))) [7])) dNil)) (dName 4)) (dSeq (dAsg (dOp oIx (dLst (dCons (dC (.int 1)) (dCons (dC (.int 3)) (dCons (dC (.int 30)) dNil)))) (dCall 2 (df__law_take Z) noX (dCons (dVar 0) (dCons (dC (.int 3)) dNil)))) (dName 5)) (dSeq (dFor (dRg1 (dCons (dCall 2 (df__law_take Z) noX (dCons (dVar 0) (dCons (dC (.int 8)) dNil))) dNil)) (dName 6) (dSeq (dPar 7 8 (dCons (dCall 2 (df__law_take Z) noX (dCons (dVar 0) (dCons (dVar 1) dNil))) (dCons (dCall 2 (df__law_take Z) noX (dCons (dVar 0) (dCons (dC (.int 8)) dNil))) dNil))) (dSeq (dAsg (dCB kSorted (dCons (dLst (dCons (dCall 2 (df__law_number Z) noX (dCons (dVar 0) (dCons (dVar 2) dNil))) (dCons (dCall 2 (df__law_number Z) noX (dCons (dVar 0) (dCons (dVar 2) dNil))) dNil))) dNil)) (dUnp 2 (dgCons (dName 9) (dgCons (dName 10) dgNil)))) (dSeq (dPar 11 12 (dCons (dTup (dCons (dVar 7) dNil)) (dCons (dOp oIx (dVar 4) (dVar 7)) dNil))) (dSeq (dIfS (dAnd (dB (dOp oGt (dVar 1) (dC (.int 1)))) (dB (dOp oLt (dVar 8) (dC (.int 4))))) (dSeq (dAsg (dOp oMod (dOp oAdd (dOp oAdd (dVar 7) (dC (.int 1))) (dCall 2 (df__law_take Z) noX (dCons (dVar 0) (dCons (dOp oSub (dVar 1) (dC (.int 1))) dNil)))) (dVar 1)) (dName 13)) (dPar 11 12 (dCons (dTup (dCons (dVar 7) (dCons (dVar 13) dNil))) (dCons (dOp oSub (dOp oIx (dVar 4) (dVar 7)) (dOp oIx (dVar 4) (dVar 13))) dNil)))) dNext) (dIfS (dAnd (dB (dOp (oIn false) (dVar 8) (dTup (dCons (dC (.int 3)) (dCons (dC (.int 7)) dNil))))) (dB (dChain oLe oLe (dUn oNeg (dVar 2)) (dVar 12) (dVar 2)))) (dDrop (dBM mAppend (dVar 3) (dCons (dOp oAdd (dOp oAdd (dTup (dCons (dOp oIx (dLst (dCons (dC (.str "stop")) (dCons (dC (.str "bar")) dNil))) (dOp oSub (dCB kLen (dCons (dVar 11) dNil)) (dC (.int 1)))) dNil)) (dVar 11)) (dTup (dCons (dCB kMin2 (dCons (dVar 9) (dCons (dVar 12) dNil))) (dCons (dCB kMax2 (dCons (dVar 10) (dCons (dVar 12) dNil))) dNil)))) dNil))) (dDrop (dBM mAppend (dVar 3) (dCons (dOp oAdd (dOp oAdd (dTup (dCons (dOp oIx (dLst (dCons (dC (.str "wish")) (dCons (dC (.str "tie")) dNil))) (dOp oSub (dCB kLen (dCons (dVar 11) dNil)) (dC (.int 1)))) dNil)) (dVar 11)) (dTup (dCons (dVar 9) (dCons (dVar 10) (dCons (dOp oAdd (dC (.int 1)) (dCall 2 (df__law_take Z) noX (dCons (dVar 0) (dCons (dVar 5) dNil)))) dNil))))) dNil))))))))) (dRet (dTup (dCons (dVar 4) (dCons (dFrz (dVar 3)) dNil))))))))
def df__law_near (Z : Zs) : DF := fun ds M q xq => ∃ (l : Addr) (o : MO) (n : Nat), ds = [.adr l, .int n] ∧ M l = some o ∧ BagO o ∧ 1 ≤ n ∧ n ≤ 3 ∧
  ∀ (s : List Int) (ts : List Tm) (o' : MO), BagO o' → s.length = n → ts.length ≤ 7 → (∀ t ∈ ts, NearOk n s t) → q (.tup [sD s, .lst (ts.map Tm.D)]) (mset M l o')
theorem sem__law_near (Z : Zs) : ∀ ds M q xq, ds.length = 2 → df__law_near Z ds M q xq → db__law_near Z { nx := fun _ M' => q .non M', rt := q } (ds.map some ++ List.replicate 12 none) M := by
  rintro _ M q xq - ⟨l, o, n, rfl, hM, hO, n1, n3, h⟩
  unfold db__law_near
  walk_at "d"
  have e1 : ∃ sc : Int, 0 ≤ sc ∧ sc ≤ 3 ∧ ∃ scn : Nat, sc = scn ∧ atI [D.int 3, D.int 3, D.int 2] ((n : Int) - 1) = some (.int sc) := by
    obtain rfl | rfl | rfl : n = 1 ∨ n = 2 ∨ n = 3 := by omega
    · exact ⟨3, by decide, by decide, 3, rfl, rfl⟩
    · exact ⟨3, by decide, by decide, 3, rfl, rfl⟩
    · exact ⟨2, by decide, by decide, 2, rfl, rfl⟩
  obtain ⟨sc, sc0, sc3, scn, rfl, e1⟩ := e1
  rw [e1]
  walk_at "d"
  intro p hp
  have hlp : l ≠ p := fun z => by rw [z, hp] at hM; cases hM
  refine ⟨by omega, by omega, ?_⟩
  refine comp_ind (fun i acc M' => ∃ (ns : List Int) (o' : MO), acc = ns.map D.int ∧ ns.length = i ∧ BagO o' ∧ M' = mset (mset M l o') p (.lst [])) (fun i d e acc M' hI K hK => ?_) ⟨[], o, rfl, rfl, hO, by rw [mset_eq hM]⟩ fun acc M' hI => ?_
  · obtain ⟨ns, o', rfl, hn, ho', rfl⟩ := hI
    obtain ⟨hil, rfl⟩ := rgD_get' e
    walk_at "d"
    refine ⟨l, scn, o', rfl, by omega, by rw [mset_ne hlp, mset_same], ho', fun v o2 ho2 a0 a1 => ?_⟩
    rw [mset_swap hlp]
    refine ⟨by rw [sizeLine_eq]; omega, hK _ _ ⟨ns ++ [v], o2, by rw [List.map_append]; rfl, by rw [List.length_append, hn]; rfl, ho2, rfl⟩⟩
  obtain ⟨s, o1, rfl, hsl, ho1, rfl⟩ := hI
  rw [rgD_len] at hsl
  try walk_at "d"
  refine ⟨l, _, o1, rfl, by decide, by decide, by rw [mset_ne hlp, mset_same], ho1, fun v o2 ho2 a0 a1 => ?_⟩
  rw [mset_swap hlp]
  walk_at "d"
  have e2 : ∃ mo : Int, 1 ≤ mo ∧ mo ≤ 30 ∧ atI [D.int 1, D.int 3, D.int 30] v = some (.int mo) := by
    obtain rfl | rfl | rfl : v = 0 ∨ v = 1 ∨ v = 2 := by omega
    · exact ⟨1, by decide, by decide, rfl⟩
    · exact ⟨3, by decide, by decide, rfl⟩
    · exact ⟨30, by decide, by decide, rfl⟩
  obtain ⟨mo, mo1, mo30, e2⟩ := e2
  rw [e2]
  walk_at "d"
  refine ⟨l, _, o2, rfl, by decide, by decide, by rw [mset_ne hlp, mset_same], ho2, fun v o3 ho3 b0 b1 => ?_⟩
  rw [mset_swap hlp]
  walk_at "d"
  refine ⟨by omega, by omega, ?_⟩
  refine loop_ind (fun i δ M' => ∃ (ts : List Tm) (o' : MO) (x0 x1 x2 x3 x4 x5 x6 x7 : Option D), M' = mset (mset M l o') p (.lst (ts.map Tm.D)) ∧ BagO o' ∧ ts.length = i ∧ (∀ t ∈ ts, NearOk n s t) ∧
    δ = [some (.adr l), some (.int n), some (.int scn), some (.adr p), some (sD s), some (.int mo), x0, x1, x2, x3, x4, x5, x6, x7]) (fun i d e δ M' hI K hK => ?_) ⟨[], o3, _, _, _, _, _, _, _, _, rfl, ho3, rfl, nofun, rfl⟩ fun δ M' hI => ?_
  · obtain ⟨ts, o', x0, x1, x2, x3, x4, x5, x6, x7, rfl, ho', htl, hts, rfl⟩ := hI
    obtain ⟨hil, rfl⟩ := rgD_get' e
    have fin : ∀ (t : Tm) (o' : MO), BagO o' → NearOk n s t → ∀ x0 x1 x2 x3 x4 x5 x6 x7, K [some (.adr l), some (.int n), some (.int scn), some (.adr p), some (sD s), some (.int mo), x0, x1, x2, x3, x4, x5, x6, x7] (mset (mset M l o') p (.lst ((ts ++ [t]).map Tm.D))) :=
      fun t o' ho' ht x0 x1 x2 x3 x4 x5 x6 x7 => hK _ _ ⟨ts ++ [t], o', _, _, _, _, _, _, _, _, rfl, ho', by rw [List.length_append, htl]; rfl, fun u hu => by
        rcases List.mem_append.mp hu with hu | hu
        · exact hts u hu
        · rw [List.mem_singleton.mp hu]; exact ht, rfl⟩
    have ls : ∀ o' X, (mset (mset M l o') p X) l = some o' := fun o' X => by rw [mset_ne hlp, mset_same]
    show dName 6 _ _ _ (fun δ2 M2 => dSeq _ (dSeq _ (dSeq _ (dSeq _ (dn__law_near Z)))) _ δ2 M2)
    walk_at "d"
    refine ⟨l, _, o', rfl, by omega, log_lt (by omega) (by omega), ls _ _, ho', fun v1 o1 h1 c0 c1 => ?_⟩
    rw [mset_swap hlp]
    walk_at "d"
    refine ⟨l, _, o1, rfl, by decide, by decide, ls _ _, h1, fun v2 o2 h2 d0 d1 => ?_⟩
    rw [mset_swap hlp]
    walk_at "d"
    obtain ⟨d, rfl⟩ := Int.eq_ofNat_of_zero_le c0
    have hd : d < s.length := by omega
    refine ⟨l, scn, o2, rfl, by omega, ls _ _, h2, fun a o3 h3 a0 a1 => ?_⟩
    rw [mset_swap hlp]
    try walk_at "d"
    refine ⟨l, scn, o3, rfl, by omega, ls _ _, h3, fun b o4 h4 b0 b1 => ?_⟩
    rw [mset_swap hlp]
    walk_at "d"
    refine ⟨[a, b], rfl, fun ns' hp hs => ?_⟩
    have e3 : ∃ lo hi : Int, ns' = [lo, hi] ∧ lo ≤ hi ∧ -(scn : Int) ≤ lo ∧ hi ≤ scn := by
      have hl2 := hp.length_eq
      match ns', hp, hs, hl2 with
      | [u, w], hp, hs, _ =>
        have m1 := hp.mem_iff (a := u)
        have m2 := hp.mem_iff (a := w)
        simp only [List.mem_cons, List.not_mem_nil, or_false, true_or, or_true, true_iff] at m1 m2
        have := (List.pairwise_cons.mp hs).1 w (by simp)
        exact ⟨u, w, rfl, this, by omega, by omega⟩
    obtain ⟨lo, hi, rfl, hlh, hlo, hhi⟩ := e3
    have es : ∀ t : List Int, sD t = .tup (t.map D.int) := fun _ => rfl
    have gd := gI hd
    try walk_at "d"
    simp only [es]
    try walk_at "d"
    simp only [gd]
    try walk_at "d"
    split
    · split
      · rename_i n2 w4
        refine ⟨l, _, o4, rfl, by omega, log_lt (by omega) (by omega), ls _ _, h4, fun v3 o5 h5 e0 e1 => ?_⟩
        rw [mset_swap hlp]
        try walk_at "d"
        have hn0 : (0 : Int) < n := by omega
        have q0 : 0 ≤ ((d : Int) + 1 + v3) % n := Int.emod_nonneg _ (by omega)
        have q1 : ((d : Int) + 1 + v3) % n < n := Int.emod_lt_of_pos _ hn0
        have q2 : ((d : Int) + 1 + v3) % n ≠ d := by
          obtain rfl | rfl : n = 2 ∨ n = 3 := by omega
          · omega
          · omega
        obtain ⟨f, hf⟩ := Int.eq_ofNat_of_zero_le q0
        rw [hf] at q1 q2
        rw [hf]
        have gf := gI (s := s) (n := f) (by omega)
        try walk_at "d"
        try simp only [gd, gf]
        try walk_at "d"
        refine ⟨hn0, ?_⟩
        exact near_tail Z (DD := { nx := fun _ _ => True, rt := q, bk := _, ct := fun _ _ => True }) (hd := [d, f]) hlp h5 ⟨by omega, by omega⟩ ⟨mo1, mo30⟩ hlo hhi hlh (by omega) (.inr ⟨d, f, rfl, by omega, by omega, by omega, rfl⟩) fun t o' ho' ht => fin t o' ho' ht ..
      · exact near_tail Z (DD := { nx := fun _ _ => True, rt := q, bk := _, ct := fun _ _ => True }) (hd := [d]) hlp h4 ⟨by omega, by omega⟩ ⟨mo1, mo30⟩ hlo hhi hlh (by omega) (.inl ⟨d, rfl, by omega, rfl⟩) fun t o' ho' ht => fin t o' ho' ht ..
    · exact near_tail Z (DD := { nx := fun _ _ => True, rt := q, bk := _, ct := fun _ _ => True }) (hd := [d]) hlp h4 ⟨by omega, by omega⟩ ⟨mo1, mo30⟩ hlo hhi hlh (by omega) (.inl ⟨d, rfl, by omega, rfl⟩) fun t o' ho' ht => fin t o' ho' ht ..
  · obtain ⟨ts, o', x0, x1, x2, x3, x4, x5, x6, x7, rfl, ho', htl, hts, rfl⟩ := hI
    rw [rgD_len] at htl
    try walk_at "d"
    have e5 : mdel (mset (mset M l o') p (.lst (ts.map Tm.D))) p = mset M l o' := mdel_mset (by rw [mset_ne hlp.symm]; exact hp)
    rw [e5]
    exact h s ts o' ho' (by omega) (by omega) hts
end DL

set_option Elab.async false
set_option linter.all false
set_option maxRecDepth 100000
set_option maxHeartbeats 1000000
/-! The plain law of the search: with rise and fall together r + 1 there is a standing one step nearer. -/
namespace DL
open PySem L2 PyProof.Rows

theorem allowed_iff {ts : List Tm} {s : List Int} : leftOf ts s = none ↔ ∀ t ∈ ts, t.pull = false → t.lo ≤ t.arg s ∧ t.arg s ≤ t.hi := by
  constructor
  · intro h t ht hp
    unfold leftOf at h
    rw [List.findIdx?_eq_none_iff] at h
    have := h t ht
    rw [hp] at this
    simp only [Bool.not_false, Bool.true_and, decide_eq_false_iff_not] at this
    unfold Tm.dist at this
    omega
  · intro h
    refine leftOf_none fun t ht => ?_
    cases hp : t.pull with
    | true => rfl
    | false =>
      have := h t ht hp
      simp only [Bool.not_false, Bool.true_and, decide_eq_false_iff_not]
      unfold Tm.dist
      omega
theorem gap_at {w : Int} {a b : List Int} (h : a.length = b.length) (hp : 0 < gap w a b) : ∃ i, i < a.length ∧ w * (b.getD i 0 - a.getD i 0) = gap w a b := by
  rcases fmax_mem (gaps w a b) 0 with e | e
  · exact absurd (show gap w a b = 0 from e) (by omega)
  · obtain ⟨i, hi⟩ := List.mem_iff_getElem?.mp e
    have hl := (List.getElem?_eq_some_iff.mp hi).1
    rw [gaps_len h] at hl
    rw [gaps_get h hl] at hi
    exact ⟨i, hl, Option.some.inj hi⟩
/-- rise and fall together -/
def apart (a b : List Int) : Int := gap 1 a b + gap (-1) a b
theorem apart_comm_w {w : Int} (hw : w = 1 ∨ w = -1) (a b : List Int) : apart a b = gap w a b + gap (-w) a b := by
  unfold apart
  rcases hw with rfl | rfl
  · rfl
  · rw [Int.neg_neg, Int.add_comm]
theorem ext_getD {a b : List Int} (h : a.length = b.length) (he : ∀ i, i < a.length → a.getD i 0 = b.getD i 0) : a = b := by
  refine List.ext_getElem h fun i h1 h2 => ?_
  have := he i h1
  rw [List.getD_eq_getElem?_getD, List.getD_eq_getElem?_getD, List.getElem?_eq_getElem h1, List.getElem?_eq_getElem h2] at this
  exact this
theorem apart_zero {a b : List Int} (h : a.length = b.length) (hz : apart a b = 0) : a = b := by
  have n1 := gap_nn 1 a b
  have n2 := gap_nn (-1) a b
  unfold apart at hz
  refine ext_getD h fun i hi => ?_
  have h1 := gap_ge (w := 1) h hi
  have h2 := gap_ge (w := -1) h hi
  omega
theorem pred_step {ts : List Tm} {s y : List Int} {w : Int} (hw : w = 1 ∨ w = -1) (h : s.length = y.length) (hi : ∀ t ∈ ts, t.inSize s.length) (hs : leftOf ts s = none) (hy : leftOf ts y = none) (hp : 0 < gap w s y) :
    ∃ (x : List Int) (g : List Nat), x.length = s.length ∧ leftOf ts x = none ∧ apart s x + 1 = apart s y ∧ g ≠ [] ∧ g ∈ subs s.length ∧ y = stepOf x w g := by
  let p : Nat → Bool := fun i => decide (w * (y.getD i 0 - s.getD i 0) = gap w s y)
  let g := (List.range s.length).filter p
  have hg : ∀ i, i < s.length → (i ∈ g ↔ w * (y.getD i 0 - s.getD i 0) = gap w s y) := fun i hi => by
    show i ∈ (List.range s.length).filter p ↔ _
    rw [List.mem_filter, List.mem_range]
    constructor
    · intro z; exact of_decide_eq_true z.2
    · intro z; exact ⟨hi, decide_eq_true z⟩
  let x := stepOf y (-w) g
  have hxl : x.length = s.length := by show (stepOf y (-w) g).length = _; rw [stepOf_len, h]
  have hx : ∀ i, i < s.length → x.getD i 0 = y.getD i 0 + -w * (if i ∈ g then 1 else 0) := fun i hi => stepOf_get (h ▸ hi)
  obtain ⟨j, hj, ej⟩ := gap_at h hp
  have hjg : j ∈ g := (hg j hj).mpr ej
  have gx : s.length = x.length := hxl.symm
  have n0 := gap_nn (-w) s y
  have a1 : gap w s x = gap w s y - 1 := by
    have u1 : gap w s x ≤ gap w s y - 1 := gap_le gx (by omega) fun i hi => by
      have z := gap_ge (w := w) h hi
      rw [hx i hi]
      by_cases c : i ∈ g
      · have := (hg i hi).mp c
        rw [if_pos c]
        rcases hw with rfl | rfl <;> omega
      · have : ¬ _ := fun q => c ((hg i hi).mpr q)
        rw [if_neg c]
        rcases hw with rfl | rfl <;> omega
    have u2 := gap_ge (w := w) gx hj
    rw [hx j hj, if_pos hjg] at u2
    rcases hw with rfl | rfl <;> omega
  have a2 : gap (-w) s x = gap (-w) s y := by
    have u1 : gap (-w) s x ≤ gap (-w) s y := gap_le gx n0 fun i hi => by
      have z := gap_ge (w := -w) h hi
      rw [hx i hi]
      by_cases c : i ∈ g
      · have := (hg i hi).mp c
        rw [if_pos c]
        rcases hw with rfl | rfl <;> omega
      · rw [if_neg c]
        rcases hw with rfl | rfl <;> omega
    by_cases z : gap (-w) s y = 0
    · have := gap_nn (-w) s x; omega
    · obtain ⟨k, hk, ek⟩ := gap_at h (show 0 < gap (-w) s y by omega)
      have c : ¬ k ∈ g := fun c => by
        have := (hg k hk).mp c
        rcases hw with rfl | rfl <;> omega
      have u2 := gap_ge (w := -w) gx hk
      rw [hx k hk, if_neg c] at u2
      rcases hw with rfl | rfl <;> omega
  have hne : g ≠ [] := fun e => by rw [e] at hjg; cases hjg
  refine ⟨x, g, hxl, ?_, ?_, hne, subs_filter p _, ?_⟩
  · rw [allowed_iff] at hs hy ⊢
    intro t ht hpl
    have q1 := hs t ht hpl
    have q2 := hy t ht hpl
    obtain ⟨d1, d2⟩ := hi t ht
    unfold Tm.arg at q1 q2 ⊢
    have g1 := gap_ge (w := w) h d1
    have m1 := hg _ d1
    have x1 := hx _ d1
    cases ho : t.oth with
    | none =>
      rw [ho] at q1 q2
      simp only [Int.sub_zero] at q1 q2 ⊢
      rw [x1]
      by_cases c : t.dial ∈ g
      · have := m1.mp c
        rw [if_pos c]
        rcases hw with rfl | rfl <;> omega
      · rw [if_neg c]
        rcases hw with rfl | rfl <;> omega
    | some o =>
      rw [ho] at q1 q2
      simp only at q1 q2 ⊢
      have ho2 := d2 o ho
      have g2 := gap_ge (w := w) h ho2
      have m2 := hg _ ho2
      have x2 := hx _ ho2
      rw [x1, x2]
      by_cases c : t.dial ∈ g <;> by_cases c2 : o ∈ g
      · rw [if_pos c, if_pos c2]
        rcases hw with rfl | rfl <;> omega
      · have z1 := m1.mp c
        have z2 : ¬ _ := fun q => c2 (m2.mpr q)
        rw [if_pos c, if_neg c2]
        rcases hw with rfl | rfl <;> omega
      · have z1 : ¬ _ := fun q => c (m1.mpr q)
        have z2 := m2.mp c2
        rw [if_neg c, if_pos c2]
        rcases hw with rfl | rfl <;> omega
      · rw [if_neg c, if_neg c2]
        rcases hw with rfl | rfl <;> omega
  · rw [apart_comm_w hw, apart_comm_w hw, a1, a2]; omega
  · refine ext_getD (by rw [stepOf_len, hxl, h]) fun i hi => ?_
    have hi2 : i < s.length := by omega
    rw [stepOf_get (by rw [hxl]; exact hi2), hx i hi2]
    rcases hw with rfl | rfl <;> split <;> omega
theorem pred_any {ts : List Tm} {s y : List Int} (h : s.length = y.length) (hi : ∀ t ∈ ts, t.inSize s.length) (hs : leftOf ts s = none) (hy : leftOf ts y = none) (hp : 0 < apart s y) :
    ∃ (x : List Int) (w : Int) (g : List Nat), (w = 1 ∨ w = -1) ∧ x.length = s.length ∧ leftOf ts x = none ∧ apart s x + 1 = apart s y ∧ g ≠ [] ∧ g ∈ subs s.length ∧ y = stepOf x w g := by
  have n1 := gap_nn 1 s y
  have n2 := gap_nn (-1) s y
  by_cases c : 0 < gap 1 s y
  · obtain ⟨x, g, r⟩ := pred_step (.inl rfl) h hi hs hy c
    exact ⟨x, 1, g, .inl rfl, r⟩
  · obtain ⟨x, g, r⟩ := pred_step (.inr rfl) h hi hs hy (show 0 < gap (-1) s y by unfold apart at hp; omega)
    exact ⟨x, -1, g, .inr rfl, r⟩
end DL

set_option Elab.async false
set_option linter.all false
set_option maxRecDepth 100000
set_option maxHeartbeats 1000000
namespace DL
open PySem L2 PyProof.Rows
local macro_rules | `(tactic| walk_at "d") => `(tactic| simp only [dSeq, dAsg, dRet, dRetN, dIfS, dNext, dVar, dC, dOp, dUn, dB, dTru, dAnd, dOr, dNot, dIf, dAndV, dOrV, dNotV, dNil, dCons, dTup, dLst, dLstL, dLstM, dCall, dCB, dName, dgNil, dgCons, dUnp, dPar, dPar3, dAug, dSl, dPart, dNoPart, dChain, dDrop, dFor, dSeqI, dRg1, dRg2, dEnum, dZip, dStrI, dOfL, dOfM, dLcL, dYes, dwipe, dBM, mAppend, dSub, dAugSub, dFrz, frz, dMeth, dMake, dFld, dSetFld, insOf, putD, dRevL, dSortSet, dInD, dPutD, dGet, dDisp1T, oI, oIC, oU, oSub, oMod, oDiv, oNeg, oLt, oLe, oGt, oGe, oEq, oNe, kAll, kAny, kMax2, kMin2, kSorted, oAdd, oMul, oIx, oSl, oIn, oIsN, oEqW, sEq, kLen, kAbs, kTwo, kMax3, kInt, kStr, kList, kTuple, kIsi, kInts, kBools, kSumP, kSortedD, tyName, seqItems, items, mset_same, mset_mset, mdel_mset,
  List.map, List.replicate, List.cons_append, List.nil_append, List.set, List.getElem?_cons_zero, List.getElem?_cons_succ, List.length_cons, List.length_nil, Nat.zero_add, Nat.reduceAdd, true_and, and_true, and_self, atI0, atI_pos, Int.reduceLE, Int.reduceLT, Int.natCast_nonneg, Int.toNat_natCast, Int.reduceToNat, Int.reduceNeg, Int.reduceAdd, Int.reduceSub, Int.reduceMul, atI_m1, line_le, line_lt, Nat.ble, flatD, inD, eqDb_ii, eqDb_ss, inD_nats, flat_nats, Int.zero_add, List.lookup, List.mem_cons, true_or, List.length_map, List.all_cons, List.all_nil, List.any_cons, List.any_nil, str_beq, str_dec, str_inj, all_true, String.reduceBEq, String.reduceEq, Int.reduceBEq, Bool.and_true, Bool.true_and, Bool.and_self, Bool.or_false, Bool.false_or, Bool.or_true, Bool.true_or, Bool.and_false, Bool.false_and, Bool.not_true, Bool.not_false, Bool.false_eq_true, if_true, if_false, ite_true, ite_false, reduceIte, Nat.reduceLeDiff, Nat.reduceLT, decide_true, decide_false, Int.cast_ofNat_Int, Option.some.injEq, exists_eq_left', exists_eq_left, exists_and_left, kit_ii, kit_ib, kit_tt, kit_ss, kit_ll, ixN_lit, cut_pp, cut_np, cut_pn, List.drop_succ_cons, List.drop_zero, List.take_succ_cons, List.take_zero, List.take_nil, List.getLast?_cons_cons, List.getLast?_singleton, Nat.reduceSub, Nat.sub_zero, decide_eq_true_eq, Int.reduceEq, Int.reduceNe, Nat.reduceEqDiff])
def keyS (y : List Int) : List Key := y.map Sum.inl
def kv (ks : List (List Int)) : List (List Key × D) := ks.map fun y => (keyS y, D.bl true)
theorem ksOf_ints : ∀ y : List Int, ksOf (y.map D.int) = some (keyS y)
  | [] => rfl
  | i :: y => by
    rw [List.map_cons, ksOf, ksOf_ints y]
    rfl
theorem keyS_inj {a b : List Int} (h : keyS a = keyS b) : a = b := map_inj (fun a b h => Sum.inl.inj h) h
theorem valP_kv {y : List Int} : ∀ ks : List (List Int), (valP (kv ks) (keyS y)).isSome = decide (y ∈ ks)
  | [] => rfl
  | k :: ks => by
    have ih := valP_kv (y := y) ks
    unfold valP kv at ih ⊢
    rw [List.map_cons]
    by_cases c : k = y
    · rw [List.find?_cons_of_pos (by simp [c])]
      simp [c]
    · rw [List.find?_cons_of_neg (by simpa using fun q => c (keyS_inj q)), ih]
      simp only [List.mem_cons, decide_eq_decide]
      constructor
      · exact .inr
      · rintro (q | q)
        · exact absurd q.symm c
        · exact q
theorem putP_kv {ks : List (List Int)} {y : List Int} (h : y ∉ ks) : putP (kv ks) (keyS y) (.bl true) = kv (ks ++ [y]) := by
  unfold putP
  rw [if_neg ?_]
  · unfold kv; rw [List.map_append]; rfl
  · intro q
    obtain ⟨z, hz, e⟩ := List.any_eq_true.mp q
    obtain ⟨k, hk, rfl⟩ := List.mem_map.mp hz
    exact h (keyS_inj (of_decide_eq_true e) ▸ hk)
theorem kv_len (ks : List (List Int)) : (kv ks).length = ks.length := by unfold kv; rw [List.length_map]

/-- one turn's search: what has been found of the candidates so far -/
structure Found (ts : List Tm) (n : Nat) (ks ls : List (List Int)) (gs : List (List Nat)) (cov later : List (List Int)) : Prop where
  new : ∀ y ∈ later, y.length = n ∧ leftOf ts y = none ∧ y ∉ ks ∧ ∃ one ∈ ls, ∃ (w : Int) (g : List Nat), (w = 1 ∨ w = -1) ∧ y = stepOf one w g
  all : ∀ y ∈ cov, leftOf ts y = none → y ∈ ks ∨ y ∈ later
  len : later.length ≤ cov.length
theorem Found.skip {ts : List Tm} {n : Nat} {ks ls : List (List Int)} {gs : List (List Nat)} {cov later : List (List Int)} {y : List Int} (h : Found ts n ks ls gs cov later) (hy : leftOf ts y = none → y ∈ ks ∨ y ∈ later) : Found ts n ks ls gs (cov ++ [y]) later where
  new := h.new
  all := fun x hx hn => by
    rcases List.mem_append.mp hx with hx | hx
    · exact h.all x hx hn
    · rw [List.mem_singleton.mp hx] at hn ⊢; exact hy hn
  len := by rw [List.length_append]; have := h.len; omega
theorem Found.add {ts : List Tm} {n : Nat} {ks ls : List (List Int)} {gs : List (List Nat)} {cov later : List (List Int)} {one : List Int} {w : Int} {g : List Nat} (h : Found ts n ks ls gs cov later) (ho : one ∈ ls) (hl : one.length = n) (hw : w = 1 ∨ w = -1)
    (hn : leftOf ts (stepOf one w g) = none) (hk : stepOf one w g ∉ ks) : Found ts n ks ls gs (cov ++ [stepOf one w g]) (later ++ [stepOf one w g]) where
  new := fun y hy => by
    rcases List.mem_append.mp hy with hy | hy
    · exact h.new y hy
    · rw [List.mem_singleton.mp hy]
      exact ⟨by rw [stepOf_len, hl], hn, hk, one, ho, w, g, hw, rfl⟩
  all := fun x hx hn => by
    rcases List.mem_append.mp hx with hx | hx
    · rcases h.all x hx hn with z | z
      · exact .inl z
      · exact .inr (List.mem_append_left _ z)
    · exact .inr (List.mem_append_right _ hx)
  len := by rw [List.length_append, List.length_append]; have := h.len; simp only [List.length_cons, List.length_nil]; omega
def cands (gs : List (List Nat)) (one : List Int) (w : Int) : List (List Int) := gs.map fun g => stepOf one w g
/-- what is known and what the last layer is after r turns -/
structure Lay (ts : List Tm) (s : List Int) (r : Nat) (ks ls : List (List Int)) : Prop where
  known : ∀ y, y ∈ ks ↔ y.length = s.length ∧ leftOf ts y = none ∧ apart s y ≤ r
  layer : ∀ y, y ∈ ls ↔ y.length = s.length ∧ leftOf ts y = none ∧ apart s y = r
  kl : ks.length ≤ 2 * 14 ^ r
  ll : ls.length ≤ 14 ^ r
theorem Lay.first {ts : List Tm} {s : List Int} (h : leftOf ts s = none) : Lay ts s 0 [s] [s] := by
  have z : apart s s = 0 := by unfold apart; rw [gap_self, gap_self]; rfl
  have nn : ∀ y, 0 ≤ apart s y := fun y => by have := gap_nn 1 s y; have := gap_nn (-1) s y; unfold apart; omega
  refine ⟨fun y => ?_, fun y => ?_, by simp, by simp⟩
  · rw [List.mem_singleton]
    constructor
    · rintro rfl; exact ⟨rfl, h, by rw [z]; decide⟩
    · rintro ⟨h1, _, h3⟩; have := nn y; exact (apart_zero h1.symm (by omega)).symm
  · rw [List.mem_singleton]
    constructor
    · rintro rfl; exact ⟨rfl, h, by rw [z]; rfl⟩
    · rintro ⟨h1, _, h3⟩; exact (apart_zero h1.symm (by omega)).symm
theorem Lay.next {ts : List Tm} {s : List Int} {r : Nat} {ks ls later : List (List Int)} {gs : List (List Nat)} (L : Lay ts s r ks ls) (hi : ∀ t ∈ ts, t.inSize s.length) (hs : leftOf ts s = none) (hg : ([] :: gs).Perm (subs s.length)) (hn : s.length ≤ 3)
    (F : Found ts s.length ks ls gs (ls.flatMap fun one => cands gs one 1 ++ cands gs one (-1)) later) : Lay ts s (r + 1) (ks ++ later) later := by
  have near : ∀ y ∈ later, y.length = s.length ∧ leftOf ts y = none ∧ apart s y = (r + 1 : Nat) := fun y hy => by
    obtain ⟨h1, h2, h3, one, ho, w, g, hw, rfl⟩ := F.new y hy
    obtain ⟨l1, _, l3⟩ := (L.layer one).mp ho
    have := gap_step (g := g) l1.symm hw
    have a1 : apart s (stepOf one w g) ≤ apart s one + 1 := this
    have a2 : ¬ apart s (stepOf one w g) ≤ r := fun q => h3 ((L.known _).mpr ⟨h1, h2, q⟩)
    exact ⟨h1, h2, by omega⟩
  have back : ∀ y, y.length = s.length → leftOf ts y = none → apart s y = (r + 1 : Nat) → y ∈ later := fun y h1 h2 h3 => by
    obtain ⟨x, w, g, hw, x1, x2, x3, g0, g1, rfl⟩ := pred_any h1.symm hi hs h2 (by omega)
    have hx : x ∈ ls := (L.layer x).mpr ⟨x1, x2, by omega⟩
    have hgs : g ∈ gs := by
      rcases List.mem_cons.mp (hg.mem_iff.mpr g1) with z | z
      · exact absurd z g0
      · exact z
    have hc : stepOf x w g ∈ ls.flatMap fun one => cands gs one 1 ++ cands gs one (-1) := by
      rw [List.mem_flatMap]
      refine ⟨x, hx, ?_⟩
      rcases hw with rfl | rfl
      · exact List.mem_append_left _ (List.mem_map.mpr ⟨g, hgs, rfl⟩)
      · exact List.mem_append_right _ (List.mem_map.mpr ⟨g, hgs, rfl⟩)
    rcases F.all _ hc h2 with z | z
    · have := ((L.known _).mp z).2.2; omega
    · exact z
  have hgl := grps_len hg
  have hg2 : 2 ^ s.length ≤ 2 ^ 3 := Nat.pow_le_pow_right (by decide) hn
  have cl : (ls.flatMap fun one => cands gs one 1 ++ cands gs one (-1)).length ≤ ls.length * 14 := by
    rw [List.length_flatMap]
    clear F near back L
    induction ls with
    | nil => exact Nat.le_refl _
    | cons x ls ih =>
      rw [List.map_cons, List.sum_cons, List.length_cons]
      simp only [cands, List.length_append, List.length_map] at ih ⊢
      omega
  have fl := F.len
  have e14 : 14 ^ (r + 1) = 14 ^ r * 14 := Nat.pow_succ 14 r
  have kl := L.kl
  have ll := L.ll
  refine ⟨fun y => ?_, fun y => ⟨near y, fun h => back y h.1 h.2.1 h.2.2⟩, ?_, ?_⟩
  · rw [List.mem_append]
    constructor
    · rintro (h | h)
      · obtain ⟨a, b, c⟩ := (L.known y).mp h; exact ⟨a, b, by omega⟩
      · obtain ⟨a, b, c⟩ := near y h; exact ⟨a, b, by omega⟩
    · rintro ⟨a, b, c⟩
      by_cases d : apart s y ≤ r
      · exact .inl ((L.known y).mpr ⟨a, b, d⟩)
      · exact .inr (back y a b (by omega))
  · rw [List.length_append]; omega
  · omega

def dl__law_layers (Z : Zs) : DS := (dFor (dSeqI (dOfL (dLcL (dSeqI (dVar 6)) (dName 12) dYes (dCall 3 (df__law_stepped Z) noX (dCons (dVar 9) (dCons (dVar 10) (dCons (dVar 12) dNil)))) [12]))) (dName 11) (dIfS (dAnd (dB (dInD true (dVar 11) (dVar 4))) (dB (dOp (oIsN fun k => k) (dCall 2 (df__law_left Z) noX (dCons (dVar 0) (dCons (dVar 11) dNil))) (dC .non)))) (dSeq (dPutD (dC (.bl true)) (dVar 4) (dVar 11)) (dDrop (dBM mAppend (dVar 8) (dCons (dVar 11) dNil)))) dNext))
abbrev envL (ts : List Tm) (s z : List Int) (p : Addr) (ls : List (List Int)) (gs : List (List Nat)) (r : Nat) (l : Addr) (a b c d : Option D) : DEnv :=
  [some (.lst (ts.map Tm.D)), some (.tup (s.map D.int)), some (.tup (z.map D.int)), some (.int 6), some (.adr p), some (.lst (ls.map sD)), some (.lst (gs.map gD)), some (.int r), some (.adr l), a, b, c, d]
abbrev Sm (M : Mh) (p l : Addr) (ks later : List (List Int)) : Mh := mset (mset M p (.dT (kv (ks ++ later)))) l (.lst (later.map sD))
theorem inner_ok (Z : Zs) {ts : List Tm} {s z : List Int} {p l : Addr} {ks ls : List (List Int)} {gs : List (List Nat)} {r : Nat} {M : Mh} {one : List Int} {w : Int} {cov later : List (List Int)} {c d : Option D} {K B C : DEnv → Mh → Prop} {R : QD}
    (hpl : p ≠ l) (htl : ts.length ≤ 100) (hi : ∀ t ∈ ts, t.inSize s.length) (hn : s.length ≤ 8) (ho : one ∈ ls) (hol : one.length = s.length) (hw : w = 1 ∨ w = -1) (hg : gs.length ≤ 256) (hkl : ks.length + cov.length + 256 ≤ 16777215)
    (F : Found ts s.length ks ls gs cov later)
    (k : ∀ (later' : List (List Int)) (c d : Option D), Found ts s.length ks ls gs (cov ++ cands gs one w) later' → K (envL ts s z p ls gs r l (some (sD one)) (some (.int w)) c d) (Sm M p l ks later')) :
    dl__law_layers Z { nx := K, rt := R, bk := B, ct := C } (envL ts s z p ls gs r l (some (sD one)) (some (.int w)) c d) (Sm M p l ks later) := by
  unfold dl__law_layers
  walk_at "d"
  refine comp_map (fun g => sD (stepOf one w g)) (by omega) (fun g hgm acc ha K2 hK2 => ?_) ?_
  · walk_at "d"
    exact ⟨one, w, g, rfl, by omega, ha, hK2⟩
  try walk_at "d"
  refine loop_ind (fun j δ M' => ∃ (later' : List (List Int)) (c : Option D) (d : Option D), Found ts s.length ks ls gs (cov ++ (gs.take j).map fun g => stepOf one w g) later' ∧ M' = Sm M p l ks later' ∧ δ = envL ts s z p ls gs r l (some (sD one)) (some (.int w)) c d) (fun j d' e δ M' hI K2 hK2 => ?_)
    ⟨later, _, _, by rw [List.take_zero, List.map_nil, List.append_nil]; exact F, rfl, rfl⟩ fun δ M' hI => ?_
  · obtain ⟨later', c, d, F', rfl, rfl⟩ := hI
    obtain ⟨g, eg, rfl⟩ := get_map e
    have hj := (List.getElem?_eq_some_iff.mp eg).1
    have et : (gs.take (j + 1)).map (fun g => stepOf one w g) = (gs.take j).map (fun g => stepOf one w g) ++ [stepOf one w g] := by
      rw [List.take_add_one, eg, List.map_append]; rfl
    have lc : (cov ++ (gs.take j).map fun g => stepOf one w g).length ≤ cov.length + 256 := by
      rw [List.length_append, List.length_map, List.length_take]; omega
    have fl := F'.len
    have pS : ∀ later, Sm M p l ks later p = some (.dT (kv (ks ++ later))) := fun later => by show mset _ _ _ _ = _; rw [mset_ne hpl, mset_same]
    have es : ∀ t : List Int, sD t = .tup (t.map D.int) := fun _ => rfl
    have z1 := pS later'
    have z2 : ∀ o, mset (Sm M p l ks later') p o l = some (.lst (later'.map sD)) := fun o => by rw [mset_ne hpl.symm]; exact mset_same
    walk_at "d"
    simp only [z1]
    try walk_at "d"
    simp only [es, ksOf_ints]
    try walk_at "d"
    rw [valP_kv]
    by_cases hmem : stepOf one w g ∈ ks ++ later'
    · rw [if_neg (by rw [decide_eq_true hmem]; decide)]
      exact hK2 _ _ ⟨later', _, _, by rw [et, ← List.append_assoc]; exact F'.skip (fun _ => List.mem_append.mp hmem), rfl, rfl⟩
    · rw [if_pos (by rw [decide_eq_false hmem]; decide)]
      refine ⟨ts, stepOf one w g, rfl, htl, by rw [stepOf_len, hol]; exact hi, ?_⟩
      cases hL : leftOf ts (stepOf one w g) with
      | none =>
        unfold optD
        simp only [z1, z2, putP_kv hmem]
        try walk_at "d"
        refine ⟨by rw [kv_len, List.length_append, sizeLine_eq]; omega, ⟨_, rfl⟩, by rw [sizeLine_eq]; omega, ?_⟩
        refine hK2 _ _ ⟨later' ++ [stepOf one w g], _, _, by rw [et, ← List.append_assoc]; exact F'.add ho hol hw hL (fun q => hmem (List.mem_append_left _ q)), ?_, rfl⟩
        show mset (mset (mset (mset M p _) l _) p _) l _ = mset (mset M p _) l _
        rw [mset_swap hpl, mset_mset, List.append_assoc, List.map_append]
        rfl
      | some n =>
        unfold optD
        try walk_at "d"
        exact hK2 _ _ ⟨later', _, _, by rw [et, ← List.append_assoc]; exact F'.skip (fun q => by rw [hL] at q; cases q), rfl, rfl⟩
  · obtain ⟨later', c, d, F', rfl, rfl⟩ := hI
    rw [List.length_map, List.take_length] at F'
    exact k _ _ _ F'

def db__law_layers (Z : Zs) : DS := (dSeq (dPar3 4 5 6 (dCons (dDisp1T (dVar 1) (dC (.bl true))) (dCons (dLst (dCons (dVar 1) dNil)) (dCons (dCall 1 (df__law_groups Z) noX (dCons (dCB kLen (dCons (dVar 1) dNil)) dNil)) dNil)))) (dSeq (dFor (dRg1 (dCons (dOp oAdd (dVar 3) (dC (.int 1))) dNil)) (dName 7) (dSeq (dIfS (dB (dInD false (dVar 2) (dVar 4))) (dRet (dVar 7)) dNext) (dSeq (dAsg (dOfM (dLstL dNil)) (dName 8)) (dSeq (dFor (dSeqI (dVar 5)) (dName 9) (dFor (dSeqI (dTup (dCons (dC (.int 1)) (dCons (dUn oNeg (dC (.int 1))) dNil)))) (dName 10) (dFor (dSeqI (dOfL (dLcL (dSeqI (dVar 6)) (dName 12) dYes (dCall 3 (df__law_stepped Z) noX (dCons (dVar 9) (dCons (dVar 10) (dCons (dVar 12) dNil)))) [12]))) (dName 11) (dIfS (dAnd (dB (dInD true (dVar 11) (dVar 4))) (dB (dOp (oIsN fun k => k) (dCall 2 (df__law_left Z) noX (dCons (dVar 0) (dCons (dVar 11) dNil))) (dC .non)))) (dSeq (dPutD (dC (.bl true)) (dVar 4) (dVar 11)) (dDrop (dBM mAppend (dVar 8) (dCons (dVar 11) dNil)))) dNext)))) (dAsg (dFrz (dVar 8)) (dName 5)))))) (dRet (dC .non))))
def df__law_layers (Z : Zs) : DF := fun ds M q xq => ∃ (ts : List Tm) (s z : List Int), ds = [.lst (ts.map Tm.D), sD s, sD z, .int 6] ∧ ts.length ≤ 100 ∧ 1 ≤ s.length ∧ s.length ≤ 3 ∧ z.length = s.length ∧ (∀ t ∈ ts, t.inSize s.length) ∧ leftOf ts s = none ∧ leftOf ts z = none ∧ apart s z ≤ 6 ∧
  q (.int (apart s z)) M
theorem sem__law_layers (Z : Zs) : ∀ ds M q xq, ds.length = 4 → df__law_layers Z ds M q xq → db__law_layers Z { nx := fun _ M' => (fg q) .non M', rt := fg q } (ds.map some ++ List.replicate 9 none) M := by
  rintro _ M q xq - ⟨ts, s, z, rfl, htl, s1, s3, hz, hi, hs, hzl, hap, h⟩
  unfold db__law_layers
  have es : ∀ t : List Int, sD t = .tup (t.map D.int) := fun _ => rfl
  simp only [es]
  walk_at "d"
  simp only [ksOf_ints]
  try walk_at "d"
  intro p hp
  refine ⟨s.length, rfl, by omega, fun gs hgs => ?_⟩
  try walk_at "d"
  refine ⟨by decide, by decide, ?_⟩
  refine loop_ind (fun r δ M' => ∃ (ks ls : List (List Int)) (x7 x8 x9 x10 x11 x12 : Option D), Lay ts s r ks ls ∧ r ≤ apart s z ∧ M' = mset M p (.dT (kv ks)) ∧
    δ = [some (.lst (ts.map Tm.D)), some (.tup (s.map D.int)), some (.tup (z.map D.int)), some (.int 6), some (.adr p), some (.lst (ls.map sD)), some (.lst (gs.map gD)), x7, x8, x9, x10, x11, x12]) (fun r d e δ M' hI K hK => ?_)
    ⟨[s], [s], _, _, _, _, _, _, Lay.first hs, by unfold apart; have := gap_nn 1 s z; have := gap_nn (-1) s z; omega, rfl, rfl⟩ fun δ M' hI => ?_
  · obtain ⟨ks, ls, x7, x8, x9, x10, x11, x12, L, hr, rfl, rfl⟩ := hI
    obtain ⟨hil, rfl⟩ := rgD_get' e
    walk_at "d"
    simp only [ksOf_ints]
    try walk_at "d"
    rw [valP_kv]
    by_cases hk : z ∈ ks
    · rw [if_pos (decide_eq_true hk)]
      have a := ((L.known z).mp hk).2.2
      rw [show apart s z = (r : Int) by omega] at h
      exact ⟨M, MSub.mset hp, h⟩
    · rw [if_neg (by simpa using hk)]
      have nk : ¬ apart s z ≤ r := fun q => hk ((L.known z).mpr ⟨hz, hzl, q⟩)
      intro l hl
      have hpl : p ≠ l := fun q => by rw [q, mset_same] at hl; cases hl
      have hml : M l = none := by rw [mset_ne hpl.symm] at hl; exact hl
      have r5 : r ≤ 5 := by omega
      have p14 : 14 ^ r ≤ 14 ^ 5 := Nat.pow_le_pow_right (by decide) r5
      have kl := L.kl
      have ll := L.ll
      have hgl := grps_len hgs
      have hg2 : 2 ^ s.length ≤ 2 ^ 3 := Nat.pow_le_pow_right (by decide) s3
      have hcl : ∀ (xs : List (List Int)), (xs.flatMap fun one => cands gs one 1 ++ cands gs one (-1)).length ≤ xs.length * 14 := fun xs => by
        rw [List.length_flatMap]
        induction xs with
        | nil => exact Nat.le_refl _
        | cons x xs ih =>
          rw [List.map_cons, List.sum_cons, List.length_cons]
          simp only [cands, List.length_append, List.length_map] at ih ⊢
          omega
      refine loop_ind (fun i δ M' => ∃ (later : List (List Int)) (a b c d : Option D), Found ts s.length ks ls gs ((ls.take i).flatMap fun one => cands gs one 1 ++ cands gs one (-1)) later ∧ M' = Sm M p l ks later ∧ δ = envL ts s z p ls gs r l a b c d) (fun i d e δ M' hI K2 hK2 => ?_)
        ⟨[], _, _, _, _, ⟨nofun, nofun, by simp⟩, by unfold Sm; rw [List.append_nil]; rfl, rfl⟩ fun δ M' hI => ?_
      · obtain ⟨later, a, b, c, d, F, rfl, rfl⟩ := hI
        obtain ⟨one, eo, rfl⟩ := get_map e
        have ho := List.mem_of_getElem? eo
        have hol := ((L.layer one).mp ho).1
        have hi2 := (List.getElem?_eq_some_iff.mp eo).1
        have et : (ls.take (i + 1)).flatMap (fun one => cands gs one 1 ++ cands gs one (-1)) = ((ls.take i).flatMap fun one => cands gs one 1 ++ cands gs one (-1)) ++ cands gs one 1 ++ cands gs one (-1) := by
          rw [List.take_add_one, eo, List.flatMap_append, List.append_assoc]
          simp
        have l1 := hcl (ls.take i)
        have l2 : (ls.take i).length ≤ ls.length := by rw [List.length_take]; omega
        have l3 : ∀ w, (cands gs one w).length ≤ 8 := fun w => by unfold cands; rw [List.length_map]; omega
        have l4 := l3 1
        show dName 9 _ _ _ (fun δ2 M2 => dFor _ (dName 10) (dl__law_layers Z) _ δ2 M2)
        walk_at "d"
        simp only [dLoop]
        walk_at "d"
        refine inner_ok Z hpl htl hi (by omega) ho hol (.inl rfl) (by omega) (by omega) F fun later1 c1 d1 F1 => ?_
        try simp only [dLoop]
        try walk_at "d"
        refine inner_ok Z hpl htl hi (by omega) ho hol (.inr rfl) (by omega) (by rw [List.length_append]; omega) F1 fun later2 c2 d2 F2 => ?_
        try simp only [dLoop]
        exact hK2 _ _ ⟨later2, _, _, _, _, by rw [et]; exact F2, rfl, rfl⟩
      · obtain ⟨later, a, b, c, d, F, rfl, rfl⟩ := hI
        rw [List.length_map, List.take_length] at F
        have LN := L.next hi hs hgs s3 F
        walk_at "d"
        have e9 : mdel (Sm M p l ks later) l = mset M p (.dT (kv (ks ++ later))) := mdel_mset (by rw [mset_ne hpl.symm]; exact hml)
        rw [e9]
        exact hK _ _ ⟨ks ++ later, later, _, _, _, _, _, _, LN, by omega, rfl, rfl⟩
  · obtain ⟨ks, ls, x7, x8, x9, x10, x11, x12, L, hr, rfl, rfl⟩ := hI
    rw [rgD_len] at hr
    omega
end DL

set_option Elab.async false
set_option linter.all false
set_option maxRecDepth 100000
set_option maxHeartbeats 1000000
namespace DL
open PySem L2 PyProof.Rows
local macro_rules | `(tactic| walk_at "d") => `(tactic| simp only [dSeq, dAsg, dRet, dRetN, dIfS, dNext, dVar, dC, dOp, dUn, dB, dTru, dAnd, dOr, dNot, dIf, dAndV, dOrV, dNotV, dNil, dCons, dTup, dLst, dLstL, dLstM, dCall, dCB, dName, dgNil, dgCons, dUnp, dPar, dPar3, dAug, dSl, dPart, dNoPart, dChain, dDrop, dFor, dSeqI, dRg1, dRg2, dEnum, dZip, dStrI, dOfL, dOfM, dLcL, dYes, dwipe, dBM, mAppend, dSub, dAugSub, dFrz, frz, dMeth, dMake, dFld, dSetFld, insOf, putD, dRevL, dSortSet, dInD, dPutD, dGet, dDisp1T, oI, oIC, oU, oSub, oMod, oDiv, oNeg, oLt, oLe, oGt, oGe, oEq, oNe, kAll, kAny, kMax2, kMin2, kSorted, oAdd, oMul, oIx, oSl, oIn, oIsN, oEqW, sEq, kLen, kAbs, kTwo, kMax3, kInt, kStr, kList, kTuple, kIsi, kInts, kBools, kSumP, kSortedD, tyName, seqItems, items, mset_same, mset_mset, mdel_mset,
  List.map, List.replicate, List.cons_append, List.nil_append, List.set, List.getElem?_cons_zero, List.getElem?_cons_succ, List.length_cons, List.length_nil, Nat.zero_add, Nat.reduceAdd, true_and, and_true, and_self, atI0, atI_pos, Int.reduceLE, Int.reduceLT, Int.natCast_nonneg, Int.toNat_natCast, Int.reduceToNat, Int.reduceNeg, Int.reduceAdd, Int.reduceSub, Int.reduceMul, atI_m1, line_le, line_lt, Nat.ble, flatD, inD, eqDb_ii, eqDb_ss, inD_nats, flat_nats, Int.zero_add, List.lookup, List.mem_cons, true_or, List.length_map, List.all_cons, List.all_nil, List.any_cons, List.any_nil, str_beq, str_dec, str_inj, all_true, String.reduceBEq, String.reduceEq, Int.reduceBEq, Bool.and_true, Bool.true_and, Bool.and_self, Bool.or_false, Bool.false_or, Bool.or_true, Bool.true_or, Bool.and_false, Bool.false_and, Bool.not_true, Bool.not_false, Bool.false_eq_true, if_true, if_false, ite_true, ite_false, reduceIte, Nat.reduceLeDiff, Nat.reduceLT, decide_true, decide_false, Int.cast_ofNat_Int, Option.some.injEq, exists_eq_left', exists_eq_left, exists_and_left, kit_ii, kit_ib, kit_tt, kit_ss, kit_ll, ixN_lit, cut_pp, cut_np, cut_pn, List.drop_succ_cons, List.drop_zero, List.take_succ_cons, List.take_zero, List.take_nil, List.getLast?_cons_cons, List.getLast?_singleton, Nat.reduceSub, Nat.sub_zero, decide_eq_true_eq, Int.reduceEq, Int.reduceNe, Nat.reduceEqDiff])
def db_law (Z : Zs) : DS := (dSeq (dAsg (dCall 1 (df__law_bag Z) noX (dCons (dVar 0) dNil)) (dName 1)) (dSeq (dFor (dRg1 (dCons (dC (.int 3)) dNil)) (dName 2) (dSeq (dAsg (dOp oIx (dLst (dCons (dC (.int 1)) (dCons (dC (.int 2)) (dCons (dC (.int 3)) (dCons (dC (.int 2)) dNil))))) (dCall 2 (df__law_take Z) noX (dCons (dVar 1) (dCons (dC (.int 4)) dNil)))) (dName 3)) (dSeq (dAsg (dCall 2 (df__law_near Z) noX (dCons (dVar 1) (dCons (dVar 3) dNil))) (dUnp 2 (dgCons (dName 4) (dgCons (dName 5) dgNil)))) (dSeq (dAsg (dOfL (dLcL (dSeqI (dVar 5)) (dName 9) (dOr (dB (dOp oGt (dCall 2 (df__law_take Z) noX (dCons (dVar 1) (dCons (dC (.int 3)) dNil))) (dC (.int 0)))) (dB (dOp (oIn false) (dOp oIx (dVar 9) (dC (.int 0))) (dTup (dCons (dC (.str "stop")) (dCons (dC (.str "bar")) dNil)))))) (dVar 9) [9])) (dName 5)) (dSeq (dAsg (dCall 4 (df__law_wandered Z) noX (dCons (dVar 1) (dCons (dVar 5) (dCons (dVar 4) (dCons (dOp oIx (dLst (dCons (dC (.int 6)) (dCons (dC (.int 5)) (dCons (dC (.int 4)) dNil)))) (dOp oSub (dVar 3) (dC (.int 1)))) dNil))))) (dName 6)) (dSeq (dAsg (dCall 4 (df__law_layers Z) noX (dCons (dVar 5) (dCons (dVar 4) (dCons (dVar 6) (dCons (dC (.int 6)) dNil))))) (dName 7)) (dSeq (dAsg (dCall 3 (df_shortest Z) noX (dCons (dFrz (dMake Z.Board 3 (df_Board_init Z) noX (dCons (dVar 3) (dCons (dVar 5) dNil)))) (dCons (dVar 4) (dCons (dVar 6) dNil)))) (dName 8)) (dIfS (dOr (dB (dOp (oIsN fun k => k) (dVar 7) (dC .non))) (dOr (dB (dOp oNe (dVar 7) (dCB kSumP (dCons (dCall 2 (df__law_apart Z) noX (dCons (dVar 4) (dCons (dVar 6) dNil))) dNil)))) (dB (dOp oNe (dCB kSumP (dCons (dOfL (dLcL (dSeqI (dVar 8)) (dName 10) dYes (dOp oIx (dVar 10) (dC (.int 2))) [10])) dNil)) (dVar 7))))) (dRet (dC (.bl false))) dNext)))))))) (dRet (dC (.bl true)))))
def df_law (Z : Zs) : DF := fun ds M q xq => ∃ ns : List Int, ds = [.flst (ns.map D.int)] ∧ ∀ M', q (.bl true) M'
theorem sem_law (Z : Zs) : ∀ ds M q xq, ds.length = 1 → df_law Z ds M q xq → db_law Z { nx := fun _ M' => q .non M', rt := q } (ds.map some ++ List.replicate 10 none) M := by
  rintro _ M q xq - ⟨ns, rfl, h⟩
  unfold db_law
  walk_at "d"
  refine ⟨ns, rfl, fun l o hl hO => ?_⟩
  try walk_at "d"
  refine ⟨by decide, by decide, ?_⟩
  refine loop_ind (fun i δ M' => ∃ (o : MO) (x2 x3 x4 x5 x6 x7 x8 x9 x10 : Option D), BagO o ∧ M' = mset M l o ∧ δ = [some (.flst (ns.map D.int)), some (.adr l), x2, x3, x4, x5, x6, x7, x8, x9, x10]) (fun i d e δ M' hI K hK => ?_) ⟨o, _, _, _, _, _, _, _, _, _, hO, rfl, rfl⟩ fun δ M' hI => ?_
  · obtain ⟨o, x2, x3, x4, x5, x6, x7, x8, x9, x10, hO, rfl, rfl⟩ := hI
    obtain ⟨hil, rfl⟩ := rgD_get' e
    walk_at "d"
    refine ⟨l, _, o, rfl, by decide, by decide, mset_same, hO, fun v o1 h1 a0 a1 => ?_⟩
    walk_at "d"
    have e1 : ∃ n : Nat, 1 ≤ n ∧ n ≤ 3 ∧ atI [D.int 1, D.int 2, D.int 3, D.int 2] v = some (.int n) := by
      obtain rfl | rfl | rfl | rfl : v = 0 ∨ v = 1 ∨ v = 2 ∨ v = 3 := by omega
      · exact ⟨1, by decide, by decide, rfl⟩
      · exact ⟨2, by decide, by decide, rfl⟩
      · exact ⟨3, by decide, by decide, rfl⟩
      · exact ⟨2, by decide, by decide, rfl⟩
    obtain ⟨n, n1, n3, e1⟩ := e1
    rw [e1]
    walk_at "d"
    refine ⟨l, o1, n, rfl, mset_same, h1, n1, n3, fun s ts o2 h2 hsl htl hts => ?_⟩
    walk_at "d"
    refine comp_ind (fun i acc M' => ∃ (us : List Tm) (o' : MO), acc = us.map Tm.D ∧ us.length ≤ i ∧ (∀ t ∈ us, NearOk n s t) ∧ BagO o' ∧ M' = mset M l o') (fun i d e acc M' hI K2 hK2 => ?_) ⟨[], o2, rfl, Nat.le_refl 0, nofun, h2, rfl⟩ fun acc M' hI => ?_
    · obtain ⟨us, o', rfl, hul, hus, ho', rfl⟩ := hI
      obtain ⟨t, et, rfl⟩ := get_map e
      have hm := List.mem_of_getElem? et
      have hi2 := (List.getElem?_eq_some_iff.mp et).1
      have keep : ∀ o', BagO o' → (us.map Tm.D).length < sizeLine ∧ K2 (us.map Tm.D ++ [t.D]) (mset M l o') := fun o' ho' => ⟨by rw [List.length_map, sizeLine_eq]; omega, hK2 _ _ ⟨us ++ [t], o', by rw [List.map_append]; rfl, by rw [List.length_append]; simp only [List.length_cons, List.length_nil]; omega, fun u hu => by
        rcases List.mem_append.mp hu with hu | hu
        · exact hus u hu
        · rw [List.mem_singleton.mp hu]; exact hts t hm, ho', rfl⟩⟩
      have drop : ∀ o', BagO o' → K2 (us.map Tm.D) (mset M l o') := fun o' ho' => hK2 _ _ ⟨us, o', rfl, by omega, hus, ho', rfl⟩
      rw [List.length_map] at keep
      walk_at "d"
      refine ⟨l, _, o', rfl, by decide, by decide, mset_same, ho', fun v2 o3 h3 b0 b1 => ?_⟩
      walk_at "d"
      split
      · exact keep o3 h3
      · have kp := keep o3 h3
        have dp := drop o3 h3
        clear keep drop
        cases t <;> simp only [Tm.D] at kp ⊢ <;> walk_at "d" <;> first | exact kp | exact dp
    obtain ⟨us, o3, rfl, hul, hus, h3, rfl⟩ := hI
    rw [List.length_map] at hul
    have hok : ∀ t ∈ us, t.ok n := fun t ht => (hus t ht).ok
    have hin : ∀ t ∈ us, t.inSize s.length := fun t ht => hsl ▸ (hus t ht).ok.ins
    have hs : leftOf us s = none := leftOf_none fun t ht => (hus t ht).at_
    try walk_at "d"
    have e2 : ∃ m : Nat, m ≤ 6 ∧ atI [D.int 6, D.int 5, D.int 4] ((n : Int) - 1) = some (.int m) := by
      obtain rfl | rfl | rfl : n = 1 ∨ n = 2 ∨ n = 3 := by omega
      · exact ⟨6, by decide, rfl⟩
      · exact ⟨5, by decide, rfl⟩
      · exact ⟨4, by decide, rfl⟩
    obtain ⟨m, m6, e2⟩ := e2
    rw [e2]
    try walk_at "d"
    refine ⟨l, o3, us, s, m, rfl, mset_same, h3, by omega, by omega, by omega, by omega, hin, hs, fun z o4 h4 hzl hz hg => ?_⟩
    try walk_at "d"
    refine ⟨us, s, z, rfl, by omega, by omega, by omega, hzl, hin, hs, hz, by unfold apart; omega, ?_⟩
    try walk_at "d"
    intro p hp
    refine ⟨p, n, us, rfl, mset_same, n1, by omega, by omega, hok, ?_⟩
    try walk_at "d"
    rw [mdel_mset hp]
    refine ⟨n, us, s, z, rfl, hin, hzl.symm, by omega, hs, hz, fun its il isum => ?_⟩
    unfold planD
    try walk_at "d"
    refine ⟨s, z, rfl, hzl.symm, by omega, ?_⟩
    try walk_at "d"
    refine ⟨[gap 1 s z, gap (-1) s z], rfl, ?_⟩
    try walk_at "d"
    rw [if_neg (show ¬ (!decide (apart s z = [gap 1 s z, gap (-1) s z].sum)) = true by unfold apart; simp)]
    refine comp_map (fun t => .int t.2.2) (by omega) (fun t ht acc ha K2 hK2 => ?_) ?_
    · walk_at "d"; exact ⟨ha, hK2⟩
    · refine ⟨its.map fun t => t.2.2, by rw [List.map_map]; rfl, ?_⟩
      rw [if_neg (show ¬ (!decide ((its.map fun t => t.2.2).sum = apart s z)) = true by rw [isum]; unfold apart; simp)]
      exact hK _ _ ⟨o4, _, _, _, _, _, _, _, _, _, h4, rfl, rfl⟩
  · obtain ⟨o, x2, x3, x4, x5, x6, x7, x8, x9, x10, hO, rfl, rfl⟩ := hI
    try walk_at "d"
    exact h _
end DL

set_option Elab.async false
set_option linter.all false
set_option maxRecDepth 100000
set_option maxHeartbeats 1000000
/-! The walk: each def's text read. -/
namespace DL
open PySem L2 PyProof.Rows
def top (i : Nat) : Stmt := PySem.Challenge.pw_mostpulled_k55_whole_no_plan_is_shorter.main.body.getD i (.Pass ⟨0, 0, 0, 0⟩)
abbrev FnN (K : PySem.W.Frag) (x qual : Str) (st : Stmt) (f : Addr) (fd : FuncData) : Prop := FunD K x qual (defArgs st) (defBody st) (defScope st) [] [] f fd
section
variable {P : Program} {w : World} {K : PySem.W.Frag} {mg : Str → Option Value} {base : Heap} {x qual : Str} {st : Stmt} {f : Addr} {fd : FuncData} {N ps : List Str} {k : Nat} {df : DF} {db : DS}
theorem okN (G : FnN K x qual st f fd) (S : FnScope N ps (defScope st))
    (hbody : ∀ (cdv : Value) (A : Around) (outer : List Env) (s : Shared) (H : Hp) (Q : VK) (E : XK) (F0 : Hp) (M0 : Mh) (H0 : Hp), Room k (A.deeper (envOfC qual (defScope st) s.heap.objs.size f cdv)) →
      PDSs (cxOf CX0 P w K mg base N qual (defScope st) f cdv A outer s H E).nox ⟨K, F0, M0, H0, E0, noX⟩ (defBody st) db)
    (sem : ∀ ds M q xq, ds.length = ps.length → df ds M q xq → db { nx := fun _ M' => q .non M', rt := q } (ds.map some ++ List.replicate (N.length - ps.length) none) M) : FnOk P w K mg base CX0 (k + 1) f fd ps (SpD K ps.length df) := by
  refine G.ok S (fun vs H Q E h => h.len) (fun cdv A outer s H vs Q E hr h => ?_)
  obtain ⟨F, M, ds, q, xq, wl, r, l, h, hq, hx⟩ := h
  obtain ⟨t, h1, h2⟩ := (hbody cdv A outer s H Q E F M H hr).ex
  refine ⟨t, PSs.nox h1, h2 _ _ F M H _ _ ⟨wl, Gr.refl _ _ _, ?_⟩ (sem ds M q xq l h) ⟨fun δ σ F' M' H' w' g' e' h' => hq _ _ F' M' H' w' g' .non h', fun d v F' M' H' w' g' r' h' => hq d v F' M' H' w' g' r' h', fun _ _ _ _ _ _ _ _ h' => h'.elim, fun _ _ _ _ _ _ _ _ h' => h'.elim⟩⟩
  have e := Envs.start (N := N) r
  rw [l] at e
  exact e
theorem okNf (G : FnN K x qual st f fd) (S : FnScope N ps (defScope st))
    (hbody : ∀ (cdv : Value) (A : Around) (outer : List Env) (s : Shared) (H : Hp) (Q : VK) (E : XK) (F0 : Hp) (M0 : Mh) (H0 : Hp), Room k (A.deeper (envOfC qual (defScope st) s.heap.objs.size f cdv)) →
      PDSs (cxOf CX0 P w K mg base N qual (defScope st) f cdv A outer s H E).nox ⟨K, F0, M0, H0, E0, noX⟩ (defBody st) db)
    (sem : ∀ ds M q xq, ds.length = ps.length → df ds M q xq → db { nx := fun _ M' => fg q .non M', rt := fg q } (ds.map some ++ List.replicate (N.length - ps.length) none) M) : FnOk P w K mg base CX0 (k + 1) f fd ps (SpD K ps.length df) := by
  refine G.ok S (fun vs H Q E h => h.len) (fun cdv A outer s H vs Q E hr h => ?_)
  obtain ⟨F, M, ds, q, xq, wl, r, l, h, hq, hx⟩ := h
  obtain ⟨t, h1, h2⟩ := (hbody cdv A outer s H Q E F M H hr).ex
  refine ⟨t, PSs.nox h1, h2 _ _ F M H _ _ ⟨wl, Gr.refl _ _ _, ?_⟩ (sem ds M q xq l h) ⟨fun δ σ F' M' H' w' g' e' h' => fg_wl w' g' .non h' hq, fun d v F' M' H' w' g' r' h' => fg_wl w' g' r' h' hq, fun _ _ _ _ _ _ _ _ h' => h'.elim, fun _ _ _ _ _ _ _ _ h' => h'.elim⟩⟩
  have e := Envs.start (N := N) r
  rw [l] at e
  exact e
end
abbrev st_is_pulling : Stmt := top 6
theorem sc_is_pulling : FnScope ["term"] ["term"] (defScope st_is_pulling) := ⟨rfl, rfl, rfl, by decide +kernel, rfl, by decide +kernel, by decide +kernel⟩
theorem ok_is_pulling {P : Program} {w : World} {K : PySem.W.Frag} {mg : Str → Option Value} {base : Heap} {Z : Zs} {f : Addr} {fd : FuncData} (G : FnN K "is_pulling" "is_pulling" st_is_pulling f fd)  :
    FnOk P w K mg base CX0 1 f fd ["term"] (SpD K 1 (df_is_pulling Z)) :=
  okN (db := db_is_pulling Z) G sc_is_pulling (fun cdv A outer s H Q E F0 M0 H0 hr =>
    (pds_one (pd_ret (pd_cmp (op_inP rfl) (so_in (neg := false)) (pd_ix rfl (pd_v 0) pd_int) (pd_tup (pda_cons pd_str (pda_cons pd_str pda_nil))))))) (sem_is_pulling Z)
abbrev st_other_of : Stmt := top 7
theorem sc_other_of : FnScope ["term"] ["term"] (defScope st_other_of) := ⟨rfl, rfl, rfl, by decide +kernel, rfl, by decide +kernel, by decide +kernel⟩
theorem ok_other_of {P : Program} {w : World} {K : PySem.W.Frag} {mg : Str → Option Value} {base : Heap} {Z : Zs} {f : Addr} {fd : FuncData} (G : FnN K "other_of" "other_of" st_other_of f fd)  :
    FnOk P w K mg base CX0 1 f fd ["term"] (SpD K 1 (df_other_of Z)) :=
  okN (db := db_other_of Z) G sc_other_of (fun cdv A outer s H Q E F0 M0 H0 hr =>
    (pds_one (pd_ret (pd_ifE (pdt_cmp (op_inP rfl) (so_in (neg := false)) (pd_ix rfl (pd_v 0) pd_int) (pd_tup (pda_cons pd_str (pda_cons pd_str pda_nil)))) (pd_ix rfl (pd_v 0) pd_int) pd_non)))) (sem_other_of Z)
abbrev st_ends_of : Stmt := top 8
theorem sc_ends_of : FnScope ["term", "begin"] ["term"] (defScope st_ends_of) := ⟨rfl, rfl, rfl, by decide +kernel, rfl, by decide +kernel, by decide +kernel⟩
theorem ok_ends_of {P : Program} {w : World} {K : PySem.W.Frag} {mg : Str → Option Value} {base : Heap} {Z : Zs} {f : Addr} {fd : FuncData} (G : FnN K "ends_of" "ends_of" st_ends_of f fd)  :
    FnOk P w K mg base CX0 1 f fd ["term"] (SpD K 1 (df_ends_of Z)) :=
  okN (db := db_ends_of Z) G sc_ends_of (fun cdv A outer s H Q E F0 M0 H0 hr =>
    (pds_cons (pd_set (i := 1) sc_ends_of.nd rfl (Or.inl rfl) (pd_ifE (pdt_cmp (op_inP rfl) (so_in (neg := false)) (pd_ix rfl (pd_v 0) pd_int) (pd_tup (pda_cons pd_str (pda_cons pd_str pda_nil)))) pd_int pd_int)) (pds_one (pd_ret (pd_tup (pda_cons (pd_ix rfl (pd_v 0) (pd_v 1)) (pda_cons (pd_ix rfl (pd_v 0) (pd_add rfl (pd_v 1) pd_int)) pda_nil))))))) (sem_ends_of Z)
abbrev st_argument : Stmt := top 9
theorem sc_argument : FnScope ["term", "standing", "other"] ["term", "standing"] (defScope st_argument) := ⟨rfl, rfl, rfl, by decide +kernel, rfl, by decide +kernel, by decide +kernel⟩
theorem ok_argument {P : Program} {w : World} {K : PySem.W.Frag} {mg : Str → Option Value} {base : Heap} {Z : Zs} {f : Addr} {fd : FuncData} (G : FnN K "argument" "argument" st_argument f fd) (h_other_of : Has0 P w K mg base 1 "other_of" ["term"] (df_other_of Z)) :
    FnOk P w K mg base CX0 2 f fd ["term", "standing"] (SpD K 2 (df_argument Z)) :=
  okN (db := db_argument Z) G sc_argument (fun cdv A outer s H Q E F0 M0 H0 hr =>
    (pds_cons (pd_set (i := 2) sc_argument.nd rfl (Or.inl rfl) (pd_f0 (ps := ["term"]) h_other_of rfl (hr.mono (by decide)) (pda_cons (pd_v 0) pda_nil))) (pds_one (pd_ret (pd_sub (pd_ix rfl (pd_v 1) (pd_ix rfl (pd_v 0) pd_int)) (pd_ifE (pdt_cmp op_notN so_notN (pd_v 2) pd_non) (pd_ix rfl (pd_v 1) (pd_v 2)) pd_int)))))) (sem_argument Z)
abbrev st_distance : Stmt := top 10
theorem sc_distance : FnScope ["term", "argument", "low", "high"] ["term", "argument"] (defScope st_distance) := ⟨rfl, rfl, rfl, by decide +kernel, rfl, by decide +kernel, by decide +kernel⟩
theorem ok_distance {P : Program} {w : World} {K : PySem.W.Frag} {mg : Str → Option Value} {base : Heap} {Z : Zs} {f : Addr} {fd : FuncData} (G : FnN K "distance" "distance" st_distance f fd) (m_max : mg "max" = none) (h_ends_of : Has0 P w K mg base 1 "ends_of" ["term"] (df_ends_of Z)) :
    FnOk P w K mg base CX0 2 f fd ["term", "argument"] (SpD K 2 (df_distance Z)) :=
  okN (db := db_distance Z) G sc_distance (fun cdv A outer s H Q E F0 M0 H0 hr =>
    (pds_cons (pd_asg (vs := [2, 3]) (pd_f0 (ps := ["term"]) h_ends_of rfl (hr.mono (by decide)) (pda_cons (pd_v 0) pda_nil)) (pdg_tup rfl rfl (pdgs_cons (pdg_name (i := 2) sc_distance.nd rfl (Or.inl rfl) (by decide)) (pdgs_cons (pdg_name (i := 3) sc_distance.nd rfl (Or.inl rfl) (by decide)) pdgs_nil)))) (pds_one (pd_ret (pd_callB (call_max3 rfl) sc_max3 rfl m_max (by decide +kernel) (pda_cons (pd_sub (pd_v 2) (pd_v 1)) (pda_cons (pd_sub (pd_v 1) (pd_v 3)) (pda_cons pd_int pda_nil)))))))) (sem_distance Z)
abbrev st_need_allowed : Stmt := top 12
theorem sc_need_allowed : FnScope ["board", "standing", "at"] ["board", "standing"] (defScope st_need_allowed) := ⟨rfl, rfl, rfl, by decide +kernel, rfl, by decide +kernel, by decide +kernel⟩
theorem ok_need_allowed {P : Program} {w : World} {K : PySem.W.Frag} {mg : Str → Option Value} {base : Heap} {Z : Zs} {f : Addr} {fd : FuncData} (G : FnN K "need_allowed" "need_allowed" st_need_allowed f fd) (cl_Board : Cls K Z.Board) (h_Board_left : HasM0 P w K mg base Z.Board 3 "left" ["self", "standing"] (df_Board_left Z)) :
    FnOk P w K mg base CX0 4 f fd ["board", "standing"] (SpD K 2 (df_need_allowed Z)) :=
  okN (db := db_need_allowed Z) G sc_need_allowed (fun cdv A outer s H Q E F0 M0 H0 hr =>
    (pds_cons (pd_set (i := 2) sc_need_allowed.nd rfl (Or.inl rfl) (pd_m0 (ps := ["self", "standing"]) h_Board_left rfl cl_Board (hr.mono (by decide)) (pd_v 0) (pda_cons (pd_v 1) pda_nil))) (pds_one (pd_if (pdt_cmp op_notN so_notN (pd_v 2) pd_non) (pds_one pd_never) pds_nil)))) (sem_need_allowed Z)
abbrev st_is_integer : Stmt := top 17
theorem sc_is_integer : FnScope ["thing"] ["thing"] (defScope st_is_integer) := ⟨rfl, rfl, rfl, by decide +kernel, rfl, by decide +kernel, by decide +kernel⟩
theorem ok_is_integer {P : Program} {w : World} {K : PySem.W.Frag} {mg : Str → Option Value} {base : Heap} {Z : Zs} {f : Addr} {fd : FuncData} (G : FnN K "is_integer" "is_integer" st_is_integer f fd) (m_isinstance : mg "isinstance" = none) (m_int : mg "int" = none) (m_bool : mg "bool" = none) :
    FnOk P w K mg base CX0 1 f fd ["thing"] (SpD K 1 (df_is_integer Z)) :=
  okN (db := db_is_integer Z) G sc_is_integer (fun cdv A outer s H Q E F0 M0 H0 hr =>
    (pds_one (pd_ret (pd_and (pd_callB (call_isi) sc_isi rfl m_isinstance (by decide +kernel) (pda_cons (pd_v 0) (pda_cons (pd_ty rfl m_int (by decide +kernel)) pda_nil))) (pd_one (pd_not (pd_callB (call_isi) sc_isi rfl m_isinstance (by decide +kernel) (pda_cons (pd_v 0) (pda_cons (pd_ty rfl m_bool (by decide +kernel)) pda_nil))))))))) (sem_is_integer Z)
abbrev st_is_between : Stmt := top 18
theorem sc_is_between : FnScope ["thing", "low", "high"] ["thing", "low", "high"] (defScope st_is_between) := ⟨rfl, rfl, rfl, by decide +kernel, rfl, by decide +kernel, by decide +kernel⟩
theorem ok_is_between {P : Program} {w : World} {K : PySem.W.Frag} {mg : Str → Option Value} {base : Heap} {Z : Zs} {f : Addr} {fd : FuncData} (G : FnN K "is_between" "is_between" st_is_between f fd) (h_is_integer : Has0 P w K mg base 1 "is_integer" ["thing"] (df_is_integer Z)) :
    FnOk P w K mg base CX0 2 f fd ["thing", "low", "high"] (SpD K 3 (df_is_between Z)) :=
  okN (db := db_is_between Z) G sc_is_between (fun cdv A outer s H Q E F0 M0 H0 hr =>
    (pds_one (pd_ret (pd_and (pd_f0 (ps := ["thing"]) h_is_integer rfl (hr.mono (by decide)) (pda_cons (pd_v 0) pda_nil)) (pd_one (pd_chain op_le op_le so_le so_le (pd_v 1) (pd_v 0) (pd_v 2))))))) (sem_is_between Z)
abbrev st_is_value : Stmt := top 19
theorem sc_is_value : FnScope ["thing"] ["thing"] (defScope st_is_value) := ⟨rfl, rfl, rfl, by decide +kernel, rfl, by decide +kernel, by decide +kernel⟩
theorem ok_is_value {P : Program} {w : World} {K : PySem.W.Frag} {mg : Str → Option Value} {base : Heap} {Z : Zs} {f : Addr} {fd : FuncData} (G : FnN K "is_value" "is_value" st_is_value f fd) (h_is_between : Has0 P w K mg base 2 "is_between" ["thing", "low", "high"] (df_is_between Z)) (g_FARTHEST : GInt mg "FARTHEST" 1000000000000000000) :
    FnOk P w K mg base CX0 3 f fd ["thing"] (SpD K 1 (df_is_value Z)) :=
  okN (db := db_is_value Z) G sc_is_value (fun cdv A outer s H Q E F0 M0 H0 hr =>
    (pds_one (pd_ret (pd_f0 (ps := ["thing", "low", "high"]) h_is_between rfl (hr.mono (by decide)) (pda_cons (pd_v 0) (pda_cons (pd_neg (pd_gInt g_FARTHEST)) (pda_cons (pd_gInt g_FARTHEST) pda_nil))))))) (sem_is_value Z)
abbrev st_is_force : Stmt := top 20
theorem sc_is_force : FnScope ["thing"] ["thing"] (defScope st_is_force) := ⟨rfl, rfl, rfl, by decide +kernel, rfl, by decide +kernel, by decide +kernel⟩
theorem ok_is_force {P : Program} {w : World} {K : PySem.W.Frag} {mg : Str → Option Value} {base : Heap} {Z : Zs} {f : Addr} {fd : FuncData} (G : FnN K "is_force" "is_force" st_is_force f fd) (h_is_between : Has0 P w K mg base 2 "is_between" ["thing", "low", "high"] (df_is_between Z)) (g_MOST_FORCE : GInt mg "MOST_FORCE" 30) :
    FnOk P w K mg base CX0 3 f fd ["thing"] (SpD K 1 (df_is_force Z)) :=
  okN (db := db_is_force Z) G sc_is_force (fun cdv A outer s H Q E F0 M0 H0 hr =>
    (pds_one (pd_ret (pd_f0 (ps := ["thing", "low", "high"]) h_is_between rfl (hr.mono (by decide)) (pda_cons (pd_v 0) (pda_cons pd_int (pda_cons (pd_gInt g_MOST_FORCE) pda_nil))))))) (sem_is_force Z)
abbrev st_is_term : Stmt := top 21
theorem sc_is_term : FnScope ["thing", "size", "dials", "pulling", "low", "high", "dial"] ["thing", "size"] (defScope st_is_term) := ⟨rfl, rfl, rfl, by decide +kernel, rfl, by decide +kernel, by decide +kernel⟩
theorem ok_is_term {P : Program} {w : World} {K : PySem.W.Frag} {mg : Str → Option Value} {base : Heap} {Z : Zs} {f : Addr} {fd : FuncData} (G : FnN K "is_term" "is_term" st_is_term f fd) (h_is_force : Has0 P w K mg base 3 "is_force" ["thing"] (df_is_force Z)) (h_is_value : Has0 P w K mg base 3 "is_value" ["thing"] (df_is_value Z)) (m_all : mg "all" = none) (h_is_between : Has0 P w K mg base 2 "is_between" ["thing", "low", "high"] (df_is_between Z)) (m_len : mg "len" = none) (m_int : mg "int" = none) (m_isinstance : mg "isinstance" = none) (m_tuple : mg "tuple" = none) (m_str : mg "str" = none) (g_WORDS : GTup K mg "WORDS" [.str "wish", .str "tie", .str "stop", .str "bar"]) :
    FnOk P w K mg base CX0 4 f fd ["thing", "size"] (SpD K 2 (df_is_term Z)) :=
  okN (db := db_is_term Z) G sc_is_term (fun cdv A outer s H Q E F0 M0 H0 hr =>
    (pds_cons (pd_if (PDW.pt (pdw_or (pdt_not (pdt_val (pd_callB (call_isi) sc_isi rfl m_isinstance (by decide +kernel) (pda_cons (pd_v 0) (pda_cons (pd_ty rfl m_tuple (by decide +kernel)) pda_nil))) rfl)) (pdw_or (pdt_cmp op_lt so_lt (pd_callB (call_lenP rfl) sc_len rfl m_len (by decide +kernel) (pda_cons (pd_v 0) pda_nil)) pd_int) (pdw_or (pdt_not (pdt_val (pd_callB (call_isi) sc_isi rfl m_isinstance (by decide +kernel) (pda_cons (pd_ix rfl (pd_v 0) pd_int) (pda_cons (pd_ty rfl m_str (by decide +kernel)) pda_nil))) rfl)) (pdw_or1 (pdt_cmp (op_notInP rfl) (so_in (neg := true)) (pd_ix rfl (pd_v 0) pd_int) (pd_gTup rfl g_WORDS))))))) (pds_one (pd_ret pd_bl)) pds_nil) (pds_cons (pd_par (i := 2) (j := 3) rfl sc_is_term.nd rfl rfl (by decide) rfl rfl (pda_cons (pd_add rfl pd_int (pd_callTy (call_intP) sc_int rfl m_int (by decide +kernel) (pda_cons (pd_cmp (op_inP rfl) (so_in (neg := false)) (pd_ix rfl (pd_v 0) pd_int) (pd_tup (pda_cons pd_str (pda_cons pd_str pda_nil)))) pda_nil))) (pda_cons (pd_cmp (op_inP rfl) (so_in (neg := false)) (pd_ix rfl (pd_v 0) pd_int) (pd_tup (pda_cons pd_str (pda_cons pd_str pda_nil)))) pda_nil))) (pds_cons (pd_if (pdt_cmp (op_neP rfl hr) so_ne (pd_callB (call_lenP rfl) sc_len rfl m_len (by decide +kernel) (pda_cons (pd_v 0) pda_nil)) (pd_add rfl (pd_add rfl pd_int (pd_v 2)) (pd_callTy (call_intP) sc_int rfl m_int (by decide +kernel) (pda_cons (pd_v 3) pda_nil)))) (pds_one (pd_ret pd_bl)) pds_nil) (pds_cons (pd_if (pdt_not (pdt_val (pd_callB (cr_all rfl) sc_all rfl m_all (by decide +kernel) (pda_cons (pd_ofL (pd_lc (own := [("dial", 6)]) rfl sc_is_term.nd (pdi_seq rfl (pd_slice rfl (pd_v 0) (pdo_some pd_int) (pdo_some (pd_add rfl pd_int (pd_v 2))))) (blkOk_by (by kernel_rfl)) (fun _ => (pdg_name (i := 6) sc_is_term.nd rfl (Or.inl rfl) (by decide))) (fun _ => pdts_nil) (fun _ => (pd_f0 (ps := ["thing", "low", "high"]) h_is_between rfl (hr.mono (by decide)) (pda_cons (pd_v 6) (pda_cons pd_int (pda_cons (pd_sub (pd_v 1) pd_int) pda_nil))))))) pda_nil)) rfl)) (pds_one (pd_ret pd_bl)) pds_nil) (pds_cons (pd_if (PDW.pt (pdw_and (pdt_cmp (op_eqP rfl hr) so_eq (pd_v 2) pd_int) (pdw_and1 (pdt_cmp (op_eqP rfl hr) so_eq (pd_ix rfl (pd_v 0) pd_int) (pd_ix rfl (pd_v 0) pd_int))))) (pds_one (pd_ret pd_bl)) pds_nil) (pds_cons (pd_asg (vs := [4, 5]) (pd_slice rfl (pd_v 0) (pdo_some (pd_add rfl pd_int (pd_v 2))) (pdo_some (pd_add rfl pd_int (pd_v 2)))) (pdg_tup rfl rfl (pdgs_cons (pdg_name (i := 4) sc_is_term.nd rfl (Or.inl rfl) (by decide)) (pdgs_cons (pdg_name (i := 5) sc_is_term.nd rfl (Or.inl rfl) (by decide)) pdgs_nil)))) (pds_cons (pd_if (PDW.pt (pdw_or (pdt_not (pdt_val (pd_f0 (ps := ["thing"]) h_is_value rfl (hr.mono (by decide)) (pda_cons (pd_v 4) pda_nil)) rfl)) (pdw_or (pdt_not (pdt_val (pd_f0 (ps := ["thing"]) h_is_value rfl (hr.mono (by decide)) (pda_cons (pd_v 5) pda_nil)) rfl)) (pdw_or1 (pdt_cmp op_gt so_gt (pd_v 4) (pd_v 5)))))) (pds_one (pd_ret pd_bl)) pds_nil) (pds_one (pd_ret (pd_or (pd_not (pd_v 3)) (pd_one (pd_f0 (ps := ["thing"]) h_is_force rfl (hr.mono (by decide)) (pda_cons (pd_ix rfl (pd_v 0) (pd_neg pd_int)) pda_nil)))))))))))))) (sem_is_term Z)
abbrev st_legs : Stmt := top 23
theorem sc_legs : FnScope ["one", "other", "way", "gaps", "levels", "found", "level", "lower", "now", "later", "gap", "dial"] ["one", "other", "way"] (defScope st_legs) := ⟨rfl, rfl, rfl, by decide +kernel, rfl, by decide +kernel, by decide +kernel⟩
theorem ok_legs {P : Program} {w : World} {K : PySem.W.Frag} {mg : Str → Option Value} {base : Heap} {Z : Zs} {f : Addr} {fd : FuncData} (G : FnN K "legs" "legs" st_legs f fd) (m_zip : mg "zip" = none) (m_enumerate : mg "enumerate" = none) (m_sorted : mg "sorted" = none) (m_set : mg "set" = none) :
    FnOk P w K mg base CX0 1 f fd ["one", "other", "way"] (SpD K 3 (df_legs Z)) :=
  okN (db := db_legs Z) G sc_legs (fun cdv A outer s H Q E F0 M0 H0 hr =>
    (pds_cons (pd_setLc (i := 3) (own := [("now", 8), ("later", 9)]) rfl sc_legs.nd rfl rfl (sw_true rfl rfl rfl (by decide +kernel)) (pdi_zip rfl rfl m_zip (pda_cons (pd_v 0) (pda_cons (pd_v 1) pda_nil))) (blkOk_by (by kernel_rfl)) (fun _ => (pdg_tup rfl rfl (pdgs_cons (pdg_name (i := 8) sc_legs.nd rfl (Or.inl rfl) (by decide)) (pdgs_cons (pdg_name (i := 9) sc_legs.nd rfl (Or.inl rfl) (by decide)) pdgs_nil)))) (fun _ => pdts_nil) (fun _ => (pd_mul (pd_v 2) (pd_sub (pd_v 9) (pd_v 8))))) (pds_cons (pd_set (i := 4) sc_legs.nd rfl (Or.inl rfl) (pd_ofL (pd_revL rfl (pd_sortSet rfl rfl rfl m_sorted rfl m_set (pd_ofL (pd_lc (own := [("gap", 10)]) rfl sc_legs.nd (pdi_seq rfl (pd_v 3)) (blkOk_by (by kernel_rfl)) (fun _ => (pdg_name (i := 10) sc_legs.nd rfl (Or.inl rfl) (by decide))) (fun _ => (pdts_one (pdt_cmp op_gt so_gt (pd_v 10) pd_int))) (fun _ => (pd_v 10)))))))) (pds_cons (pd_set (i := 5) sc_legs.nd rfl (Or.inl rfl) (pd_ofM (pdl_lst pda_nil))) (pds_cons (pd_for (vs := [6, 7]) PassesOwn.never rfl (pdi_zip rfl rfl m_zip (pda_cons (pd_v 4) (pda_cons (pd_add rfl (pd_slice rfl (pd_v 4) (pdo_some pd_int) pdo_none) (pd_lst (pda_cons pd_int pda_nil))) pda_nil))) (pdg_tup rfl rfl (pdgs_cons (pdg_name (i := 6) sc_legs.nd rfl (Or.inr rfl) (by decide)) (pdgs_cons (pdg_name (i := 7) sc_legs.nd rfl (Or.inl rfl) (by decide)) pdgs_nil))) (pds_one (pd_expr (pd_bm rfl PySem.F.plainAttrs_list PySem.F.slot_list_append PySem.F.type_list_append mt_append sm_append (pd_v 5) (pda_cons (pd_tup (pda_cons (pd_v 2) (pda_cons (pd_ofL (pd_lc (own := [("dial", 11), ("gap", 10)]) rfl sc_legs.nd (pdi_enum rfl rfl m_enumerate (pda_cons (pd_v 3) pda_nil)) (blkOk_by (by kernel_rfl)) (fun _ => (pdg_tup rfl rfl (pdgs_cons (pdg_name (i := 11) sc_legs.nd rfl (Or.inl rfl) (by decide)) (pdgs_cons (pdg_name (i := 10) sc_legs.nd rfl (Or.inl rfl) (by decide)) pdgs_nil)))) (fun _ => (pdts_one (pdt_cmp op_ge so_ge (pd_v 10) (pd_v 6)))) (fun _ => (pd_v 11)))) (pda_cons (pd_sub (pd_v 6) (pd_v 7)) pda_nil)))) pda_nil))))) (pds_one (pd_ret (pd_frz (pd_v 5))))))))) (sem_legs Z)
abbrev st_shortest : Stmt := top 24
theorem sc_shortest : FnScope ["board", "standing", "other"] ["board", "standing", "other"] (defScope st_shortest) := ⟨rfl, rfl, rfl, by decide +kernel, rfl, by decide +kernel, by decide +kernel⟩
theorem ok_shortest {P : Program} {w : World} {K : PySem.W.Frag} {mg : Str → Option Value} {base : Heap} {Z : Zs} {f : Addr} {fd : FuncData} (G : FnN K "shortest" "shortest" st_shortest f fd) (h_legs : Has0 P w K mg base 1 "legs" ["one", "other", "way"] (df_legs Z)) (h_need_allowed : Has0 P w K mg base 4 "need_allowed" ["board", "standing"] (df_need_allowed Z)) :
    FnOk P w K mg base CX0 5 f fd ["board", "standing", "other"] (SpD K 3 (df_shortest Z)) :=
  okN (db := db_shortest Z) G sc_shortest (fun cdv A outer s H Q E F0 M0 H0 hr =>
    (pds_cons (pd_expr (pd_f0 (ps := ["board", "standing"]) h_need_allowed rfl (hr.mono (by decide)) (pda_cons (pd_v 0) (pda_cons (pd_v 1) pda_nil)))) (pds_cons (pd_expr (pd_f0 (ps := ["board", "standing"]) h_need_allowed rfl (hr.mono (by decide)) (pda_cons (pd_v 0) (pda_cons (pd_v 2) pda_nil)))) (pds_one (pd_ret (pd_add rfl (pd_f0 (ps := ["one", "other", "way"]) h_legs rfl (hr.mono (by decide)) (pda_cons (pd_v 1) (pda_cons (pd_v 2) (pda_cons pd_int pda_nil)))) (pd_f0 (ps := ["one", "other", "way"]) h_legs rfl (hr.mono (by decide)) (pda_cons (pd_v 1) (pda_cons (pd_v 2) (pda_cons (pd_neg pd_int) pda_nil)))))))))) (sem_shortest Z)
abbrev st_Board_init : Stmt := inClass (top 28) 0
theorem sc_Board_init : FnScope ["self", "size", "terms", "term"] ["self", "size", "terms"] (defScope st_Board_init) := ⟨rfl, rfl, rfl, by decide +kernel, rfl, by decide +kernel, by decide +kernel⟩
theorem ok_Board_init {P : Program} {w : World} {K : PySem.W.Frag} {mg : Str → Option Value} {base : Heap} {Z : Zs} {f : Addr} {fd : FuncData} (G : FnN K "__init__" "Board.__init__" st_Board_init f fd) (m_list : mg "list" = none) (cl_Board : Cls K Z.Board) (n_Board_term_list : NoAttr K Z.Board "term_list") (n_Board_dial_count : NoAttr K Z.Board "dial_count") (m_isinstance : mg "isinstance" = none) (m_len : mg "len" = none) (g_MOST_TERMS : GInt mg "MOST_TERMS" 24) (m_all : mg "all" = none) (h_is_term : Has0 P w K mg base 4 "is_term" ["thing", "size"] (df_is_term Z)) (h_is_between : Has0 P w K mg base 2 "is_between" ["thing", "low", "high"] (df_is_between Z)) (g_MOST_DIALS : GInt mg "MOST_DIALS" 8) :
    FnOk P w K mg base CX0 5 f fd ["self", "size", "terms"] (SpD K 3 (df_Board_init Z)) :=
  okN (db := db_Board_init Z) G sc_Board_init (fun cdv A outer s H Q E F0 M0 H0 hr =>
    (pds_cons (pd_if (pdt_not (pdt_val (pd_f0 (ps := ["thing", "low", "high"]) h_is_between rfl (hr.mono (by decide)) (pda_cons (pd_v 1) (pda_cons pd_int (pda_cons (pd_gInt g_MOST_DIALS) pda_nil)))) rfl)) (pds_one pd_never) pds_nil) (pds_cons (pd_if (PDW.pt (pdw_or (pdt_not (pdt_val (pd_callB (call_isi) sc_isi rfl m_isinstance (by decide +kernel) (pda_cons (pd_v 2) (pda_cons (pd_ty rfl m_list (by decide +kernel)) pda_nil))) rfl)) (pdw_or (pdt_cmp op_gt so_gt (pd_callB (call_lenP rfl) sc_len rfl m_len (by decide +kernel) (pda_cons (pd_v 2) pda_nil)) (pd_gInt g_MOST_TERMS)) (pdw_or1 (pdt_not (pdt_val (pd_callB (cr_all rfl) sc_all rfl m_all (by decide +kernel) (pda_cons (pd_ofL (pd_lc (own := [("term", 3)]) rfl sc_Board_init.nd (pdi_seq rfl (pd_v 2)) (blkOk_by (by kernel_rfl)) (fun _ => (pdg_name (i := 3) sc_Board_init.nd rfl (Or.inl rfl) (by decide))) (fun _ => pdts_nil) (fun _ => (pd_f0 (ps := ["thing", "size"]) h_is_term rfl (hr.mono (by decide)) (pda_cons (pd_v 3) (pda_cons (pd_v 1) pda_nil)))))) pda_nil)) rfl)))))) (pds_one pd_never) pds_nil) (pds_cons (pd_setFld rfl cl_Board n_Board_dial_count (pd_v 0) (pd_v 1)) (pds_one (pd_setFld rfl cl_Board n_Board_term_list (pd_v 0) (pd_callTy (call_list_of) sc_list rfl m_list (by decide +kernel) (pda_cons (pd_v 2) pda_nil)))))))) (sem_Board_init Z)
abbrev st_Board_left : Stmt := inClass (top 28) 4
theorem sc_Board_left : FnScope ["self", "standing", "at", "term"] ["self", "standing"] (defScope st_Board_left) := ⟨rfl, rfl, rfl, by decide +kernel, rfl, by decide +kernel, by decide +kernel⟩
theorem ok_Board_left {P : Program} {w : World} {K : PySem.W.Frag} {mg : Str → Option Value} {base : Heap} {Z : Zs} {f : Addr} {fd : FuncData} (G : FnN K "left" "Board.left" st_Board_left f fd) (m_enumerate : mg "enumerate" = none) (cl_Board : Cls K Z.Board) (n_Board_term_list : NoAttr K Z.Board "term_list") (h_is_pulling : Has0 P w K mg base 1 "is_pulling" ["term"] (df_is_pulling Z)) (h_distance : Has0 P w K mg base 2 "distance" ["term", "argument"] (df_distance Z)) (h_argument : Has0 P w K mg base 2 "argument" ["term", "standing"] (df_argument Z)) :
    FnOk P w K mg base CX0 3 f fd ["self", "standing"] (SpD K 2 (df_Board_left Z)) :=
  okN (db := db_Board_left Z) G sc_Board_left (fun cdv A outer s H Q E F0 M0 H0 hr =>
    (pds_cons (pd_for (vs := [2, 3]) PassesOwn.never rfl (pdi_enum rfl rfl m_enumerate (pda_cons (pd_fld (Cs := [Z.Board]) rfl (fun c hc => by cases hc with | head => exact ⟨cl_Board, n_Board_term_list⟩ | tail _ h => cases h) (pd_v 0)) pda_nil)) (pdg_tup rfl rfl (pdgs_cons (pdg_name (i := 2) sc_Board_left.nd rfl (Or.inl rfl) (by decide)) (pdgs_cons (pdg_name (i := 3) sc_Board_left.nd rfl (Or.inl rfl) (by decide)) pdgs_nil))) (pds_one (pd_if (PDW.pt (pdw_and (pdt_not (pdt_val (pd_f0 (ps := ["term"]) h_is_pulling rfl (hr.mono (by decide)) (pda_cons (pd_v 3) pda_nil)) rfl)) (pdw_and1 (pdt_cmp op_gt so_gt (pd_f0 (ps := ["term", "argument"]) h_distance rfl (hr.mono (by decide)) (pda_cons (pd_v 3) (pda_cons (pd_f0 (ps := ["term", "standing"]) h_argument rfl (hr.mono (by decide)) (pda_cons (pd_v 3) (pda_cons (pd_v 1) pda_nil))) pda_nil))) pd_int)))) (pds_one (pd_ret (pd_v 2))) pds_nil))) (pds_one (pd_ret pd_non)))) (sem_Board_left Z)
abbrev st__law_bag : Stmt := top 30
theorem sc__law_bag : FnScope ["_law_script", "_law_cell"] ["_law_script"] (defScope st__law_bag) := ⟨rfl, rfl, rfl, by decide +kernel, rfl, by decide +kernel, by decide +kernel⟩
theorem ok__law_bag {P : Program} {w : World} {K : PySem.W.Frag} {mg : Str → Option Value} {base : Heap} {Z : Zs} {f : Addr} {fd : FuncData} (G : FnN K "_law_bag" "_law_bag" st__law_bag f fd) (m_abs : mg "abs" = none) :
    FnOk P w K mg base CX0 1 f fd ["_law_script"] (SpD K 1 (df__law_bag Z)) :=
  okN (db := db__law_bag Z) G sc__law_bag (fun cdv A outer s H Q E F0 M0 H0 hr =>
    (pds_one (pd_ret (pd_lstM (pda_cons pd_int (pda_cons pd_int (pda_cons pd_int (pda_cons (pd_ofL (pd_lc (own := [("_law_cell", 1)]) rfl sc__law_bag.nd (pdi_seq rfl (pd_slice rfl (pd_v 0) pdo_none (pdo_some pd_int))) (blkOk_by (by kernel_rfl)) (fun _ => (pdg_name (i := 1) sc__law_bag.nd rfl (Or.inl rfl) (by decide))) (fun _ => pdts_nil) (fun _ => (pd_callB (call_abs) sc_abs rfl m_abs (by decide +kernel) (pda_cons (pd_v 1) pda_nil))))) pda_nil)))))))) (sem__law_bag Z)
abbrev st__law_take : Stmt := top 31
theorem sc__law_take : FnScope ["_law_bag_here", "_law_many", "_law_cell", "_law_value", "_law_first", "_law_second"] ["_law_bag_here", "_law_many"] (defScope st__law_take) := ⟨rfl, rfl, rfl, by decide +kernel, rfl, by decide +kernel, by decide +kernel⟩
theorem ok__law_take {P : Program} {w : World} {K : PySem.W.Frag} {mg : Str → Option Value} {base : Heap} {Z : Zs} {f : Addr} {fd : FuncData} (G : FnN K "_law_take" "_law_take" st__law_take f fd) (m_len : mg "len" = none) :
    FnOk P w K mg base CX0 1 f fd ["_law_bag_here", "_law_many"] (SpD K 2 (df__law_take Z)) :=
  okN (db := db__law_take Z) G sc__law_take (fun cdv A outer s H Q E F0 M0 H0 hr =>
    (pds_cons (pd_if (pdt_cmp (op_eqP rfl hr) so_eq (pd_ix rfl (pd_v 0) pd_int) pd_int) (pds_cons (pd_set (i := 2) sc__law_take.nd rfl (Or.inl rfl) pd_int) (pds_cons (pd_if (pdt_cmp op_lt so_lt (pd_ix rfl (pd_v 0) pd_int) (pd_callB (call_lenP rfl) sc_len rfl m_len (by decide +kernel) (pda_cons (pd_ix rfl (pd_v 0) pd_int) pda_nil))) (pds_one (pd_set (i := 2) sc__law_take.nd rfl (Or.inl rfl) (pd_ix rfl (pd_ix rfl (pd_v 0) pd_int) (pd_ix rfl (pd_v 0) pd_int)))) pds_nil) (pds_cons (pd_augSub (f := fun a b => a + b) rfl ip_add (pd_v 0) pd_int pd_int) (pds_cons (pd_if (pdt_cmp op_ge so_ge (pd_v 2) pd_int) (pds_one (pd_setSub (pd_v 2) (pd_v 0) pd_int)) pds_nil) (pds_one (pd_setSub (pd_mod (pd_add rfl (pd_add rfl (pd_mul (pd_ix rfl (pd_v 0) pd_int) pd_int) (pd_mod (pd_v 2) pd_int)) (pd_mul pd_int (pd_ix rfl (pd_v 0) pd_int))) pd_int) (pd_v 0) pd_int)))))) pds_nil) (pds_cons (pd_if (pdt_cmp op_gt so_gt (pd_ix rfl (pd_v 0) pd_int) pd_int) (pds_cons (pd_set (i := 3) sc__law_take.nd rfl (Or.inl rfl) (pd_mod (pd_ix rfl (pd_v 0) pd_int) (pd_v 1))) (pds_cons (pd_setSub (pd_div (pd_ix rfl (pd_v 0) pd_int) (pd_v 1)) (pd_v 0) pd_int) (pds_one (pd_ret (pd_v 3))))) pds_nil) (pds_cons (pd_set (i := 4) sc__law_take.nd rfl (Or.inl rfl) (pd_mod (pd_mul (pd_add rfl (pd_ix rfl (pd_v 0) pd_int) pd_int) pd_int) pd_int)) (pds_cons (pd_set (i := 5) sc__law_take.nd rfl (Or.inl rfl) (pd_mod (pd_mul (pd_mod (pd_mul (pd_v 4) (pd_v 4)) pd_int) pd_int) pd_int)) (pds_cons (pd_if (pdt_cmp op_gt so_gt (pd_v 1) pd_int) (pds_one (pd_ret (pd_mod (pd_add rfl (pd_mul (pd_v 5) pd_int) (pd_v 4)) (pd_v 1)))) pds_nil) (pds_one (pd_ret (pd_mod (pd_div (pd_v 5) pd_int) (pd_v 1)))))))))) (sem__law_take Z)
abbrev st__law_parts : Stmt := top 32
theorem sc__law_parts : FnScope ["_law_term", "_law_begin", "_law_other"] ["_law_term"] (defScope st__law_parts) := ⟨rfl, rfl, rfl, by decide +kernel, rfl, by decide +kernel, by decide +kernel⟩
theorem ok__law_parts {P : Program} {w : World} {K : PySem.W.Frag} {mg : Str → Option Value} {base : Heap} {Z : Zs} {f : Addr} {fd : FuncData} (G : FnN K "_law_parts" "_law_parts" st__law_parts f fd) (m_int : mg "int" = none) :
    FnOk P w K mg base CX0 1 f fd ["_law_term"] (SpD K 1 (df__law_parts Z)) :=
  okN (db := db__law_parts Z) G sc__law_parts (fun cdv A outer s H Q E F0 M0 H0 hr =>
    (pds_cons (pd_set (i := 1) sc__law_parts.nd rfl (Or.inl rfl) (pd_add rfl pd_int (pd_callTy (call_intP) sc_int rfl m_int (by decide +kernel) (pda_cons (pd_cmp (op_inP rfl) (so_in (neg := false)) (pd_ix rfl (pd_v 0) pd_int) (pd_tup (pda_cons pd_str (pda_cons pd_str pda_nil)))) pda_nil)))) (pds_cons (pd_set (i := 2) sc__law_parts.nd rfl (Or.inl rfl) (pd_ifE (pdt_cmp (op_eqP rfl hr) so_eq (pd_v 1) pd_int) (pd_ix rfl (pd_v 0) pd_int) pd_non)) (pds_one (pd_ret (pd_tup (pda_cons (pd_ix rfl (pd_v 0) pd_int) (pda_cons (pd_v 2) (pda_cons (pd_ix rfl (pd_v 0) (pd_v 1)) (pda_cons (pd_ix rfl (pd_v 0) (pd_add rfl (pd_v 1) pd_int)) (pda_cons (pd_ifE (pdt_cmp (op_inP rfl) (so_in (neg := false)) (pd_ix rfl (pd_v 0) pd_int) (pd_tup (pda_cons pd_str (pda_cons pd_str pda_nil)))) (pd_ix rfl (pd_v 0) (pd_neg pd_int)) pd_non) pda_nil))))))))))) (sem__law_parts Z)
abbrev st__law_argument : Stmt := top 33
theorem sc__law_argument : FnScope ["_law_term", "_law_standing", "_law_dial", "_law_other", "_law_low", "_law_high", "_law_force"] ["_law_term", "_law_standing"] (defScope st__law_argument) := ⟨rfl, rfl, rfl, by decide +kernel, rfl, by decide +kernel, by decide +kernel⟩
theorem ok__law_argument {P : Program} {w : World} {K : PySem.W.Frag} {mg : Str → Option Value} {base : Heap} {Z : Zs} {f : Addr} {fd : FuncData} (G : FnN K "_law_argument" "_law_argument" st__law_argument f fd) (h__law_parts : Has0 P w K mg base 1 "_law_parts" ["_law_term"] (df__law_parts Z)) :
    FnOk P w K mg base CX0 2 f fd ["_law_term", "_law_standing"] (SpD K 2 (df__law_argument Z)) :=
  okN (db := db__law_argument Z) G sc__law_argument (fun cdv A outer s H Q E F0 M0 H0 hr =>
    (pds_cons (pd_asg (vs := [2, 3, 4, 5, 6]) (pd_f0 (ps := ["_law_term"]) h__law_parts rfl (hr.mono (by decide)) (pda_cons (pd_v 0) pda_nil)) (pdg_tup rfl rfl (pdgs_cons (pdg_name (i := 2) sc__law_argument.nd rfl (Or.inl rfl) (by decide)) (pdgs_cons (pdg_name (i := 3) sc__law_argument.nd rfl (Or.inl rfl) (by decide)) (pdgs_cons (pdg_name (i := 4) sc__law_argument.nd rfl (Or.inl rfl) (by decide)) (pdgs_cons (pdg_name (i := 5) sc__law_argument.nd rfl (Or.inl rfl) (by decide)) (pdgs_cons (pdg_name (i := 6) sc__law_argument.nd rfl (Or.inl rfl) (by decide)) pdgs_nil))))))) (pds_one (pd_ret (pd_ifE (pdt_cmp op_isN so_isN (pd_v 3) pd_non) (pd_ix rfl (pd_v 1) (pd_v 2)) (pd_sub (pd_ix rfl (pd_v 1) (pd_v 2)) (pd_ix rfl (pd_v 1) (pd_v 3)))))))) (sem__law_argument Z)
abbrev st__law_far : Stmt := top 34
theorem sc__law_far : FnScope ["_law_term", "_law_value", "_law_low", "_law_high"] ["_law_term", "_law_value"] (defScope st__law_far) := ⟨rfl, rfl, rfl, by decide +kernel, rfl, by decide +kernel, by decide +kernel⟩
theorem ok__law_far {P : Program} {w : World} {K : PySem.W.Frag} {mg : Str → Option Value} {base : Heap} {Z : Zs} {f : Addr} {fd : FuncData} (G : FnN K "_law_far" "_law_far" st__law_far f fd) (h__law_parts : Has0 P w K mg base 1 "_law_parts" ["_law_term"] (df__law_parts Z)) :
    FnOk P w K mg base CX0 2 f fd ["_law_term", "_law_value"] (SpD K 2 (df__law_far Z)) :=
  okN (db := db__law_far Z) G sc__law_far (fun cdv A outer s H Q E F0 M0 H0 hr =>
    (pds_cons (pd_asg (vs := [2, 3]) (pd_slice rfl (pd_f0 (ps := ["_law_term"]) h__law_parts rfl (hr.mono (by decide)) (pda_cons (pd_v 0) pda_nil)) (pdo_some pd_int) (pdo_some pd_int)) (pdg_tup rfl rfl (pdgs_cons (pdg_name (i := 2) sc__law_far.nd rfl (Or.inl rfl) (by decide)) (pdgs_cons (pdg_name (i := 3) sc__law_far.nd rfl (Or.inl rfl) (by decide)) pdgs_nil)))) (pds_cons (pd_if (pdt_cmp op_lt so_lt (pd_v 1) (pd_v 2)) (pds_one (pd_ret (pd_sub (pd_v 2) (pd_v 1)))) pds_nil) (pds_one (pd_ret (pd_ifE (pdt_cmp op_gt so_gt (pd_v 1) (pd_v 3)) (pd_sub (pd_v 1) (pd_v 3)) pd_int)))))) (sem__law_far Z)
abbrev st__law_stepped : Stmt := top 35
theorem sc__law_stepped : FnScope ["_law_standing", "_law_way", "_law_group", "_law_dial"] ["_law_standing", "_law_way", "_law_group"] (defScope st__law_stepped) := ⟨rfl, rfl, rfl, by decide +kernel, rfl, by decide +kernel, by decide +kernel⟩
theorem ok__law_stepped {P : Program} {w : World} {K : PySem.W.Frag} {mg : Str → Option Value} {base : Heap} {Z : Zs} {f : Addr} {fd : FuncData} (G : FnN K "_law_stepped" "_law_stepped" st__law_stepped f fd) (m_tuple : mg "tuple" = none) (m_range : mg "range" = none) (m_len : mg "len" = none) (m_int : mg "int" = none) :
    FnOk P w K mg base CX0 1 f fd ["_law_standing", "_law_way", "_law_group"] (SpD K 3 (df__law_stepped Z)) :=
  okN (db := db__law_stepped Z) G sc__law_stepped (fun cdv A outer s H Q E F0 M0 H0 hr =>
    (pds_one (pd_ret (pd_callTy (call_tuple_of) sc_tuple rfl m_tuple (by decide +kernel) (pda_cons (pd_ofL (pd_lc (own := [("_law_dial", 3)]) rfl sc__law_stepped.nd (pdi_range1 rfl m_range (pda_cons (pd_callB (call_lenP rfl) sc_len rfl m_len (by decide +kernel) (pda_cons (pd_v 0) pda_nil)) pda_nil)) (blkOk_by (by kernel_rfl)) (fun _ => (pdg_name (i := 3) sc__law_stepped.nd rfl (Or.inl rfl) (by decide))) (fun _ => pdts_nil) (fun _ => (pd_add rfl (pd_ix rfl (pd_v 0) (pd_v 3)) (pd_mul (pd_v 1) (pd_callTy (call_intP) sc_int rfl m_int (by decide +kernel) (pda_cons (pd_cmp (op_inP rfl) (so_in (neg := false)) (pd_v 3) (pd_v 2)) pda_nil))))))) pda_nil))))) (sem__law_stepped Z)
abbrev st__law_groups : Stmt := top 36
theorem sc__law_groups : FnScope ["_law_size", "_law_found", "_law_dial", "_law_several"] ["_law_size"] (defScope st__law_groups) := ⟨rfl, rfl, rfl, by decide +kernel, rfl, by decide +kernel, by decide +kernel⟩
theorem ok__law_groups {P : Program} {w : World} {K : PySem.W.Frag} {mg : Str → Option Value} {base : Heap} {Z : Zs} {f : Addr} {fd : FuncData} (G : FnN K "_law_groups" "_law_groups" st__law_groups f fd) (m_sorted : mg "sorted" = none) (m_range : mg "range" = none) :
    FnOk P w K mg base CX0 1 f fd ["_law_size"] (SpD K 1 (df__law_groups Z)) :=
  okN (db := db__law_groups Z) G sc__law_groups (fun cdv A outer s H Q E F0 M0 H0 hr =>
    (pds_cons (pd_set (i := 1) sc__law_groups.nd rfl (Or.inl rfl) (pd_lst (pda_cons (pd_lst pda_nil) pda_nil))) (pds_cons (pd_for (vs := [2]) PassesOwn.never rfl (pdi_range1 rfl m_range (pda_cons (pd_v 0) pda_nil)) (pdg_name (i := 2) sc__law_groups.nd rfl (Or.inr rfl) (by decide)) (pds_one (pd_set (i := 1) sc__law_groups.nd rfl (Or.inl rfl) (pd_add rfl (pd_v 1) (pd_ofL (pd_lc (own := [("_law_several", 3)]) rfl sc__law_groups.nd (pdi_seq rfl (pd_v 1)) (blkOk_by (by kernel_rfl)) (fun _ => (pdg_name (i := 3) sc__law_groups.nd rfl (Or.inl rfl) (by decide))) (fun _ => pdts_nil) (fun _ => (pd_add rfl (pd_v 3) (pd_lst (pda_cons (pd_v 2) pda_nil)))))))))) (pds_one (pd_ret (pd_slice rfl (pd_callB (cr_sortedD hr) sc_sortedD rfl m_sorted (by decide +kernel) (pda_cons (pd_v 1) pda_nil)) (pdo_some pd_int) pdo_none)))))) (sem__law_groups Z)
abbrev st__law_number : Stmt := top 37
theorem sc__law_number : FnScope ["_law_bag_here", "_law_scale"] ["_law_bag_here", "_law_scale"] (defScope st__law_number) := ⟨rfl, rfl, rfl, by decide +kernel, rfl, by decide +kernel, by decide +kernel⟩
theorem ok__law_number {P : Program} {w : World} {K : PySem.W.Frag} {mg : Str → Option Value} {base : Heap} {Z : Zs} {f : Addr} {fd : FuncData} (G : FnN K "_law_number" "_law_number" st__law_number f fd) (h__law_take : Has0 P w K mg base 1 "_law_take" ["_law_bag_here", "_law_many"] (df__law_take Z)) :
    FnOk P w K mg base CX0 2 f fd ["_law_bag_here", "_law_scale"] (SpD K 2 (df__law_number Z)) :=
  okN (db := db__law_number Z) G sc__law_number (fun cdv A outer s H Q E F0 M0 H0 hr =>
    (pds_one (pd_ret (pd_sub (pd_f0 (ps := ["_law_bag_here", "_law_many"]) h__law_take rfl (hr.mono (by decide)) (pda_cons (pd_v 0) (pda_cons (pd_add rfl (pd_mul pd_int (pd_v 1)) pd_int) pda_nil))) (pd_v 1))))) (sem__law_number Z)
abbrev st__law_left : Stmt := top 38
theorem sc__law_left : FnScope ["_law_terms", "_law_standing", "_law_at", "_law_far_here", "_law_force"] ["_law_terms", "_law_standing"] (defScope st__law_left) := ⟨rfl, rfl, rfl, by decide +kernel, rfl, by decide +kernel, by decide +kernel⟩
theorem ok__law_left {P : Program} {w : World} {K : PySem.W.Frag} {mg : Str → Option Value} {base : Heap} {Z : Zs} {f : Addr} {fd : FuncData} (G : FnN K "_law_left" "_law_left" st__law_left f fd) (m_range : mg "range" = none) (m_len : mg "len" = none) (h__law_far : Has0 P w K mg base 2 "_law_far" ["_law_term", "_law_value"] (df__law_far Z)) (h__law_argument : Has0 P w K mg base 2 "_law_argument" ["_law_term", "_law_standing"] (df__law_argument Z)) (h__law_parts : Has0 P w K mg base 1 "_law_parts" ["_law_term"] (df__law_parts Z)) :
    FnOk P w K mg base CX0 3 f fd ["_law_terms", "_law_standing"] (SpD K 2 (df__law_left Z)) :=
  okN (db := db__law_left Z) G sc__law_left (fun cdv A outer s H Q E F0 M0 H0 hr =>
    (pds_cons (pd_for (vs := [2]) PassesOwn.never rfl (pdi_range1 rfl m_range (pda_cons (pd_callB (call_lenP rfl) sc_len rfl m_len (by decide +kernel) (pda_cons (pd_v 0) pda_nil)) pda_nil)) (pdg_name (i := 2) sc__law_left.nd rfl (Or.inl rfl) (by decide)) (pds_cons (pd_par (i := 3) (j := 4) rfl sc__law_left.nd rfl rfl (by decide) rfl rfl (pda_cons (pd_f0 (ps := ["_law_term", "_law_value"]) h__law_far rfl (hr.mono (by decide)) (pda_cons (pd_ix rfl (pd_v 0) (pd_v 2)) (pda_cons (pd_f0 (ps := ["_law_term", "_law_standing"]) h__law_argument rfl (hr.mono (by decide)) (pda_cons (pd_ix rfl (pd_v 0) (pd_v 2)) (pda_cons (pd_v 1) pda_nil))) pda_nil))) (pda_cons (pd_ix rfl (pd_f0 (ps := ["_law_term"]) h__law_parts rfl (hr.mono (by decide)) (pda_cons (pd_ix rfl (pd_v 0) (pd_v 2)) pda_nil)) pd_int) pda_nil))) (pds_one (pd_if (PDW.pt (pdw_and (pdt_cmp op_isN so_isN (pd_v 4) pd_non) (pdw_and1 (pdt_cmp op_gt so_gt (pd_v 3) pd_int)))) (pds_one (pd_ret (pd_v 2))) pds_nil)))) (pds_one (pd_ret pd_non)))) (sem__law_left Z)
abbrev st__law_wandered : Stmt := top 39
theorem sc__law_wandered : FnScope ["_law_bag_here", "_law_terms", "_law_standing", "_law_many", "_law_groups_here", "_law_turn", "_law_way", "_law_group", "_law_later"] ["_law_bag_here", "_law_terms", "_law_standing", "_law_many"] (defScope st__law_wandered) := ⟨rfl, rfl, rfl, by decide +kernel, rfl, by decide +kernel, by decide +kernel⟩
theorem ok__law_wandered {P : Program} {w : World} {K : PySem.W.Frag} {mg : Str → Option Value} {base : Heap} {Z : Zs} {f : Addr} {fd : FuncData} (G : FnN K "_law_wandered" "_law_wandered" st__law_wandered f fd) (m_range : mg "range" = none) (h__law_take : Has0 P w K mg base 1 "_law_take" ["_law_bag_here", "_law_many"] (df__law_take Z)) (h__law_left : Has0 P w K mg base 3 "_law_left" ["_law_terms", "_law_standing"] (df__law_left Z)) (h__law_stepped : Has0 P w K mg base 1 "_law_stepped" ["_law_standing", "_law_way", "_law_group"] (df__law_stepped Z)) (m_len : mg "len" = none) (h__law_groups : Has0 P w K mg base 1 "_law_groups" ["_law_size"] (df__law_groups Z)) :
    FnOk P w K mg base CX0 4 f fd ["_law_bag_here", "_law_terms", "_law_standing", "_law_many"] (SpD K 4 (df__law_wandered Z)) :=
  okN (db := db__law_wandered Z) G sc__law_wandered (fun cdv A outer s H Q E F0 M0 H0 hr =>
    (pds_cons (pd_set (i := 4) sc__law_wandered.nd rfl (Or.inl rfl) (pd_f0 (ps := ["_law_size"]) h__law_groups rfl (hr.mono (by decide)) (pda_cons (pd_callB (call_lenP rfl) sc_len rfl m_len (by decide +kernel) (pda_cons (pd_v 2) pda_nil)) pda_nil))) (pds_cons (pd_for (vs := [5]) PassesOwn.never rfl (pdi_range1 rfl m_range (pda_cons (pd_f0 (ps := ["_law_bag_here", "_law_many"]) h__law_take rfl (hr.mono (by decide)) (pda_cons (pd_v 0) (pda_cons (pd_add rfl (pd_v 3) pd_int) pda_nil))) pda_nil)) (pdg_name (i := 5) sc__law_wandered.nd rfl (Or.inl rfl) (by decide)) (pds_cons (pd_par (i := 6) (j := 7) rfl sc__law_wandered.nd rfl rfl (by decide) rfl rfl (pda_cons (pd_ix rfl (pd_lst (pda_cons pd_int (pda_cons (pd_neg pd_int) pda_nil))) (pd_f0 (ps := ["_law_bag_here", "_law_many"]) h__law_take rfl (hr.mono (by decide)) (pda_cons (pd_v 0) (pda_cons pd_int pda_nil)))) (pda_cons (pd_ix rfl (pd_v 4) (pd_f0 (ps := ["_law_bag_here", "_law_many"]) h__law_take rfl (hr.mono (by decide)) (pda_cons (pd_v 0) (pda_cons (pd_callB (call_lenP rfl) sc_len rfl m_len (by decide +kernel) (pda_cons (pd_v 4) pda_nil)) pda_nil)))) pda_nil))) (pds_cons (pd_set (i := 8) sc__law_wandered.nd rfl (Or.inl rfl) (pd_f0 (ps := ["_law_standing", "_law_way", "_law_group"]) h__law_stepped rfl (hr.mono (by decide)) (pda_cons (pd_v 2) (pda_cons (pd_v 6) (pda_cons (pd_v 7) pda_nil))))) (pds_one (pd_if (pdt_cmp op_isN so_isN (pd_f0 (ps := ["_law_terms", "_law_standing"]) h__law_left rfl (hr.mono (by decide)) (pda_cons (pd_v 1) (pda_cons (pd_v 8) pda_nil))) pd_non) (pds_one (pd_set (i := 2) sc__law_wandered.nd rfl (Or.inl rfl) (pd_v 8))) pds_nil))))) (pds_one (pd_ret (pd_v 2)))))) (sem__law_wandered Z)
abbrev st__law_apart : Stmt := top 40
theorem sc__law_apart : FnScope ["_law_one", "_law_other", "_law_rise", "_law_fall", "_law_k"] ["_law_one", "_law_other"] (defScope st__law_apart) := ⟨rfl, rfl, rfl, by decide +kernel, rfl, by decide +kernel, by decide +kernel⟩
theorem ok__law_apart {P : Program} {w : World} {K : PySem.W.Frag} {mg : Str → Option Value} {base : Heap} {Z : Zs} {f : Addr} {fd : FuncData} (G : FnN K "_law_apart" "_law_apart" st__law_apart f fd) (m_range : mg "range" = none) (m_len : mg "len" = none) (m_max : mg "max" = none) :
    FnOk P w K mg base CX0 1 f fd ["_law_one", "_law_other"] (SpD K 2 (df__law_apart Z)) :=
  okN (db := db__law_apart Z) G sc__law_apart (fun cdv A outer s H Q E F0 M0 H0 hr =>
    (pds_cons (pd_asg (vs := [2, 3]) (pd_tup (pda_cons pd_int (pda_cons pd_int pda_nil))) (pdg_tup rfl rfl (pdgs_cons (pdg_name (i := 2) sc__law_apart.nd rfl (Or.inl rfl) (by decide)) (pdgs_cons (pdg_name (i := 3) sc__law_apart.nd rfl (Or.inl rfl) (by decide)) pdgs_nil)))) (pds_cons (pd_for (vs := [4]) PassesOwn.never rfl (pdi_range1 rfl m_range (pda_cons (pd_callB (call_lenP rfl) sc_len rfl m_len (by decide +kernel) (pda_cons (pd_v 0) pda_nil)) pda_nil)) (pdg_name (i := 4) sc__law_apart.nd rfl (Or.inl rfl) (by decide)) (pds_one (pd_par (i := 2) (j := 3) rfl sc__law_apart.nd rfl rfl (by decide) rfl rfl (pda_cons (pd_callB (call_max2 rfl) sc_two rfl m_max (by decide +kernel) (pda_cons (pd_v 2) (pda_cons (pd_sub (pd_ix rfl (pd_v 1) (pd_v 4)) (pd_ix rfl (pd_v 0) (pd_v 4))) pda_nil))) (pda_cons (pd_callB (call_max2 rfl) sc_two rfl m_max (by decide +kernel) (pda_cons (pd_v 3) (pda_cons (pd_sub (pd_ix rfl (pd_v 0) (pd_v 4)) (pd_ix rfl (pd_v 1) (pd_v 4))) pda_nil))) pda_nil))))) (pds_one (pd_ret (pd_tup (pda_cons (pd_v 2) (pda_cons (pd_v 3) pda_nil)))))))) (sem__law_apart Z)
abbrev st__law_near : Stmt := top 41
theorem sc__law_near : FnScope ["_law_bag_here", "_law_size", "_law_scale", "_law_terms", "_law_standing", "_law_most", "_law_turn", "_law_dial", "_law_way", "_law_low", "_law_high", "_law_head", "_law_value", "_law_other"] ["_law_bag_here", "_law_size"] (defScope st__law_near) := ⟨rfl, rfl, rfl, by decide +kernel, rfl, by decide +kernel, by decide +kernel⟩
theorem ok__law_near {P : Program} {w : World} {K : PySem.W.Frag} {mg : Str → Option Value} {base : Heap} {Z : Zs} {f : Addr} {fd : FuncData} (G : FnN K "_law_near" "_law_near" st__law_near f fd) (m_range : mg "range" = none) (h__law_take : Has0 P w K mg base 1 "_law_take" ["_law_bag_here", "_law_many"] (df__law_take Z)) (m_len : mg "len" = none) (m_max : mg "max" = none) (m_min : mg "min" = none) (m_sorted : mg "sorted" = none) (h__law_number : Has0 P w K mg base 2 "_law_number" ["_law_bag_here", "_law_scale"] (df__law_number Z)) (m_tuple : mg "tuple" = none) :
    FnOk P w K mg base CX0 3 f fd ["_law_bag_here", "_law_size"] (SpD K 2 (df__law_near Z)) :=
  okN (db := db__law_near Z) G sc__law_near (fun cdv A outer s H Q E F0 M0 H0 hr =>
    (pds_cons (pd_asg (vs := [2, 3]) (pd_tup (pda_cons (pd_ix rfl (pd_lst (pda_cons pd_int (pda_cons pd_int (pda_cons pd_int pda_nil)))) (pd_sub (pd_v 1) pd_int)) (pda_cons (pd_ofM (pdl_lst pda_nil)) pda_nil))) (pdg_tup rfl rfl (pdgs_cons (pdg_name (i := 2) sc__law_near.nd rfl (Or.inr rfl) (by decide)) (pdgs_cons (pdg_name (i := 3) sc__law_near.nd rfl (Or.inl rfl) (by decide)) pdgs_nil)))) (pds_cons (pd_set (i := 4) sc__law_near.nd rfl (Or.inl rfl) (pd_callTy (call_tuple_of) sc_tuple rfl m_tuple (by decide +kernel) (pda_cons (pd_ofL (pd_lc (own := [("_law_dial", 7)]) rfl sc__law_near.nd (pdi_range1 rfl m_range (pda_cons (pd_v 1) pda_nil)) (blkOk_by (by kernel_rfl)) (fun _ => (pdg_name (i := 7) sc__law_near.nd rfl (Or.inl rfl) (by decide))) (fun _ => pdts_nil) (fun _ => (pd_f0 (ps := ["_law_bag_here", "_law_scale"]) h__law_number rfl (hr.mono (by decide)) (pda_cons (pd_v 0) (pda_cons (pd_v 2) pda_nil)))))) pda_nil))) (pds_cons (pd_set (i := 5) sc__law_near.nd rfl (Or.inl rfl) (pd_ix rfl (pd_lst (pda_cons pd_int (pda_cons pd_int (pda_cons pd_int pda_nil)))) (pd_f0 (ps := ["_law_bag_here", "_law_many"]) h__law_take rfl (hr.mono (by decide)) (pda_cons (pd_v 0) (pda_cons pd_int pda_nil))))) (pds_cons (pd_for (vs := [6]) PassesOwn.never rfl (pdi_range1 rfl m_range (pda_cons (pd_f0 (ps := ["_law_bag_here", "_law_many"]) h__law_take rfl (hr.mono (by decide)) (pda_cons (pd_v 0) (pda_cons pd_int pda_nil))) pda_nil)) (pdg_name (i := 6) sc__law_near.nd rfl (Or.inl rfl) (by decide)) (pds_cons (pd_par (i := 7) (j := 8) rfl sc__law_near.nd rfl rfl (by decide) rfl rfl (pda_cons (pd_f0 (ps := ["_law_bag_here", "_law_many"]) h__law_take rfl (hr.mono (by decide)) (pda_cons (pd_v 0) (pda_cons (pd_v 1) pda_nil))) (pda_cons (pd_f0 (ps := ["_law_bag_here", "_law_many"]) h__law_take rfl (hr.mono (by decide)) (pda_cons (pd_v 0) (pda_cons pd_int pda_nil))) pda_nil))) (pds_cons (pd_asg (vs := [9, 10]) (pd_callB (cr_sortedI) sc_sorted rfl m_sorted (by decide +kernel) (pda_cons (pd_lst (pda_cons (pd_f0 (ps := ["_law_bag_here", "_law_scale"]) h__law_number rfl (hr.mono (by decide)) (pda_cons (pd_v 0) (pda_cons (pd_v 2) pda_nil))) (pda_cons (pd_f0 (ps := ["_law_bag_here", "_law_scale"]) h__law_number rfl (hr.mono (by decide)) (pda_cons (pd_v 0) (pda_cons (pd_v 2) pda_nil))) pda_nil))) pda_nil)) (pdg_tup rfl rfl (pdgs_cons (pdg_name (i := 9) sc__law_near.nd rfl (Or.inl rfl) (by decide)) (pdgs_cons (pdg_name (i := 10) sc__law_near.nd rfl (Or.inl rfl) (by decide)) pdgs_nil)))) (pds_cons (pd_par (i := 11) (j := 12) rfl sc__law_near.nd rfl rfl (by decide) rfl rfl (pda_cons (pd_tup (pda_cons (pd_v 7) pda_nil)) (pda_cons (pd_ix rfl (pd_v 4) (pd_v 7)) pda_nil))) (pds_cons (pd_if (PDW.pt (pdw_and (pdt_cmp op_gt so_gt (pd_v 1) pd_int) (pdw_and1 (pdt_cmp op_lt so_lt (pd_v 8) pd_int)))) (pds_cons (pd_set (i := 13) sc__law_near.nd rfl (Or.inl rfl) (pd_mod (pd_add rfl (pd_add rfl (pd_v 7) pd_int) (pd_f0 (ps := ["_law_bag_here", "_law_many"]) h__law_take rfl (hr.mono (by decide)) (pda_cons (pd_v 0) (pda_cons (pd_sub (pd_v 1) pd_int) pda_nil)))) (pd_v 1))) (pds_one (pd_par (i := 11) (j := 12) rfl sc__law_near.nd rfl rfl (by decide) rfl rfl (pda_cons (pd_tup (pda_cons (pd_v 7) (pda_cons (pd_v 13) pda_nil))) (pda_cons (pd_sub (pd_ix rfl (pd_v 4) (pd_v 7)) (pd_ix rfl (pd_v 4) (pd_v 13))) pda_nil))))) pds_nil) (pds_one (pd_if (PDW.pt (pdw_and (pdt_cmp (op_inP rfl) (so_in (neg := false)) (pd_v 8) (pd_tup (pda_cons pd_int (pda_cons pd_int pda_nil)))) (pdw_and1 (pdt_chain op_le op_le so_le so_le (pd_neg (pd_v 2)) (pd_v 12) (pd_v 2))))) (pds_one (pd_expr (pd_bm rfl PySem.F.plainAttrs_list PySem.F.slot_list_append PySem.F.type_list_append mt_append sm_append (pd_v 3) (pda_cons (pd_add rfl (pd_add rfl (pd_tup (pda_cons (pd_ix rfl (pd_lst (pda_cons pd_str (pda_cons pd_str pda_nil))) (pd_sub (pd_callB (call_lenP rfl) sc_len rfl m_len (by decide +kernel) (pda_cons (pd_v 11) pda_nil)) pd_int)) pda_nil)) (pd_v 11)) (pd_tup (pda_cons (pd_callB (call_min2 rfl) sc_two rfl m_min (by decide +kernel) (pda_cons (pd_v 9) (pda_cons (pd_v 12) pda_nil))) (pda_cons (pd_callB (call_max2 rfl) sc_two rfl m_max (by decide +kernel) (pda_cons (pd_v 10) (pda_cons (pd_v 12) pda_nil))) pda_nil)))) pda_nil)))) (pds_one (pd_expr (pd_bm rfl PySem.F.plainAttrs_list PySem.F.slot_list_append PySem.F.type_list_append mt_append sm_append (pd_v 3) (pda_cons (pd_add rfl (pd_add rfl (pd_tup (pda_cons (pd_ix rfl (pd_lst (pda_cons pd_str (pda_cons pd_str pda_nil))) (pd_sub (pd_callB (call_lenP rfl) sc_len rfl m_len (by decide +kernel) (pda_cons (pd_v 11) pda_nil)) pd_int)) pda_nil)) (pd_v 11)) (pd_tup (pda_cons (pd_v 9) (pda_cons (pd_v 10) (pda_cons (pd_add rfl pd_int (pd_f0 (ps := ["_law_bag_here", "_law_many"]) h__law_take rfl (hr.mono (by decide)) (pda_cons (pd_v 0) (pda_cons (pd_v 5) pda_nil)))) pda_nil))))) pda_nil))))))))))) (pds_one (pd_ret (pd_tup (pda_cons (pd_v 4) (pda_cons (pd_frz (pd_v 3)) pda_nil)))))))))) (sem__law_near Z)
abbrev st__law_layers : Stmt := top 42
theorem sc__law_layers : FnScope ["_law_terms", "_law_standing", "_law_other", "_law_most", "_law_known", "_law_layer", "_law_groups_here", "_law_number_here", "_law_later", "_law_one", "_law_way", "_law_next_one", "_law_group"] ["_law_terms", "_law_standing", "_law_other", "_law_most"] (defScope st__law_layers) := ⟨rfl, rfl, rfl, by decide +kernel, rfl, by decide +kernel, by decide +kernel⟩
theorem ok__law_layers {P : Program} {w : World} {K : PySem.W.Frag} {mg : Str → Option Value} {base : Heap} {Z : Zs} {f : Addr} {fd : FuncData} (G : FnN K "_law_layers" "_law_layers" st__law_layers f fd) (m_range : mg "range" = none) (h__law_stepped : Has0 P w K mg base 1 "_law_stepped" ["_law_standing", "_law_way", "_law_group"] (df__law_stepped Z)) (h__law_left : Has0 P w K mg base 3 "_law_left" ["_law_terms", "_law_standing"] (df__law_left Z)) (h__law_groups : Has0 P w K mg base 1 "_law_groups" ["_law_size"] (df__law_groups Z)) (m_len : mg "len" = none) :
    FnOk P w K mg base CX0 4 f fd ["_law_terms", "_law_standing", "_law_other", "_law_most"] (SpD K 4 (df__law_layers Z)) :=
  okNf (db := db__law_layers Z) G sc__law_layers (fun cdv A outer s H Q E F0 M0 H0 hr =>
    (pds_cons (pd_par3 (i := 4) (j := 5) (l := 6) rfl sc__law_layers.nd rfl rfl rfl (by decide) (by decide) (by decide) rfl rfl rfl (pda_cons (pd_disp1T hr (pd_v 1) pd_bl) (pda_cons (pd_lst (pda_cons (pd_v 1) pda_nil)) (pda_cons (pd_f0 (ps := ["_law_size"]) h__law_groups rfl (hr.mono (by decide)) (pda_cons (pd_callB (call_lenP rfl) sc_len rfl m_len (by decide +kernel) (pda_cons (pd_v 1) pda_nil)) pda_nil)) pda_nil)))) (pds_cons (pd_for (vs := [7]) PassesOwn.never rfl (pdi_range1 rfl m_range (pda_cons (pd_add rfl (pd_v 3) pd_int) pda_nil)) (pdg_name (i := 7) sc__law_layers.nd rfl (Or.inl rfl) (by decide)) (pds_cons (pd_if (pdt_inD hr (pd_v 2) (pd_v 4)) (pds_one (pd_ret (pd_v 7))) pds_nil) (pds_cons (pd_set (i := 8) sc__law_layers.nd rfl (Or.inl rfl) (pd_ofM (pdl_lst pda_nil))) (pds_cons (pd_for (vs := [9]) PassesOwn.never rfl (pdi_seq rfl (pd_v 5)) (pdg_name (i := 9) sc__law_layers.nd rfl (Or.inr rfl) (by decide)) (pds_one (pd_for (vs := [10]) PassesOwn.never rfl (pdi_seq rfl (pd_tup (pda_cons pd_int (pda_cons (pd_neg pd_int) pda_nil)))) (pdg_name (i := 10) sc__law_layers.nd rfl (Or.inr rfl) (by decide)) (pds_one (pd_for (vs := [11]) PassesOwn.never rfl (pdi_seq rfl (pd_ofL (pd_lc (own := [("_law_group", 12)]) rfl sc__law_layers.nd (pdi_seq rfl (pd_v 6)) (blkOk_by (by kernel_rfl)) (fun _ => (pdg_name (i := 12) sc__law_layers.nd rfl (Or.inl rfl) (by decide))) (fun _ => pdts_nil) (fun _ => (pd_f0 (ps := ["_law_standing", "_law_way", "_law_group"]) h__law_stepped rfl (hr.mono (by decide)) (pda_cons (pd_v 9) (pda_cons (pd_v 10) (pda_cons (pd_v 12) pda_nil)))))))) (pdg_name (i := 11) sc__law_layers.nd rfl (Or.inl rfl) (by decide)) (pds_one (pd_if (PDW.pt (pdw_and (pdt_notInD hr (pd_v 11) (pd_v 4)) (pdw_and1 (pdt_cmp op_isN so_isN (pd_f0 (ps := ["_law_terms", "_law_standing"]) h__law_left rfl (hr.mono (by decide)) (pda_cons (pd_v 0) (pda_cons (pd_v 11) pda_nil))) pd_non)))) (pds_cons (pd_dput hr pd_bl (pd_v 4) (pd_v 11)) (pds_one (pd_expr (pd_bm rfl PySem.F.plainAttrs_list PySem.F.slot_list_append PySem.F.type_list_append mt_append sm_append (pd_v 8) (pda_cons (pd_v 11) pda_nil))))) pds_nil))))))) (pds_one (pd_set (i := 5) sc__law_layers.nd rfl (Or.inl rfl) (pd_frz (pd_v 8)))))))) (pds_one (pd_ret pd_non))))) (sem__law_layers Z)
abbrev st_law : Stmt := top 43
theorem sc_law : FnScope ["_law_script", "_law_bag_here", "_law_k", "_law_size", "_law_standing", "_law_terms", "_law_other", "_law_due", "_law_plan", "_law_term", "_law_item"] ["_law_script"] (defScope st_law) := ⟨rfl, rfl, rfl, by decide +kernel, rfl, by decide +kernel, by decide +kernel⟩
theorem ok_law {P : Program} {w : World} {K : PySem.W.Frag} {mg : Str → Option Value} {base : Heap} {Z : Zs} {f : Addr} {fd : FuncData} (G : FnN K "law" "law" st_law f fd) (m_range : mg "range" = none) (m_sum : mg "sum" = none) (h__law_apart : Has0 P w K mg base 1 "_law_apart" ["_law_one", "_law_other"] (df__law_apart Z)) (h_shortest : Has0 P w K mg base 5 "shortest" ["board", "standing", "other"] (df_shortest Z)) (h_Board : HasC0 P w K mg base Z.Board 5 "Board" ["self", "size", "terms"] (df_Board_init Z)) (h__law_layers : Has0 P w K mg base 4 "_law_layers" ["_law_terms", "_law_standing", "_law_other", "_law_most"] (df__law_layers Z)) (h__law_wandered : Has0 P w K mg base 4 "_law_wandered" ["_law_bag_here", "_law_terms", "_law_standing", "_law_many"] (df__law_wandered Z)) (h__law_take : Has0 P w K mg base 1 "_law_take" ["_law_bag_here", "_law_many"] (df__law_take Z)) (h__law_near : Has0 P w K mg base 3 "_law_near" ["_law_bag_here", "_law_size"] (df__law_near Z)) (h__law_bag : Has0 P w K mg base 1 "_law_bag" ["_law_script"] (df__law_bag Z)) :
    FnOk P w K mg base CX0 7 f fd ["_law_script"] (SpD K 1 (df_law Z)) :=
  okN (db := db_law Z) G sc_law (fun cdv A outer s H Q E F0 M0 H0 hr =>
    (pds_cons (pd_set (i := 1) sc_law.nd rfl (Or.inr rfl) (pd_f0 (ps := ["_law_script"]) h__law_bag rfl (hr.mono (by decide)) (pda_cons (pd_v 0) pda_nil))) (pds_cons (pd_for (vs := [2]) PassesOwn.never rfl (pdi_range1 rfl m_range (pda_cons pd_int pda_nil)) (pdg_name (i := 2) sc_law.nd rfl (Or.inl rfl) (by decide)) (pds_cons (pd_set (i := 3) sc_law.nd rfl (Or.inl rfl) (pd_ix rfl (pd_lst (pda_cons pd_int (pda_cons pd_int (pda_cons pd_int (pda_cons pd_int pda_nil))))) (pd_f0 (ps := ["_law_bag_here", "_law_many"]) h__law_take rfl (hr.mono (by decide)) (pda_cons (pd_v 1) (pda_cons pd_int pda_nil))))) (pds_cons (pd_asg (vs := [4, 5]) (pd_f0 (ps := ["_law_bag_here", "_law_size"]) h__law_near rfl (hr.mono (by decide)) (pda_cons (pd_v 1) (pda_cons (pd_v 3) pda_nil))) (pdg_tup rfl rfl (pdgs_cons (pdg_name (i := 4) sc_law.nd rfl (Or.inl rfl) (by decide)) (pdgs_cons (pdg_name (i := 5) sc_law.nd rfl (Or.inl rfl) (by decide)) pdgs_nil)))) (pds_cons (pd_setLc (i := 5) (own := [("_law_term", 9)]) rfl sc_law.nd rfl rfl (sw_true rfl rfl rfl (by decide +kernel)) (pdi_seq rfl (pd_v 5)) (blkOk_by (by kernel_rfl)) (fun _ => (pdg_name (i := 9) sc_law.nd rfl (Or.inl rfl) (by decide))) (fun _ => (pdts_one (PDW.pt (pdw_or (pdt_cmp op_gt so_gt (pd_f0 (ps := ["_law_bag_here", "_law_many"]) h__law_take rfl (hr.mono (by decide)) (pda_cons (pd_v 1) (pda_cons pd_int pda_nil))) pd_int) (pdw_or1 (pdt_cmp (op_inP rfl) (so_in (neg := false)) (pd_ix rfl (pd_v 9) pd_int) (pd_tup (pda_cons pd_str (pda_cons pd_str pda_nil))))))))) (fun _ => (pd_v 9))) (pds_cons (pd_set (i := 6) sc_law.nd rfl (Or.inl rfl) (pd_f0 (ps := ["_law_bag_here", "_law_terms", "_law_standing", "_law_many"]) h__law_wandered rfl (hr.mono (by decide)) (pda_cons (pd_v 1) (pda_cons (pd_v 5) (pda_cons (pd_v 4) (pda_cons (pd_ix rfl (pd_lst (pda_cons pd_int (pda_cons pd_int (pda_cons pd_int pda_nil)))) (pd_sub (pd_v 3) pd_int)) pda_nil)))))) (pds_cons (pd_set (i := 7) sc_law.nd rfl (Or.inl rfl) (pd_f0 (ps := ["_law_terms", "_law_standing", "_law_other", "_law_most"]) h__law_layers rfl (hr.mono (by decide)) (pda_cons (pd_v 5) (pda_cons (pd_v 4) (pda_cons (pd_v 6) (pda_cons pd_int pda_nil)))))) (pds_cons (pd_set (i := 8) sc_law.nd rfl (Or.inl rfl) (pd_f0 (ps := ["board", "standing", "other"]) h_shortest rfl (hr.mono (by decide)) (pda_cons (pd_frz (pd_c0 (ps := ["self", "size", "terms"]) h_Board rfl (hr.mono (by decide)) (pda_cons (pd_v 3) (pda_cons (pd_v 5) pda_nil)))) (pda_cons (pd_v 4) (pda_cons (pd_v 6) pda_nil))))) (pds_one (pd_if (PDW.pt (pdw_or (pdt_cmp op_isN so_isN (pd_v 7) pd_non) (pdw_or (pdt_cmp (op_neP rfl hr) so_ne (pd_v 7) (pd_callB (cr_sumP rfl rfl) sc_sumP rfl m_sum (by decide +kernel) (pda_cons (pd_f0 (ps := ["_law_one", "_law_other"]) h__law_apart rfl (hr.mono (by decide)) (pda_cons (pd_v 4) (pda_cons (pd_v 6) pda_nil))) pda_nil))) (pdw_or1 (pdt_cmp (op_neP rfl hr) so_ne (pd_callB (cr_sumP rfl rfl) sc_sumP rfl m_sum (by decide +kernel) (pda_cons (pd_ofL (pd_lc (own := [("_law_item", 10)]) rfl sc_law.nd (pdi_seq rfl (pd_v 8)) (blkOk_by (by kernel_rfl)) (fun _ => (pdg_name (i := 10) sc_law.nd rfl (Or.inl rfl) (by decide))) (fun _ => pdts_nil) (fun _ => (pd_ix rfl (pd_v 10) pd_int)))) pda_nil)) (pd_v 7)))))) (pds_one (pd_ret pd_bl)) pds_nil))))))))) (pds_one (pd_ret pd_bl))))) (sem_law Z)
end DL

set_option Elab.async false
set_option linter.all false
set_option maxRecDepth 100000
set_option maxHeartbeats 0
namespace DL
open PySem L2
theorem law_sp {K : PySem.W.Frag} {H : Hp} {a : Addr} {ns : List Int} {Z : Zs} {E : XK} (hS : SqL K H a (ns.map V.int)) : SpD K 1 (df_law Z) [.ref a] H (fun v _ => v = .bl true) E :=
  ⟨H, fun _ => none, [.flst (ns.map D.int)], fun d _ => d = .bl true, noX, ⟨Same.refl H, nofun⟩, .cons (.flst hS (Reps.of_ints ns)) .nil, rfl, ⟨ns, rfl, fun _ => rfl⟩,
    fun d v F' M' H' w g r h => (by subst h; cases r; rfl), fun c fs F' M' H' o w g r h => h.elim⟩
end DL
namespace H55
open PySem PySem.Spec PyProof.Rows L2 DL
def d_is_pulling : He.DefD := ⟨("is_pulling", none), "is_pulling", "is_pulling", defArgs st_is_pulling, defBody st_is_pulling, defScope st_is_pulling, [], []⟩
def d_other_of : He.DefD := ⟨("other_of", none), "other_of", "other_of", defArgs st_other_of, defBody st_other_of, defScope st_other_of, [], []⟩
def d_ends_of : He.DefD := ⟨("ends_of", none), "ends_of", "ends_of", defArgs st_ends_of, defBody st_ends_of, defScope st_ends_of, [], []⟩
def d_argument : He.DefD := ⟨("argument", none), "argument", "argument", defArgs st_argument, defBody st_argument, defScope st_argument, [], []⟩
def d_distance : He.DefD := ⟨("distance", none), "distance", "distance", defArgs st_distance, defBody st_distance, defScope st_distance, [], []⟩
def d_Board_left : He.DefD := ⟨("Board", some "left"), "left", "Board.left", defArgs st_Board_left, defBody st_Board_left, defScope st_Board_left, [], []⟩
def d_need_allowed : He.DefD := ⟨("need_allowed", none), "need_allowed", "need_allowed", defArgs st_need_allowed, defBody st_need_allowed, defScope st_need_allowed, [], []⟩
def d_is_integer : He.DefD := ⟨("is_integer", none), "is_integer", "is_integer", defArgs st_is_integer, defBody st_is_integer, defScope st_is_integer, [], []⟩
def d_is_between : He.DefD := ⟨("is_between", none), "is_between", "is_between", defArgs st_is_between, defBody st_is_between, defScope st_is_between, [], []⟩
def d_is_value : He.DefD := ⟨("is_value", none), "is_value", "is_value", defArgs st_is_value, defBody st_is_value, defScope st_is_value, [], []⟩
def d_is_force : He.DefD := ⟨("is_force", none), "is_force", "is_force", defArgs st_is_force, defBody st_is_force, defScope st_is_force, [], []⟩
def d_is_term : He.DefD := ⟨("is_term", none), "is_term", "is_term", defArgs st_is_term, defBody st_is_term, defScope st_is_term, [], []⟩
def d_legs : He.DefD := ⟨("legs", none), "legs", "legs", defArgs st_legs, defBody st_legs, defScope st_legs, [], []⟩
def d_shortest : He.DefD := ⟨("shortest", none), "shortest", "shortest", defArgs st_shortest, defBody st_shortest, defScope st_shortest, [], []⟩
def d_Board_init : He.DefD := ⟨("Board", some "__init__"), "__init__", "Board.__init__", defArgs st_Board_init, defBody st_Board_init, defScope st_Board_init, [], []⟩
def d__law_bag : He.DefD := ⟨("_law_bag", none), "_law_bag", "_law_bag", defArgs st__law_bag, defBody st__law_bag, defScope st__law_bag, [], []⟩
def d__law_take : He.DefD := ⟨("_law_take", none), "_law_take", "_law_take", defArgs st__law_take, defBody st__law_take, defScope st__law_take, [], []⟩
def d__law_parts : He.DefD := ⟨("_law_parts", none), "_law_parts", "_law_parts", defArgs st__law_parts, defBody st__law_parts, defScope st__law_parts, [], []⟩
def d__law_argument : He.DefD := ⟨("_law_argument", none), "_law_argument", "_law_argument", defArgs st__law_argument, defBody st__law_argument, defScope st__law_argument, [], []⟩
def d__law_far : He.DefD := ⟨("_law_far", none), "_law_far", "_law_far", defArgs st__law_far, defBody st__law_far, defScope st__law_far, [], []⟩
def d__law_stepped : He.DefD := ⟨("_law_stepped", none), "_law_stepped", "_law_stepped", defArgs st__law_stepped, defBody st__law_stepped, defScope st__law_stepped, [], []⟩
def d__law_groups : He.DefD := ⟨("_law_groups", none), "_law_groups", "_law_groups", defArgs st__law_groups, defBody st__law_groups, defScope st__law_groups, [], []⟩
def d__law_number : He.DefD := ⟨("_law_number", none), "_law_number", "_law_number", defArgs st__law_number, defBody st__law_number, defScope st__law_number, [], []⟩
def d__law_left : He.DefD := ⟨("_law_left", none), "_law_left", "_law_left", defArgs st__law_left, defBody st__law_left, defScope st__law_left, [], []⟩
def d__law_wandered : He.DefD := ⟨("_law_wandered", none), "_law_wandered", "_law_wandered", defArgs st__law_wandered, defBody st__law_wandered, defScope st__law_wandered, [], []⟩
def d__law_apart : He.DefD := ⟨("_law_apart", none), "_law_apart", "_law_apart", defArgs st__law_apart, defBody st__law_apart, defScope st__law_apart, [], []⟩
def d__law_near : He.DefD := ⟨("_law_near", none), "_law_near", "_law_near", defArgs st__law_near, defBody st__law_near, defScope st__law_near, [], []⟩
def d__law_layers : He.DefD := ⟨("_law_layers", none), "_law_layers", "_law_layers", defArgs st__law_layers, defBody st__law_layers, defScope st__law_layers, [], []⟩
def d_law : He.DefD := ⟨("law", none), "law", "law", defArgs st_law, defBody st_law, defScope st_law, [], []⟩
def fn : List He.DefD := [d_is_pulling, d_other_of, d_ends_of, d_argument, d_distance, d_Board_left, d_need_allowed, d_is_integer, d_is_between, d_is_value, d_is_force, d_is_term, d_legs, d_shortest, d_Board_init, d__law_bag, d__law_take, d__law_parts, d__law_argument, d__law_far, d__law_stepped, d__law_groups, d__law_number, d__law_left, d__law_wandered, d__law_apart, d__law_near, d__law_layers, d_law]
def fa : List He.Fa := [.glo "is_pulling", .glo "other_of", .glo "ends_of", .glo "argument", .free "max", .glo "distance", .free "enumerate", .cls "Board", .noat "Board" "term_list", .meth "Board" "left", .glo "need_allowed", .free "isinstance", .free "int", .free "bool", .glo "is_integer", .glo "is_between", .int "FARTHEST" 1000000000000000000, .glo "is_value", .int "MOST_FORCE" 30, .glo "is_force", .free "all", .free "len", .free "tuple", .free "str", .glo "WORDS", .glo "is_term", .free "zip", .free "sorted", .free "set", .glo "legs", .glo "shortest", .free "list", .noat "Board" "dial_count", .int "MOST_TERMS" 24, .int "MOST_DIALS" 8, .glo "Board", .mkr "Board", .free "abs", .glo "_law_bag", .glo "_law_take", .glo "_law_parts", .glo "_law_argument", .glo "_law_far", .free "range", .glo "_law_stepped", .glo "_law_groups", .glo "_law_number", .glo "_law_left", .glo "_law_wandered", .glo "_law_apart", .free "min", .glo "_law_near", .glo "_law_layers", .free "sum", .glo "law"]
def ex (K : PySem.W.Frag) : Bool := He.tupB K "WORDS" [.str "wish", .str "tie", .str "stop", .str "bar"]
def zs (K : PySem.W.Frag) : Zs := ⟨He.ga K "Board"⟩
abbrev R : PySem.W.OpenRow := PySem.W.OpenLaw.row PySem.Challenge.rw_mostpulled_k55_whole_no_plan_is_shorter
def looses : List PySem.Str := ["_wall", "PullError", "Wrong", "NotAllowed", "is_pulling", "other_of", "ends_of", "argument", "distance", "need_allowed", "FARTHEST", "MOST_FORCE", "WORDS", "is_integer", "is_between", "is_value", "is_force", "is_term", "legs", "shortest", "MOST_DIALS", "MOST_TERMS", "Board", "_law_bag", "_law_take", "_law_parts", "_law_argument", "_law_far", "_law_stepped", "_law_groups"]
def looses2 : List PySem.Str := ["_law_number", "_law_left", "_law_wandered", "_law_apart", "_law_near", "_law_layers"]
abbrev hk : PySem.W.Hook := He.hookX 5 fa fn [] [] ex
def ob (s : PySem.W.SharedT) : He.AlX := He.obsX 5 fa fn [] [] ex (HandSHeadRun.getT s)
theorem ob_eq (s : PySem.W.SharedT) : ob s = hk.obs s.abs := He.obsX_eq (HandSHeadRun.getT_eq s)
theorem run (w : World) : HandSHeadRun.RunEq R (PySem.W.view R.prog [43]) hk ob 5000 (looses ++ looses2) w := by
  intro os
  kernel_rfl
def spLaw (K : PySem.W.Frag) : Sp := SpD K 1 (df_law (zs K))
theorem facts {P : Program} {w : World} {K : PySem.W.Frag} {h : Heap} {mg : Str → Option Value} {f : Addr} (X : K.In h) (G : h.Ns mainGlobals mg) (hfa : mg ("law" : Str) = some (.ref f)) (c : He.SaysD fa fn K) (hx : ex K = true) :
    ∃ fd : FuncData, (∀ (s : Shared) (v : Value), BindsTo s fd ⟨[v], []⟩ [("_law_script", v)]) ∧ ∀ base : Heap, K.In base → base.Ns mainGlobals mg → FnOk P w K mg base CX0 7 f fd ["_law_script"] (spLaw K) := by
  have e := hfa.symm.trans (He.glo_ok X G (c.fact 54 (f := .glo "law") rfl))
  cases e
  obtain ⟨fd, F⟩ := c.def_ 28 (d := d_law) rfl
  have b := FunD.bindsA (ps := ["_law_script"]) F fun _ _ _ _ _ _ us hl => match us, hl with | [_], _ => rfl
  refine ⟨fd, fun s v => b s [v] rfl, fun base _ _ => ?_⟩
  have t_WORDS : GTup K mg "WORDS" [.str "wish", .str "tie", .str "stop", .str "bar"] := ⟨_, _, He.glo_ok X G (c.fact 24 (f := .glo "WORDS") rfl), fun F => He.tupB_ok hx F, fun F => Reps.of_strs ["wish", "tie", "stop", "bar"]⟩
  obtain ⟨fd_is_pulling, F_is_pulling⟩ := c.def_ 0 (d := d_is_pulling) rfl
  have b_is_pulling : Binds K fd_is_pulling ["term"] [] := F_is_pulling.bindsN fun _ _ _ _ _ _ us hl => match us, hl with | [_], _ => rfl
  have k_is_pulling := ok_is_pulling (P := P) (w := w) (mg := mg) (base := base) (Z := zs K) F_is_pulling 
  have h_is_pulling : Has0 P w K mg base 1 "is_pulling" ["term"] (df_is_pulling (zs K)) := ⟨_, fd_is_pulling, He.glo_ok X G (c.fact 0 (f := .glo "is_pulling") rfl), F_is_pulling.kp, b_is_pulling, k_is_pulling⟩
  obtain ⟨fd_other_of, F_other_of⟩ := c.def_ 1 (d := d_other_of) rfl
  have b_other_of : Binds K fd_other_of ["term"] [] := F_other_of.bindsN fun _ _ _ _ _ _ us hl => match us, hl with | [_], _ => rfl
  have k_other_of := ok_other_of (P := P) (w := w) (mg := mg) (base := base) (Z := zs K) F_other_of 
  have h_other_of : Has0 P w K mg base 1 "other_of" ["term"] (df_other_of (zs K)) := ⟨_, fd_other_of, He.glo_ok X G (c.fact 1 (f := .glo "other_of") rfl), F_other_of.kp, b_other_of, k_other_of⟩
  obtain ⟨fd_ends_of, F_ends_of⟩ := c.def_ 2 (d := d_ends_of) rfl
  have b_ends_of : Binds K fd_ends_of ["term"] [] := F_ends_of.bindsN fun _ _ _ _ _ _ us hl => match us, hl with | [_], _ => rfl
  have k_ends_of := ok_ends_of (P := P) (w := w) (mg := mg) (base := base) (Z := zs K) F_ends_of 
  have h_ends_of : Has0 P w K mg base 1 "ends_of" ["term"] (df_ends_of (zs K)) := ⟨_, fd_ends_of, He.glo_ok X G (c.fact 2 (f := .glo "ends_of") rfl), F_ends_of.kp, b_ends_of, k_ends_of⟩
  obtain ⟨fd_argument, F_argument⟩ := c.def_ 3 (d := d_argument) rfl
  have b_argument : Binds K fd_argument ["term", "standing"] [] := F_argument.bindsN fun _ _ _ _ _ _ us hl => match us, hl with | [_, _], _ => rfl
  have k_argument := ok_argument (P := P) (w := w) (mg := mg) (base := base) (Z := zs K) F_argument h_other_of
  have h_argument : Has0 P w K mg base 2 "argument" ["term", "standing"] (df_argument (zs K)) := ⟨_, fd_argument, He.glo_ok X G (c.fact 3 (f := .glo "argument") rfl), F_argument.kp, b_argument, k_argument⟩
  obtain ⟨fd_distance, F_distance⟩ := c.def_ 4 (d := d_distance) rfl
  have b_distance : Binds K fd_distance ["term", "argument"] [] := F_distance.bindsN fun _ _ _ _ _ _ us hl => match us, hl with | [_, _], _ => rfl
  have k_distance := ok_distance (P := P) (w := w) (mg := mg) (base := base) (Z := zs K) F_distance (He.free_ok X G (c.fact 4 (f := .free "max") rfl)) h_ends_of
  have h_distance : Has0 P w K mg base 2 "distance" ["term", "argument"] (df_distance (zs K)) := ⟨_, fd_distance, He.glo_ok X G (c.fact 5 (f := .glo "distance") rfl), F_distance.kp, b_distance, k_distance⟩
  obtain ⟨fd_Board_left, F_Board_left⟩ := c.def_ 5 (d := d_Board_left) rfl
  have b_Board_left : Binds K fd_Board_left ["self", "standing"] [] := F_Board_left.bindsN fun _ _ _ _ _ _ us hl => match us, hl with | [_, _], _ => rfl
  have k_Board_left := ok_Board_left (P := P) (w := w) (mg := mg) (base := base) (Z := zs K) F_Board_left (He.free_ok X G (c.fact 6 (f := .free "enumerate") rfl)) (He.cls_ok (c.fact 7 (f := .cls "Board") rfl)) (He.noat_ok (c.fact 8 (f := .noat "Board" "term_list") rfl)) h_is_pulling h_distance h_argument
  have h_Board_left : HasM0 P w K mg base (zs K).Board 3 "left" ["self", "standing"] (df_Board_left (zs K)) := ⟨_, fd_Board_left, He.meth_ok (c.fact 9 (f := .meth "Board" "left") rfl), b_Board_left, k_Board_left⟩
  obtain ⟨fd_need_allowed, F_need_allowed⟩ := c.def_ 6 (d := d_need_allowed) rfl
  have b_need_allowed : Binds K fd_need_allowed ["board", "standing"] [] := F_need_allowed.bindsN fun _ _ _ _ _ _ us hl => match us, hl with | [_, _], _ => rfl
  have k_need_allowed := ok_need_allowed (P := P) (w := w) (mg := mg) (base := base) (Z := zs K) F_need_allowed (He.cls_ok (c.fact 7 (f := .cls "Board") rfl)) h_Board_left
  have h_need_allowed : Has0 P w K mg base 4 "need_allowed" ["board", "standing"] (df_need_allowed (zs K)) := ⟨_, fd_need_allowed, He.glo_ok X G (c.fact 10 (f := .glo "need_allowed") rfl), F_need_allowed.kp, b_need_allowed, k_need_allowed⟩
  obtain ⟨fd_is_integer, F_is_integer⟩ := c.def_ 7 (d := d_is_integer) rfl
  have b_is_integer : Binds K fd_is_integer ["thing"] [] := F_is_integer.bindsN fun _ _ _ _ _ _ us hl => match us, hl with | [_], _ => rfl
  have k_is_integer := ok_is_integer (P := P) (w := w) (mg := mg) (base := base) (Z := zs K) F_is_integer (He.free_ok X G (c.fact 11 (f := .free "isinstance") rfl)) (He.free_ok X G (c.fact 12 (f := .free "int") rfl)) (He.free_ok X G (c.fact 13 (f := .free "bool") rfl))
  have h_is_integer : Has0 P w K mg base 1 "is_integer" ["thing"] (df_is_integer (zs K)) := ⟨_, fd_is_integer, He.glo_ok X G (c.fact 14 (f := .glo "is_integer") rfl), F_is_integer.kp, b_is_integer, k_is_integer⟩
  obtain ⟨fd_is_between, F_is_between⟩ := c.def_ 8 (d := d_is_between) rfl
  have b_is_between : Binds K fd_is_between ["thing", "low", "high"] [] := F_is_between.bindsN fun _ _ _ _ _ _ us hl => match us, hl with | [_, _, _], _ => rfl
  have k_is_between := ok_is_between (P := P) (w := w) (mg := mg) (base := base) (Z := zs K) F_is_between h_is_integer
  have h_is_between : Has0 P w K mg base 2 "is_between" ["thing", "low", "high"] (df_is_between (zs K)) := ⟨_, fd_is_between, He.glo_ok X G (c.fact 15 (f := .glo "is_between") rfl), F_is_between.kp, b_is_between, k_is_between⟩
  obtain ⟨fd_is_value, F_is_value⟩ := c.def_ 9 (d := d_is_value) rfl
  have b_is_value : Binds K fd_is_value ["thing"] [] := F_is_value.bindsN fun _ _ _ _ _ _ us hl => match us, hl with | [_], _ => rfl
  have k_is_value := ok_is_value (P := P) (w := w) (mg := mg) (base := base) (Z := zs K) F_is_value h_is_between (He.int_ok X G (c.fact 16 (f := .int "FARTHEST" 1000000000000000000) rfl))
  have h_is_value : Has0 P w K mg base 3 "is_value" ["thing"] (df_is_value (zs K)) := ⟨_, fd_is_value, He.glo_ok X G (c.fact 17 (f := .glo "is_value") rfl), F_is_value.kp, b_is_value, k_is_value⟩
  obtain ⟨fd_is_force, F_is_force⟩ := c.def_ 10 (d := d_is_force) rfl
  have b_is_force : Binds K fd_is_force ["thing"] [] := F_is_force.bindsN fun _ _ _ _ _ _ us hl => match us, hl with | [_], _ => rfl
  have k_is_force := ok_is_force (P := P) (w := w) (mg := mg) (base := base) (Z := zs K) F_is_force h_is_between (He.int_ok X G (c.fact 18 (f := .int "MOST_FORCE" 30) rfl))
  have h_is_force : Has0 P w K mg base 3 "is_force" ["thing"] (df_is_force (zs K)) := ⟨_, fd_is_force, He.glo_ok X G (c.fact 19 (f := .glo "is_force") rfl), F_is_force.kp, b_is_force, k_is_force⟩
  obtain ⟨fd_is_term, F_is_term⟩ := c.def_ 11 (d := d_is_term) rfl
  have b_is_term : Binds K fd_is_term ["thing", "size"] [] := F_is_term.bindsN fun _ _ _ _ _ _ us hl => match us, hl with | [_, _], _ => rfl
  have k_is_term := ok_is_term (P := P) (w := w) (mg := mg) (base := base) (Z := zs K) F_is_term h_is_force h_is_value (He.free_ok X G (c.fact 20 (f := .free "all") rfl)) h_is_between (He.free_ok X G (c.fact 21 (f := .free "len") rfl)) (He.free_ok X G (c.fact 12 (f := .free "int") rfl)) (He.free_ok X G (c.fact 11 (f := .free "isinstance") rfl)) (He.free_ok X G (c.fact 22 (f := .free "tuple") rfl)) (He.free_ok X G (c.fact 23 (f := .free "str") rfl)) t_WORDS
  have h_is_term : Has0 P w K mg base 4 "is_term" ["thing", "size"] (df_is_term (zs K)) := ⟨_, fd_is_term, He.glo_ok X G (c.fact 25 (f := .glo "is_term") rfl), F_is_term.kp, b_is_term, k_is_term⟩
  obtain ⟨fd_legs, F_legs⟩ := c.def_ 12 (d := d_legs) rfl
  have b_legs : Binds K fd_legs ["one", "other", "way"] [] := F_legs.bindsN fun _ _ _ _ _ _ us hl => match us, hl with | [_, _, _], _ => rfl
  have k_legs := ok_legs (P := P) (w := w) (mg := mg) (base := base) (Z := zs K) F_legs (He.free_ok X G (c.fact 26 (f := .free "zip") rfl)) (He.free_ok X G (c.fact 6 (f := .free "enumerate") rfl)) (He.free_ok X G (c.fact 27 (f := .free "sorted") rfl)) (He.free_ok X G (c.fact 28 (f := .free "set") rfl))
  have h_legs : Has0 P w K mg base 1 "legs" ["one", "other", "way"] (df_legs (zs K)) := ⟨_, fd_legs, He.glo_ok X G (c.fact 29 (f := .glo "legs") rfl), F_legs.kp, b_legs, k_legs⟩
  obtain ⟨fd_shortest, F_shortest⟩ := c.def_ 13 (d := d_shortest) rfl
  have b_shortest : Binds K fd_shortest ["board", "standing", "other"] [] := F_shortest.bindsN fun _ _ _ _ _ _ us hl => match us, hl with | [_, _, _], _ => rfl
  have k_shortest := ok_shortest (P := P) (w := w) (mg := mg) (base := base) (Z := zs K) F_shortest h_legs h_need_allowed
  have h_shortest : Has0 P w K mg base 5 "shortest" ["board", "standing", "other"] (df_shortest (zs K)) := ⟨_, fd_shortest, He.glo_ok X G (c.fact 30 (f := .glo "shortest") rfl), F_shortest.kp, b_shortest, k_shortest⟩
  obtain ⟨fd_Board_init, F_Board_init⟩ := c.def_ 14 (d := d_Board_init) rfl
  have b_Board_init : Binds K fd_Board_init ["self", "size", "terms"] [] := F_Board_init.bindsN fun _ _ _ _ _ _ us hl => match us, hl with | [_, _, _], _ => rfl
  have k_Board_init := ok_Board_init (P := P) (w := w) (mg := mg) (base := base) (Z := zs K) F_Board_init (He.free_ok X G (c.fact 31 (f := .free "list") rfl)) (He.cls_ok (c.fact 7 (f := .cls "Board") rfl)) (He.noat_ok (c.fact 8 (f := .noat "Board" "term_list") rfl)) (He.noat_ok (c.fact 32 (f := .noat "Board" "dial_count") rfl)) (He.free_ok X G (c.fact 11 (f := .free "isinstance") rfl)) (He.free_ok X G (c.fact 21 (f := .free "len") rfl)) (He.int_ok X G (c.fact 33 (f := .int "MOST_TERMS" 24) rfl)) (He.free_ok X G (c.fact 20 (f := .free "all") rfl)) h_is_term h_is_between (He.int_ok X G (c.fact 34 (f := .int "MOST_DIALS" 8) rfl))
  have h_Board_init : HasC0 P w K mg base (zs K).Board 5 "Board" ["self", "size", "terms"] (df_Board_init (zs K)) := ⟨_, fd_Board_init, He.glo_ok X G (c.fact 35 (f := .glo "Board") rfl), He.mkr_ok (c.fact 36 (f := .mkr "Board") rfl), b_Board_init, k_Board_init⟩
  obtain ⟨fd__law_bag, F__law_bag⟩ := c.def_ 15 (d := d__law_bag) rfl
  have b__law_bag : Binds K fd__law_bag ["_law_script"] [] := F__law_bag.bindsN fun _ _ _ _ _ _ us hl => match us, hl with | [_], _ => rfl
  have k__law_bag := ok__law_bag (P := P) (w := w) (mg := mg) (base := base) (Z := zs K) F__law_bag (He.free_ok X G (c.fact 37 (f := .free "abs") rfl))
  have h__law_bag : Has0 P w K mg base 1 "_law_bag" ["_law_script"] (df__law_bag (zs K)) := ⟨_, fd__law_bag, He.glo_ok X G (c.fact 38 (f := .glo "_law_bag") rfl), F__law_bag.kp, b__law_bag, k__law_bag⟩
  obtain ⟨fd__law_take, F__law_take⟩ := c.def_ 16 (d := d__law_take) rfl
  have b__law_take : Binds K fd__law_take ["_law_bag_here", "_law_many"] [] := F__law_take.bindsN fun _ _ _ _ _ _ us hl => match us, hl with | [_, _], _ => rfl
  have k__law_take := ok__law_take (P := P) (w := w) (mg := mg) (base := base) (Z := zs K) F__law_take (He.free_ok X G (c.fact 21 (f := .free "len") rfl))
  have h__law_take : Has0 P w K mg base 1 "_law_take" ["_law_bag_here", "_law_many"] (df__law_take (zs K)) := ⟨_, fd__law_take, He.glo_ok X G (c.fact 39 (f := .glo "_law_take") rfl), F__law_take.kp, b__law_take, k__law_take⟩
  obtain ⟨fd__law_parts, F__law_parts⟩ := c.def_ 17 (d := d__law_parts) rfl
  have b__law_parts : Binds K fd__law_parts ["_law_term"] [] := F__law_parts.bindsN fun _ _ _ _ _ _ us hl => match us, hl with | [_], _ => rfl
  have k__law_parts := ok__law_parts (P := P) (w := w) (mg := mg) (base := base) (Z := zs K) F__law_parts (He.free_ok X G (c.fact 12 (f := .free "int") rfl))
  have h__law_parts : Has0 P w K mg base 1 "_law_parts" ["_law_term"] (df__law_parts (zs K)) := ⟨_, fd__law_parts, He.glo_ok X G (c.fact 40 (f := .glo "_law_parts") rfl), F__law_parts.kp, b__law_parts, k__law_parts⟩
  obtain ⟨fd__law_argument, F__law_argument⟩ := c.def_ 18 (d := d__law_argument) rfl
  have b__law_argument : Binds K fd__law_argument ["_law_term", "_law_standing"] [] := F__law_argument.bindsN fun _ _ _ _ _ _ us hl => match us, hl with | [_, _], _ => rfl
  have k__law_argument := ok__law_argument (P := P) (w := w) (mg := mg) (base := base) (Z := zs K) F__law_argument h__law_parts
  have h__law_argument : Has0 P w K mg base 2 "_law_argument" ["_law_term", "_law_standing"] (df__law_argument (zs K)) := ⟨_, fd__law_argument, He.glo_ok X G (c.fact 41 (f := .glo "_law_argument") rfl), F__law_argument.kp, b__law_argument, k__law_argument⟩
  obtain ⟨fd__law_far, F__law_far⟩ := c.def_ 19 (d := d__law_far) rfl
  have b__law_far : Binds K fd__law_far ["_law_term", "_law_value"] [] := F__law_far.bindsN fun _ _ _ _ _ _ us hl => match us, hl with | [_, _], _ => rfl
  have k__law_far := ok__law_far (P := P) (w := w) (mg := mg) (base := base) (Z := zs K) F__law_far h__law_parts
  have h__law_far : Has0 P w K mg base 2 "_law_far" ["_law_term", "_law_value"] (df__law_far (zs K)) := ⟨_, fd__law_far, He.glo_ok X G (c.fact 42 (f := .glo "_law_far") rfl), F__law_far.kp, b__law_far, k__law_far⟩
  obtain ⟨fd__law_stepped, F__law_stepped⟩ := c.def_ 20 (d := d__law_stepped) rfl
  have b__law_stepped : Binds K fd__law_stepped ["_law_standing", "_law_way", "_law_group"] [] := F__law_stepped.bindsN fun _ _ _ _ _ _ us hl => match us, hl with | [_, _, _], _ => rfl
  have k__law_stepped := ok__law_stepped (P := P) (w := w) (mg := mg) (base := base) (Z := zs K) F__law_stepped (He.free_ok X G (c.fact 22 (f := .free "tuple") rfl)) (He.free_ok X G (c.fact 43 (f := .free "range") rfl)) (He.free_ok X G (c.fact 21 (f := .free "len") rfl)) (He.free_ok X G (c.fact 12 (f := .free "int") rfl))
  have h__law_stepped : Has0 P w K mg base 1 "_law_stepped" ["_law_standing", "_law_way", "_law_group"] (df__law_stepped (zs K)) := ⟨_, fd__law_stepped, He.glo_ok X G (c.fact 44 (f := .glo "_law_stepped") rfl), F__law_stepped.kp, b__law_stepped, k__law_stepped⟩
  obtain ⟨fd__law_groups, F__law_groups⟩ := c.def_ 21 (d := d__law_groups) rfl
  have b__law_groups : Binds K fd__law_groups ["_law_size"] [] := F__law_groups.bindsN fun _ _ _ _ _ _ us hl => match us, hl with | [_], _ => rfl
  have k__law_groups := ok__law_groups (P := P) (w := w) (mg := mg) (base := base) (Z := zs K) F__law_groups (He.free_ok X G (c.fact 27 (f := .free "sorted") rfl)) (He.free_ok X G (c.fact 43 (f := .free "range") rfl))
  have h__law_groups : Has0 P w K mg base 1 "_law_groups" ["_law_size"] (df__law_groups (zs K)) := ⟨_, fd__law_groups, He.glo_ok X G (c.fact 45 (f := .glo "_law_groups") rfl), F__law_groups.kp, b__law_groups, k__law_groups⟩
  obtain ⟨fd__law_number, F__law_number⟩ := c.def_ 22 (d := d__law_number) rfl
  have b__law_number : Binds K fd__law_number ["_law_bag_here", "_law_scale"] [] := F__law_number.bindsN fun _ _ _ _ _ _ us hl => match us, hl with | [_, _], _ => rfl
  have k__law_number := ok__law_number (P := P) (w := w) (mg := mg) (base := base) (Z := zs K) F__law_number h__law_take
  have h__law_number : Has0 P w K mg base 2 "_law_number" ["_law_bag_here", "_law_scale"] (df__law_number (zs K)) := ⟨_, fd__law_number, He.glo_ok X G (c.fact 46 (f := .glo "_law_number") rfl), F__law_number.kp, b__law_number, k__law_number⟩
  obtain ⟨fd__law_left, F__law_left⟩ := c.def_ 23 (d := d__law_left) rfl
  have b__law_left : Binds K fd__law_left ["_law_terms", "_law_standing"] [] := F__law_left.bindsN fun _ _ _ _ _ _ us hl => match us, hl with | [_, _], _ => rfl
  have k__law_left := ok__law_left (P := P) (w := w) (mg := mg) (base := base) (Z := zs K) F__law_left (He.free_ok X G (c.fact 43 (f := .free "range") rfl)) (He.free_ok X G (c.fact 21 (f := .free "len") rfl)) h__law_far h__law_argument h__law_parts
  have h__law_left : Has0 P w K mg base 3 "_law_left" ["_law_terms", "_law_standing"] (df__law_left (zs K)) := ⟨_, fd__law_left, He.glo_ok X G (c.fact 47 (f := .glo "_law_left") rfl), F__law_left.kp, b__law_left, k__law_left⟩
  obtain ⟨fd__law_wandered, F__law_wandered⟩ := c.def_ 24 (d := d__law_wandered) rfl
  have b__law_wandered : Binds K fd__law_wandered ["_law_bag_here", "_law_terms", "_law_standing", "_law_many"] [] := F__law_wandered.bindsN fun _ _ _ _ _ _ us hl => match us, hl with | [_, _, _, _], _ => rfl
  have k__law_wandered := ok__law_wandered (P := P) (w := w) (mg := mg) (base := base) (Z := zs K) F__law_wandered (He.free_ok X G (c.fact 43 (f := .free "range") rfl)) h__law_take h__law_left h__law_stepped (He.free_ok X G (c.fact 21 (f := .free "len") rfl)) h__law_groups
  have h__law_wandered : Has0 P w K mg base 4 "_law_wandered" ["_law_bag_here", "_law_terms", "_law_standing", "_law_many"] (df__law_wandered (zs K)) := ⟨_, fd__law_wandered, He.glo_ok X G (c.fact 48 (f := .glo "_law_wandered") rfl), F__law_wandered.kp, b__law_wandered, k__law_wandered⟩
  obtain ⟨fd__law_apart, F__law_apart⟩ := c.def_ 25 (d := d__law_apart) rfl
  have b__law_apart : Binds K fd__law_apart ["_law_one", "_law_other"] [] := F__law_apart.bindsN fun _ _ _ _ _ _ us hl => match us, hl with | [_, _], _ => rfl
  have k__law_apart := ok__law_apart (P := P) (w := w) (mg := mg) (base := base) (Z := zs K) F__law_apart (He.free_ok X G (c.fact 43 (f := .free "range") rfl)) (He.free_ok X G (c.fact 21 (f := .free "len") rfl)) (He.free_ok X G (c.fact 4 (f := .free "max") rfl))
  have h__law_apart : Has0 P w K mg base 1 "_law_apart" ["_law_one", "_law_other"] (df__law_apart (zs K)) := ⟨_, fd__law_apart, He.glo_ok X G (c.fact 49 (f := .glo "_law_apart") rfl), F__law_apart.kp, b__law_apart, k__law_apart⟩
  obtain ⟨fd__law_near, F__law_near⟩ := c.def_ 26 (d := d__law_near) rfl
  have b__law_near : Binds K fd__law_near ["_law_bag_here", "_law_size"] [] := F__law_near.bindsN fun _ _ _ _ _ _ us hl => match us, hl with | [_, _], _ => rfl
  have k__law_near := ok__law_near (P := P) (w := w) (mg := mg) (base := base) (Z := zs K) F__law_near (He.free_ok X G (c.fact 43 (f := .free "range") rfl)) h__law_take (He.free_ok X G (c.fact 21 (f := .free "len") rfl)) (He.free_ok X G (c.fact 4 (f := .free "max") rfl)) (He.free_ok X G (c.fact 50 (f := .free "min") rfl)) (He.free_ok X G (c.fact 27 (f := .free "sorted") rfl)) h__law_number (He.free_ok X G (c.fact 22 (f := .free "tuple") rfl))
  have h__law_near : Has0 P w K mg base 3 "_law_near" ["_law_bag_here", "_law_size"] (df__law_near (zs K)) := ⟨_, fd__law_near, He.glo_ok X G (c.fact 51 (f := .glo "_law_near") rfl), F__law_near.kp, b__law_near, k__law_near⟩
  obtain ⟨fd__law_layers, F__law_layers⟩ := c.def_ 27 (d := d__law_layers) rfl
  have b__law_layers : Binds K fd__law_layers ["_law_terms", "_law_standing", "_law_other", "_law_most"] [] := F__law_layers.bindsN fun _ _ _ _ _ _ us hl => match us, hl with | [_, _, _, _], _ => rfl
  have k__law_layers := ok__law_layers (P := P) (w := w) (mg := mg) (base := base) (Z := zs K) F__law_layers (He.free_ok X G (c.fact 43 (f := .free "range") rfl)) h__law_stepped h__law_left h__law_groups (He.free_ok X G (c.fact 21 (f := .free "len") rfl))
  have h__law_layers : Has0 P w K mg base 4 "_law_layers" ["_law_terms", "_law_standing", "_law_other", "_law_most"] (df__law_layers (zs K)) := ⟨_, fd__law_layers, He.glo_ok X G (c.fact 52 (f := .glo "_law_layers") rfl), F__law_layers.kp, b__law_layers, k__law_layers⟩
  exact ok_law (P := P) (w := w) (mg := mg) (base := base) (Z := zs K) F (He.free_ok X G (c.fact 43 (f := .free "range") rfl)) (He.free_ok X G (c.fact 53 (f := .free "sum") rfl)) h__law_apart h_shortest h_Board_init h__law_layers h__law_wandered h__law_take h__law_near h__law_bag
end H55
open PySem PySem.W PySem.Calls PyProof.Rows
set_option maxRecDepth 100000 in
set_option maxHeartbeats 0 in
theorem PySem.Challenge.cw_mostpulled_k55_whole_no_plan_is_shorter_holds : PySem.Challenge.rw_mostpulled_k55_whole_no_plan_is_shorter.Holds := by
  w_on; o_law
  refine HandSHeadRun.head_any (r := OpenLaw.row PySem.Challenge.rw_mostpulled_k55_whole_no_plan_is_shorter) (q := view (OpenLaw.row PySem.Challenge.rw_mostpulled_k55_whole_no_plan_is_shorter).prog [43]) (H := H55.hk) (ob := H55.ob) (M := 5000) (loose := H55.looses ++ H55.looses2) (d := HandSHeadRun.topDef (OpenLaw.row PySem.Challenge.rw_mostpulled_k55_whole_no_plan_is_shorter).prog 43) (kwd := []) H55.ob_eq
    (by kernel_rfl) (fun s => by kernel_rfl) H55.run (by kernel_rfl) (by kernel_rfl) (by kernel_rfl) (by rfl) (by first | assumption | decide +kernel) (by decide +kernel) ⟨rfl, rfl, rfl, rfl, rfl, by decide +kernel⟩ ?hw ?hc
  case hw => w_witness2
  case hc =>
    refine L2.walk_ofE (l := PySem.Challenge.rw_mostpulled_k55_whole_no_plan_is_shorter) (n := 63) (k := 7) (x := "_law_script") (CX := L2.CX0) rfl (by decide) (by kernel_rfl) ⟨rfl, by decide, by decide⟩ ?F (fun _ _ _ _ z => z)
    intro w mg fa h Y G hmg0
    obtain ⟨K, KX, c⟩ := Y
    have hmg : mg ("law" : PySem.Str) = some (.ref fa) := by
      have e : (HandSHeadRun.topDef (OpenLaw.row PySem.Challenge.rw_mostpulled_k55_whole_no_plan_is_shorter).prog 43).name = ("law" : PySem.Str) := by kernel_rfl
      rw [← e]; exact hmg0
    obtain ⟨fd, hb, hF⟩ := H55.facts (P := (PySem.Challenge.rw_mostpulled_k55_whole_no_plan_is_shorter).prog) (w := w) KX G hmg c.t.d c.more
    exact ⟨K, fd, H55.spLaw K, KX, hb, fun H a ns hl _ hS => DL.law_sp hS, hF⟩

