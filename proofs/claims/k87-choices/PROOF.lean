import PyProof.Rows.All
import Wide.All
import OpenK.AllK
import Wide.FinOn
import HandS.ForMost
import HandS.ForExc
import HandS.Flow
import HandS.IsInst
import HandS.TupAny
import HandS.Defaults
import HandS.CallSlots
import HandS.ExcInit
import HandS.Conv
import HandS.TryMany
import HandS.TryOnly
import HandS.ExcIs
import HandS.ExcField
import HandS.RaiseFrom
import HandS.SuiteRaise
import HandS.HeadHook1
import HandS.SetFor
import HandS.Strs
import HandS.Deep
import HandS.HeadEnd
import HandS.HeadHook2
import HandS.Head2
import HandS.Words
import HandS.EndBits
import HandS.TupLe
import KE.Datum
import PySem.Challenge.RW_swarmwhole_k87_choices_of_a_plan
import Lean
set_option Elab.async false
set_option linter.all false
set_option maxRecDepth 100000
set_option maxHeartbeats 4000000
/-! Data without addresses over the hand layer. -/
namespace Sw
open PySem PySem.Spec PyProof.Rows L2

/-- data: what a value is worth -/
inductive D where
  | non | bl (b : Bool) | int (i : Int) | str (x : Str) | tup (l : List D) | lst (l : List D) | scr (l : List D) | dk (kvs : List (Key × D)) | ty (n : String) | ref (a : Addr)
/-- objects that may change -/
inductive OV where
  | ins (c : Str) (fs : List D)
  | ml (l : List D)
  | md (kvs : List (Key × D))
  | mt (kvs : List (List Key × D))
abbrev OS := Addr → Option OV
/-- Prop, bound to what simp is to leave alone -/
abbrev PKp {a : Sort u} (_ : a) : Type := Prop
def put (O : OS) (a : Addr) (o : OV) : OS := fun b => if b = a then some o else O b
theorem put_same {O : OS} {a : Addr} {o : OV} : put O a o a = some o := if_pos rfl
theorem put_ne {O : OS} {a b : Addr} {o : OV} (h : b ≠ a) : put O a o b = O b := if_neg h

mutual
inductive Rep (K : PySem.W.Frag) (F : Hp) : V → D → Prop
  | non : Rep K F .non .non
  | bl (b : Bool) : Rep K F (.bl b) (.bl b)
  | int (i : Int) : Rep K F (.int i) (.int i)
  | str (x : Str) : Rep K F (.str x) (.str x)
  | ty (n : String) : Rep K F (.ty n) (.ty n)
  | ref (a : Addr) : Rep K F (.ref a) (.ref a)
  | tup {a : Addr} {xs : List V} {l : List D} : SqT K F a xs → RepL K F xs l → Rep K F (.ref a) (.tup l)
  | lst {a : Addr} {xs : List V} {l : List D} : F a = some (.lst xs) → RepL K F xs l → Rep K F (.ref a) (.lst l)
  | scr {a : Addr} {xs : List V} {l : List D} : SqL K F a xs → RepL K F xs l → Rep K F (.ref a) (.scr l)
  | dk {a : Addr} {ws : List (Key × V)} {l : List (Key × D)} : F a = some (.dK ws) → RepK K F ws l → Rep K F (.ref a) (.dk l)
inductive RepL (K : PySem.W.Frag) (F : Hp) : List V → List D → Prop
  | nil : RepL K F [] []
  | cons {v : V} {vs : List V} {d : D} {ds : List D} : Rep K F v d → RepL K F vs ds → RepL K F (v :: vs) (d :: ds)
inductive RepK (K : PySem.W.Frag) (F : Hp) : List (Key × V) → List (Key × D) → Prop
  | nil : RepK K F [] []
  | cons {k : Key} {v : V} {vs : List (Key × V)} {d : D} {ds : List (Key × D)} : Rep K F v d → RepK K F vs ds → RepK K F ((k, v) :: vs) ((k, d) :: ds)
end
/-- more frozen things -/
def Sub (F F' : Hp) : Prop := ∀ a o, F a = some o → F' a = some o
theorem Sub.refl (F : Hp) : Sub F F := fun _ _ h => h
theorem Sub.trans {F G H : Hp} (a : Sub F G) (b : Sub G H) : Sub F H := fun x o h => b x o (a x o h)
theorem Sub.new {F : Hp} {p : Addr} {o : HO} (h : F p = none) : Sub F (upd F p o) := fun a u e => by
  rw [upd_ne (ne_of_none e h)]
  exact e
theorem Sub.rd {F F' : Hp} {a : Addr} {u : HO} (e : Sub F F') (h : Rd F a u) : Rd F' a u := by
  rcases h with h | ⟨o, h⟩
  · exact .inl (e a _ h)
  · exact .inr ⟨o, e a _ h⟩
theorem Sub.sqT {K : PySem.W.Frag} {F F' : Hp} {a : Addr} {xs : List V} (e : Sub F F') (h : SqT K F a xs) : SqT K F' a xs := by
  rcases h with h | h
  · exact .inl (e.rd h)
  · exact .inr h
theorem Sub.sqL {K : PySem.W.Frag} {F F' : Hp} {a : Addr} {xs : List V} (e : Sub F F') (h : SqL K F a xs) : SqL K F' a xs := by
  rcases h with h | h
  · exact .inl (e.rd h)
  · exact .inr h
section
variable {K : PySem.W.Frag} {F F' : Hp}
mutual
theorem Rep.mono (e : Sub F F') : ∀ {v : V} {d : D}, Rep K F v d → Rep K F' v d
  | _, _, .non => .non
  | _, _, .bl b => .bl b
  | _, _, .int i => .int i
  | _, _, .str x => .str x
  | _, _, .ty n => .ty n
  | _, _, .ref a => .ref a
  | _, _, .tup h r => .tup (e.sqT h) (RepL.mono e r)
  | _, _, .lst h r => .lst (e _ _ h) (RepL.mono e r)
  | _, _, .scr h r => .scr (e.sqL h) (RepL.mono e r)
  | _, _, .dk h r => .dk (e _ _ h) (RepK.mono e r)
theorem RepL.mono (e : Sub F F') : ∀ {v : List V} {d : List D}, RepL K F v d → RepL K F' v d
  | _, _, .nil => .nil
  | _, _, .cons h r => .cons (h.mono e) (RepL.mono e r)
theorem RepK.mono (e : Sub F F') : ∀ {v : List (Key × V)} {d : List (Key × D)}, RepK K F v d → RepK K F' v d
  | _, _, .nil => .nil
  | _, _, .cons h r => .cons (h.mono e) (RepK.mono e r)
end
theorem RepL.length : ∀ {v : List V} {d : List D}, RepL K F v d → v.length = d.length
  | _, _, .nil => rfl
  | _, _, .cons _ r => congrArg Nat.succ (RepL.length r)
theorem RepK.length : ∀ {v : List (Key × V)} {d : List (Key × D)}, RepK K F v d → v.length = d.length
  | _, _, .nil => rfl
  | _, _, .cons _ r => congrArg Nat.succ (RepK.length r)
theorem RepL.append : ∀ {v w : List V} {d e : List D}, RepL K F v d → RepL K F w e → RepL K F (v ++ w) (d ++ e)
  | _, _, _, _, .nil, s => s
  | _, _, _, _, .cons h r, s => .cons h (RepL.append r s)
theorem RepL.get : ∀ {v : List V} {d : List D} {i : Nat} {y : D}, RepL K F v d → d[i]? = some y → ∃ x, v[i]? = some x ∧ Rep K F x y
  | _, _, _, _, .nil, h => by simp at h
  | _, _, 0, _, .cons h r, e => by
    simp at e
    subst e
    exact ⟨_, rfl, h⟩
  | _, _, i + 1, _, .cons h r, e => by
    obtain ⟨x, h1, h2⟩ := RepL.get (i := i) r (by simpa using e)
    exact ⟨x, by simpa using h1, h2⟩
theorem RepL.get' : ∀ {v : List V} {d : List D} {i : Nat} {x : V}, RepL K F v d → v[i]? = some x → ∃ y, d[i]? = some y ∧ Rep K F x y
  | _, _, _, _, .nil, h => by simp at h
  | _, _, 0, _, .cons h r, e => by
    simp at e
    subst e
    exact ⟨_, rfl, h⟩
  | _, _, i + 1, _, .cons h r, e => by
    obtain ⟨x, h1, h2⟩ := RepL.get' (i := i) r (by simpa using e)
    exact ⟨x, by simpa using h1, h2⟩
theorem RepL.take : ∀ {v : List V} {d : List D} (n : Nat), RepL K F v d → RepL K F (v.take n) (d.take n)
  | _, _, 0, _ => .nil
  | _, _, _ + 1, .nil => .nil
  | _, _, n + 1, .cons h r => .cons h (RepL.take n r)
theorem RepL.drop : ∀ {v : List V} {d : List D} (n : Nat), RepL K F v d → RepL K F (v.drop n) (d.drop n)
  | _, _, 0, h => h
  | _, _, _ + 1, .nil => .nil
  | _, _, n + 1, .cons _ r => RepL.drop n r
theorem RepL.set {x : V} {y : D} (h : Rep K F x y) : ∀ {v : List V} {d : List D} (i : Nat), RepL K F v d → RepL K F (v.set i x) (d.set i y)
  | _, _, _, .nil => .nil
  | _, _, 0, .cons _ r => .cons h r
  | _, _, i + 1, .cons q r => .cons q (RepL.set h i r)
theorem RepL.reverse : ∀ {v : List V} {d : List D}, RepL K F v d → RepL K F v.reverse d.reverse
  | _, _, .nil => .nil
  | _, _, .cons h r => by
    rw [List.reverse_cons, List.reverse_cons]
    exact (RepL.reverse r).append (.cons h .nil)
theorem RepL.eraseIdx : ∀ {v : List V} {d : List D} (i : Nat), RepL K F v d → RepL K F (v.eraseIdx i) (d.eraseIdx i)
  | _, _, _, .nil => .nil
  | _, _, 0, .cons _ r => r
  | _, _, i + 1, .cons h r => .cons h (RepL.eraseIdx i r)
theorem RepL.nil_iff {v : List V} {d : List D} (r : RepL K F v d) : v = [] ↔ d = [] := by
  cases r <;> simp
theorem RepL.snoc {v : List V} {d : List D} {x : V} {y : D} (r : RepL K F v d) (h : Rep K F x y) : RepL K F (v ++ [x]) (d ++ [y]) := r.append (.cons h .nil)
end

/-- the classes: where each stands, the attributes of its instances in their order -/
structure Wc where
  cA : Str → Addr
  lay : Str → List Str
/-- an object as it stands -/
inductive ObR (K : PySem.W.Frag) (W : Wc) (F : Hp) : Option HO → OV → Prop
  | ins {c : Str} {dx : Addr} {vs : List V} {ds : List D} : RepL K F vs ds → vs.length ≤ (W.lay c).length → ObR K W F (some (.ins (W.cA c) dx (((W.lay c).take vs.length).zip vs))) (.ins c ds)
  | ml {vs : List V} {ds : List D} : RepL K F vs ds → ObR K W F (some (.lst vs)) (.ml ds)
  | md {vs : List (Key × V)} {ds : List (Key × D)} : RepK K F vs ds → ObR K W F (some (.dK vs)) (.md ds)
  | mt {vs : List (List Key × V)} {ds : List (List Key × D)} : vs.map (·.1) = ds.map (·.1) → RepL K F (vs.map (·.2)) (ds.map (·.2)) → ObR K W F (some (.dT vs)) (.mt ds)
theorem ObR.mono {K : PySem.W.Frag} {W : Wc} {F F' : Hp} {h : Option HO} {o : OV} (e : Sub F F') (r : ObR K W F h o) : ObR K W F' h o := by
  cases r with
  | ins r l => exact .ins (r.mono e) l
  | ml r => exact .ml (r.mono e)
  | md r => exact .md (r.mono e)
  | mt q r => exact .mt q (r.mono e)
structure HoldC (K : PySem.W.Frag) (W : Wc) (O : OS) (F H : Hp) : Prop where
  fz : Sub F H
  ob : ∀ a o, O a = some o → F a = none ∧ ObR K W F (H a) o
theorem ObR.some {K : PySem.W.Frag} {W : Wc} {F : Hp} {h : Option HO} {o : OV} (r : ObR K W F h o) : ∃ u, h = .some u := by
  cases r <;> exact ⟨_, rfl⟩
section
variable {K : PySem.W.Frag} {W : Wc} {O O' : OS} {F F' H H' : Hp} {a p : Addr} {o : OV} {u : HO}
theorem HoldC.freshF (h : HoldC K W O F H) (n : H p = none) : F p = none := by
  cases e : F p with
  | none => rfl
  | some o =>
    rw [h.fz p o e] at n
    cases n
theorem HoldC.freshO (h : HoldC K W O F H) (n : H p = none) : O p = none := by
  cases e : O p with
  | none => rfl
  | some o =>
    obtain ⟨u, q⟩ := (h.ob p o e).2.some
    rw [n] at q
    cases q
/-- a new frozen thing -/
theorem HoldC.newF (h : HoldC K W O F H) (n : H p = none) : HoldC K W O (upd F p u) (upd H p u) := by
  refine ⟨fun b x e => ?_, fun b x e => ?_⟩
  · by_cases q : b = p
    · subst q
      rw [upd_same] at e ⊢
      exact e
    · rw [upd_ne q] at e ⊢
      exact h.fz b x e
  · have hne : b ≠ p := fun q => by
      subst q
      rw [h.freshO n] at e
      cases e
    obtain ⟨h1, h2⟩ := h.ob b x e
    rw [upd_ne hne, upd_ne hne]
    exact ⟨h1, h2.mono (Sub.new (h.freshF n))⟩
/-- a new thing that is not told of -/
theorem HoldC.newH (h : HoldC K W O F H) (n : H p = none) : HoldC K W O F (upd H p u) := by
  refine ⟨fun b x e => ?_, fun b x e => ?_⟩
  · rw [upd_ne (ne_of_none (h.fz b x e) n)]
    exact h.fz b x e
  · have hne : b ≠ p := fun q => by
      subst q
      rw [h.freshO n] at e
      cases e
    rw [upd_ne hne]
    exact h.ob b x e
/-- a new object -/
theorem HoldC.newO (h : HoldC K W O F H) (n : H p = none) (r : ObR K W F (some u) o) : HoldC K W (put O p o) F (upd H p u) := by
  refine ⟨(h.newH n).fz, fun b x e => ?_⟩
  by_cases q : b = p
  · subst q
    rw [put_same] at e
    cases e
    rw [upd_same]
    exact ⟨h.freshF n, r⟩
  · rw [put_ne q] at e
    rw [upd_ne q]
    exact h.ob b x e
/-- an object is changed -/
theorem HoldC.set {o' : OV} (h : HoldC K W O F H) (e : O a = some o) (r : ObR K W F (some u) o') : HoldC K W (put O a o') F (upd H a u) := by
  have hF := (h.ob a o e).1
  refine ⟨fun b x q => ?_, fun b x q => ?_⟩
  · rw [upd_ne (ne_of_none q hF)]
    exact h.fz b x q
  · by_cases z : b = a
    · subst z
      rw [put_same] at q
      cases q
      rw [upd_same]
      exact ⟨hF, r⟩
    · rw [put_ne z] at q
      rw [upd_ne z]
      exact h.ob b x q
/-- objects may be forgotten -/
theorem HoldC.less (h : HoldC K W O F H) (l : ∀ a o, O' a = some o → O a = some o) : HoldC K W O' F H := ⟨h.fz, fun a o e => h.ob a o (l a o e)⟩
def cut (O : OS) (a : Addr) : OS := fun b => if b = a then none else O b
/-- a list that is changed no more -/
theorem HoldC.freeze {l : List D} (h : HoldC K W O F H) (e : O a = some (.ml l)) : ∃ F', Sub F F' ∧ HoldC K W (cut O a) F' H ∧ Rep K F' (.ref a) (.lst l) := by
  obtain ⟨hF, r⟩ := h.ob a _ e
  generalize hH : H a = ha at r
  cases r with
  | ml r =>
    rename_i vs
    refine ⟨upd F a (.lst vs), Sub.new hF, ⟨fun b x q => ?_, fun b x q => ?_⟩, .lst upd_same (r.mono (Sub.new hF))⟩
    · by_cases z : b = a
      · subst z
        rw [upd_same] at q
        cases q
        exact hH
      · rw [upd_ne z] at q
        exact h.fz b x q
    · have hne : b ≠ a := fun z => by
        subst z
        unfold cut at q
        rw [if_pos rfl] at q
        cases q
      unfold cut at q
      rw [if_neg hne] at q
      obtain ⟨h1, h2⟩ := h.ob b x q
      rw [upd_ne hne]
      exact ⟨h1, h2.mono (Sub.new hF)⟩
end

/-! ### slots -/
abbrev Sl := List (Option D)
def EnvR (K : PySem.W.Frag) (F : Hp) (σ : L2.St) (η : Sl) : Prop := σ.length = η.length ∧ ∀ (i : Nat) (d : D), η[i]? = some (some d) → ∃ v, σ[i]? = some (some v) ∧ Rep K F v d
section
variable {K : PySem.W.Frag} {F F' : Hp} {σ : L2.St} {η : Sl}
theorem EnvR.mono (e : Sub F F') (h : EnvR K F σ η) : EnvR K F' σ η := ⟨h.1, fun i d q => by
  obtain ⟨v, h1, h2⟩ := h.2 i d q
  exact ⟨v, h1, h2.mono e⟩⟩
theorem EnvR.set {i : Nat} {v : V} {d : D} (h : EnvR K F σ η) (r : Rep K F v d) : EnvR K F (σ.set i (some v)) (η.set i (some d)) := by
  refine ⟨by simpa using h.1, fun j y q => ?_⟩
  by_cases e : j = i
  · subst e
    have hj : j < η.length := by
      have := (List.getElem?_eq_some_iff.mp q).1
      simpa using this
    rw [List.getElem?_set_self hj] at q
    cases q
    rw [List.getElem?_set_self (by rw [h.1]; exact hj)]
    exact ⟨v, rfl, r⟩
  · rw [List.getElem?_set_ne (Ne.symm e)] at q
    rw [List.getElem?_set_ne (Ne.symm e)]
    exact h.2 j y q
theorem EnvR.drop {i : Nat} {v : Option V} (h : EnvR K F σ η) : EnvR K F (σ.set i v) (η.set i none) := by
  refine ⟨by simpa using h.1, fun j y q => ?_⟩
  by_cases e : j = i
  · subst e
    have hj : j < η.length := by
      have := (List.getElem?_eq_some_iff.mp q).1
      simpa using this
    rw [List.getElem?_set_self hj] at q
    cases q
  · rw [List.getElem?_set_ne (Ne.symm e)] at q
    rw [List.getElem?_set_ne (Ne.symm e)]
    exact h.2 j y q
theorem RepL.envR {vs : List V} {ds : List D} {n : Nat} (r : RepL K F vs ds) : EnvR K F (vs.map some ++ List.replicate n none) (ds.map some ++ List.replicate n none) := by
  have hl := r.length
  refine ⟨by simp [hl], fun i d q => ?_⟩
  by_cases h : i < ds.length
  · rw [List.getElem?_append_left (by simpa using h), List.getElem?_map] at q
    cases e : ds[i]? with
    | none =>
      rw [e] at q
      cases q
    | some y =>
      rw [e] at q
      cases q
      obtain ⟨x, h1, h2⟩ := r.get e
      refine ⟨x, ?_, h2⟩
      rw [List.getElem?_append_left (by rw [List.length_map, hl]; exact h), List.getElem?_map, h1]
      rfl
  · rw [List.getElem?_append_right (by simpa using Nat.le_of_not_lt h), List.getElem?_replicate] at q
    split at q <;> cases q
end

/-! ### what lies between two points: more is frozen, what is not told of stands as it stood -/
structure Way (O : OS) (F H : Hp) (O' : OS) (F' H' : Hp) : Prop where
  sub : Sub F F'
  kp : ∀ a o, H a = some o → O a = none → H' a = some o
  nw : ∀ a o, O' a = some o → O a = none → H a = none
  nf : ∀ a o, F' a = some o → F a = none → O a = none → H a = none
  dm : ∀ a, H' a = none → H a = none
theorem Way.refl (O : OS) (F H : Hp) : Way O F H O F H := ⟨Sub.refl F, fun _ _ e _ => e, fun a o e n => by (rw [n] at e; cases e), fun a o e n _ => by (rw [n] at e; cases e), fun _ h => h⟩
theorem Way.trans {O O' O'' : OS} {F F' F'' H H' H'' : Hp} (s : Way O F H O' F' H') (t : Way O' F' H' O'' F'' H'') : Way O F H O'' F'' H'' := by
  refine ⟨s.sub.trans t.sub, fun a o e n => ?_, fun a o e n => ?_, fun a o e n m => ?_, fun a h => s.dm a (t.dm a h)⟩
  · refine t.kp a o (s.kp a o e n) ?_
    cases q : O' a with
    | none => rfl
    | some x =>
      rw [s.nw a x q n] at e
      cases e
  · cases q : O' a with
    | some x => exact s.nw a x q n
    | none => exact s.dm a (t.nw a o e q)
  · cases q : F' a with
    | some x => exact s.nf a x q n m
    | none =>
      cases r : O' a with
      | some x => exact s.nw a x r m
      | none => exact s.dm a (t.nf a o e q r)
/-- the classes, and what stays true on every way -/
structure Wd extends Wc where
  R : OS → Hp → Hp → Prop
  cl : ∀ {O : OS} {F H : Hp} {O' : OS} {F' H' : Hp}, R O F H → Way O F H O' F' H' → R O' F' H'
structure Hold (K : PySem.W.Frag) (W : Wd) (O : OS) (F H : Hp) : Prop extends HoldC K W.toWc O F H where
  rel : W.R O F H
structure Step (K : PySem.W.Frag) (W : Wd) (O : OS) (F H : Hp) (O' : OS) (F' H' : Hp) : Prop extends Way O F H O' F' H' where
  hold : Hold K W O' F' H'
section
variable {K : PySem.W.Frag} {W : Wd} {O O' O'' : OS} {F F' F'' H H' H'' : Hp} {a p : Addr} {o : OV} {u : HO}
theorem Step.of (h : Hold K W O F H) (w : Way O F H O' F' H') (c : HoldC K W.toWc O' F' H') : Step K W O F H O' F' H' := ⟨w, ⟨c, W.cl h.rel w⟩⟩
theorem Step.refl (h : Hold K W O F H) : Step K W O F H O F H := ⟨Way.refl O F H, h⟩
theorem Step.trans (s : Step K W O F H O' F' H') (t : Step K W O' F' H' O'' F'' H'') : Step K W O F H O'' F'' H'' := ⟨s.toWay.trans t.toWay, t.hold⟩
theorem Step.newF (h : Hold K W O F H) (n : H p = none) : Step K W O F H O (upd F p u) (upd H p u) := by
  refine .of h ⟨Sub.new (h.freshF n), fun a o e _ => ?_, fun a o e m => ?_, fun a o e m _ => ?_, fun a e => ?_⟩ (h.newF n)
  · rw [upd_ne (ne_of_none e n)]
    exact e
  · rw [m] at e
    cases e
  · by_cases z : a = p
    · rw [z]
      exact n
    · rw [upd_ne z, m] at e
      cases e
  · by_cases z : a = p
    · rw [z]
      exact n
    · rw [upd_ne z] at e
      exact e
theorem Step.newH (h : Hold K W O F H) (n : H p = none) : Step K W O F H O F (upd H p u) := by
  refine .of h ⟨Sub.refl F, fun a o e _ => ?_, fun a o e m => ?_, fun a o e m _ => ?_, fun a e => ?_⟩ (h.newH n)
  · rw [upd_ne (ne_of_none e n)]
    exact e
  · rw [m] at e
    cases e
  · rw [m] at e
    cases e
  · by_cases z : a = p
    · rw [z]
      exact n
    · rw [upd_ne z] at e
      exact e
theorem Step.newO (h : Hold K W O F H) (n : H p = none) (r : ObR K W.toWc F (some u) o) : Step K W O F H (put O p o) F (upd H p u) := by
  refine .of h ⟨Sub.refl F, fun a o e _ => ?_, fun a o e m => ?_, fun a o e m _ => ?_, fun a e => ?_⟩ (h.newO n r)
  · rw [upd_ne (ne_of_none e n)]
    exact e
  · by_cases z : a = p
    · rw [z]
      exact n
    · rw [put_ne z, m] at e
      cases e
  · rw [m] at e
    cases e
  · by_cases z : a = p
    · rw [z]
      exact n
    · rw [upd_ne z] at e
      exact e
theorem Step.set {o' : OV} (h : Hold K W O F H) (e : O a = some o) (r : ObR K W.toWc F (some u) o') : Step K W O F H (put O a o') F (upd H a u) := by
  have ne : ∀ b, O b = none → b ≠ a := fun b z w => by
    rw [w, e] at z
    cases z
  refine .of h ⟨Sub.refl F, fun b x q z => ?_, fun b x q z => ?_, fun b x q m _ => ?_, fun b q => ?_⟩ (h.toHoldC.set e r)
  · rw [upd_ne (ne b z)]
    exact q
  · rw [put_ne (ne b z), z] at q
    cases q
  · rw [m] at q
    cases q
  · by_cases z : b = a
    · rw [z, upd_same] at q
      cases q
    · rw [upd_ne z] at q
      exact q
theorem Step.freeze {l : List D} (h : Hold K W O F H) (e : O a = some (.ml l)) : ∃ F', Step K W O F H (cut O a) F' H ∧ Rep K F' (.ref a) (.lst l) := by
  obtain ⟨hF, r⟩ := h.ob a _ e
  generalize hH : H a = ha at r
  cases r with
  | ml r =>
    rename_i vs
    refine ⟨upd F a (.lst vs), .of h ⟨Sub.new hF, fun _ _ e _ => e, fun b x q z => ?_, fun b x q m z => ?_, fun _ h => h⟩ ⟨fun b x q => ?_, fun b x q => ?_⟩, .lst upd_same (r.mono (Sub.new hF))⟩
    · unfold cut at q
      split at q
      · cases q
      · rw [z] at q
        cases q
    · have hne : b ≠ a := fun w => by
        rw [w, e] at z
        cases z
      rw [upd_ne hne, m] at q
      cases q
    · by_cases z : b = a
      · subst z
        rw [upd_same] at q
        cases q
        exact hH
      · rw [upd_ne z] at q
        exact h.fz b x q
    · have hne : b ≠ a := fun z => by
        subst z
        unfold cut at q
        rw [if_pos rfl] at q
        cases q
      unfold cut at q
      rw [if_neg hne] at q
      obtain ⟨h1, h2⟩ := h.ob b x q
      rw [upd_ne hne]
      exact ⟨h1, h2.mono (Sub.new hF)⟩
theorem Way.less {O O' : OS} {F H : Hp} (l : ∀ a o, O' a = some o → O a = some o) : Way O F H O' F H := ⟨Sub.refl F, fun _ _ e _ => e, fun a o e n => by (rw [l a o e] at n; cases n), fun a o e n _ => by (rw [n] at e; cases e), fun _ h => h⟩
theorem Step.less (h : Hold K W O F H) (l : ∀ a o, O' a = some o → O a = some o) : Step K W O F H O' F H := .of h (Way.less l) (h.toHoldC.less l)
/-- something of one's own that nobody else knows is written -/
theorem Step.priv (h : Hold K W O F H) (s : Step K W O F H O' F' H') (h0 : H a = none) (h1 : F' a = none) (h2 : O' a = none) : Step K W O F H O' F' (upd H' a u) := by
  refine .of h ⟨s.sub, fun b x q z => ?_, s.nw, s.nf, fun b q => ?_⟩ ⟨fun b x q => ?_, fun b x q => ?_⟩
  · have hne : b ≠ a := fun w => by
      rw [w, h0] at q
      cases q
    rw [upd_ne hne]
    exact s.kp b x q z
  · by_cases z : b = a
    · rw [z]
      exact h0
    · rw [upd_ne z] at q
      exact s.dm b q
  · have hne : b ≠ a := fun w => by
      rw [w, h1] at q
      cases q
    rw [upd_ne hne]
    exact s.hold.fz b x q
  · have hne : b ≠ a := fun w => by
      rw [w, h2] at q
      cases q
    rw [upd_ne hne]
    exact s.hold.ob b x q
/-- .. stays as it is, and unknown -/
theorem Way.stays {o : HO} (s : Way O F H O' F' H') (h : H a = some o) (h1 : F a = none) (h2 : O a = none) : H' a = some o ∧ F' a = none ∧ O' a = none := by
  refine ⟨s.kp a o h h2, ?_, ?_⟩
  · cases q : F' a with
    | none => rfl
    | some x =>
      rw [s.nf a x q h1 h2] at h
      cases h
  · cases q : O' a with
    | none => rfl
    | some x =>
      rw [s.nw a x q h2] at h
      cases h
/-- what is of one's own is told: a list that is changed no more -/
theorem Step.tellF {vs : List V} {ds : List D} (hh : Hold K W O F H) (s : Step K W O F H O' F' H') (h0 : H a = none) (h : H' a = some (.lst vs)) (h1 : F' a = none) (h2 : O' a = none) (r : RepL K F' vs ds) : ∃ F'', Step K W O F H O' F'' H' ∧ Rep K F'' (.ref a) (.lst ds) := by
  refine ⟨upd F' a (.lst vs), .of hh ⟨s.sub.trans (Sub.new h1), s.kp, s.nw, fun b x q m n => ?_, s.dm⟩ ⟨fun b x q => ?_, fun b x q => ?_⟩, .lst upd_same (r.mono (Sub.new h1))⟩
  · by_cases z : b = a
    · rw [z]
      exact h0
    · rw [upd_ne z] at q
      exact s.nf b x q m n
  · by_cases z : b = a
    · subst z
      rw [upd_same] at q
      cases q
      exact h
    · rw [upd_ne z] at q
      exact s.hold.fz b x q
  · obtain ⟨q1, q2⟩ := s.hold.ob b x q
    have hne : b ≠ a := fun w => by
      rw [w, h2] at q
      cases q
    rw [upd_ne hne]
    exact ⟨q1, q2.mono (Sub.new h1)⟩
/-- .. an object -/
theorem Step.tellO {o : OV} (hh : Hold K W O F H) (s : Step K W O F H O' F' H') (h0 : H a = none) (h1 : F' a = none) (r : ObR K W.toWc F' (H' a) o) : Step K W O F H (put O' a o) F' H' := by
  refine .of hh ⟨s.sub, s.kp, fun b x q n => ?_, s.nf, s.dm⟩ ⟨s.hold.fz, fun b x q => ?_⟩
  · by_cases z : b = a
    · rw [z]
      exact h0
    · rw [put_ne z] at q
      exact s.nw b x q n
  · by_cases z : b = a
    · subst z
      rw [put_same] at q
      cases q
      exact ⟨h1, r⟩
    · rw [put_ne z] at q
      exact s.hold.ob b x q
end

/-! ### readings over data -/
abbrev QD := D → OS → Prop
abbrev WE := Sl → OS → QD → Prop
abbrev WT := Sl → OS → (Bool → OS → Prop) → Prop
abbrev WA := Sl → OS → (List D → OS → Prop) → Prop
structure Fin where
  nx : Sl → OS → Prop
  rt : QD
  bk : Sl → OS → Prop := fun _ _ => False
  ct : Sl → OS → Prop := fun _ _ => False
abbrev WS := Fin → Sl → OS → Prop
section
variable (K : PySem.W.Frag) (W : Wd) (O : OS) (F H : Hp)
/-- a value has come: what is wanted of it, of all that may stand behind it -/
def Go (Q : VK) (d : D) (O' : OS) : Prop := ∀ v F' H', Step K W O F H O' F' H' → Rep K F' v d → Q v H'
def GoB (Q : Bool → Hp → Prop) (b : Bool) (O' : OS) : Prop := ∀ F' H', Step K W O F H O' F' H' → Q b H'
def GoL (Q : List V → Hp → Prop) (ds : List D) (O' : OS) : Prop := ∀ vs F' H', Step K W O F H O' F' H' → RepL K F' vs ds → Q vs H'
def GoS (Q : L2.St → Hp → Prop) (η : Sl) (O' : OS) : Prop := ∀ σ F' H', Step K W O F H O' F' H' → EnvR K F' σ η → Q σ H'
structure GoF (E : Ends) (f : Fin) : Prop where
  nx : ∀ η O', f.nx η O' → GoS K W O F H E.nx η O'
  rt : ∀ d O', f.rt d O' → Go K W O F H E.rt d O'
  bk : ∀ η O', f.bk η O' → GoS K W O F H E.bk η O'
  ct : ∀ η O', f.ct η O' → GoS K W O F H E.ct η O'
end
section
variable (K : PySem.W.Frag) (W : Wd)
def lE (w : WE) : TE := fun σ H Q => ∃ F O η Q0, Hold K W O F H ∧ EnvR K F σ η ∧ w η O Q0 ∧ ∀ d O', Q0 d O' → Go K W O F H Q d O'
def lT (w : WT) : TT := fun σ H Q => ∃ F O η Q0, Hold K W O F H ∧ EnvR K F σ η ∧ w η O Q0 ∧ ∀ b O', Q0 b O' → GoB K W O F H Q b O'
def lA (w : WA) : TA := fun σ H Q => ∃ F O η Q0, Hold K W O F H ∧ EnvR K F σ η ∧ w η O Q0 ∧ ∀ ds O', Q0 ds O' → GoL K W O F H Q ds O'
def lS (w : WS) : TS := fun E σ H => ∃ F O η f, Hold K W O F H ∧ EnvR K F σ η ∧ w f η O ∧ GoF K W O F H E f
end
section
variable {K : PySem.W.Frag} {W : Wd} {O O' : OS} {F F' H H' : Hp}
theorem Go.mono {Q : VK} {d : D} {O2 : OS} (e : Step K W O F H O' F' H') (h : Go K W O F H Q d O2) : Go K W O' F' H' Q d O2 := fun v G H s => h v G H (e.trans s)
theorem GoB.mono {Q : Bool → Hp → Prop} {d : Bool} {O2 : OS} (e : Step K W O F H O' F' H') (h : GoB K W O F H Q d O2) : GoB K W O' F' H' Q d O2 := fun G H s => h G H (e.trans s)
theorem GoL.mono {Q : List V → Hp → Prop} {d : List D} {O2 : OS} (e : Step K W O F H O' F' H') (h : GoL K W O F H Q d O2) : GoL K W O' F' H' Q d O2 := fun v G H s => h v G H (e.trans s)
theorem GoS.mono {Q : L2.St → Hp → Prop} {η : Sl} {O2 : OS} (e : Step K W O F H O' F' H') (h : GoS K W O F H Q η O2) : GoS K W O' F' H' Q η O2 := fun v G H s => h v G H (e.trans s)
theorem GoF.mono {E : Ends} {f : Fin} (e : Step K W O F H O' F' H') (h : GoF K W O F H E f) : GoF K W O' F' H' E f :=
  ⟨fun η O q => (h.nx η O q).mono e, fun η O q => (h.rt η O q).mono e, fun η O q => (h.bk η O q).mono e, fun η O q => (h.ct η O q).mono e⟩
end
end Sw

set_option maxRecDepth 100000
set_option maxHeartbeats 4000000
namespace Sw
open PySem PySem.Spec PyProof.Rows L2
/-! ### what is proved of a piece of syntax -/
abbrev Pe (X : Cx) (W : Wd) (e : Expr) (w : WE) : Prop := PE X e (lE X.K W w)
abbrev Pt (X : Cx) (W : Wd) (e : Expr) (w : WT) : Prop := PT X e (lT X.K W w)
abbrev Pw (X : Cx) (W : Wd) (e : Expr) (w : WT) : Prop := PW X e (lT X.K W w)
abbrev Pa (X : Cx) (W : Wd) (es : List Expr) (w : WA) : Prop := PA X es (lA X.K W w)
abbrev Ps (X : Cx) (W : Wd) (s : Stmt) (w : WS) : Prop := PS X s (lS X.K W w)
abbrev Pss (X : Cx) (W : Wd) (s : List Stmt) (w : WS) : Prop := PSs X s (lS X.K W w)
section
variable {X : Cx}
theorem PE.imp {e : Expr} {t t' : TE} (h : PE X e t) (i : ∀ σ H Q, t' σ H Q → t σ H Q) : PE X e t' := ⟨fun pins s σ H Q I q => h.run pins s σ H Q I (i σ H Q q)⟩
theorem PT.imp {e : Expr} {t t' : TT} (h : PT X e t) (i : ∀ σ H Q, t' σ H Q → t σ H Q) : PT X e t' := ⟨fun pins s σ H Q I q => h.run pins s σ H Q I (i σ H Q q)⟩
theorem PW.imp {e : Expr} {t t' : TT} (h : PW X e t) (i : ∀ σ H Q, t' σ H Q → t σ H Q) : PW X e t' := ⟨fun wh pins s σ H Q I q => h.run wh pins s σ H Q I (i σ H Q q)⟩
theorem PA.imp {es : List Expr} {t t' : TA} (h : PA X es t) (i : ∀ σ H Q, t' σ H Q → t σ H Q) : PA X es t' := ⟨fun pos pins s σ H Q I q => h.run pos pins s σ H Q I (i σ H Q q)⟩
theorem PS.imp {st : Stmt} {t t' : TS} (h : PS X st t) (i : ∀ D σ H, t' D σ H → t D σ H) : PS X st t' := ⟨fun pins s σ H D I q => h.run pins s σ H D I (i D σ H q)⟩
theorem PSs.imp {st : List Stmt} {t t' : TS} (h : PSs X st t) (i : ∀ D σ H, t' D σ H → t D σ H) : PSs X st t' := ⟨fun pins s σ H D I q => h.run pins s σ H D I (i D σ H q)⟩
end
/-! ### lists and tuples as data -/
def asL (O : OS) : D → Option (List D)
  | .lst l => some l
  | .ref p => match O p with
    | some (.ml l) => some l
    | _ => none
  | _ => none
/-- what may be read as a list: the script too -/
def asR (O : OS) : D → Option (List D)
  | .scr l => some l
  | d => asL O d
section
variable {K : PySem.W.Frag} {W : Wd} {O : OS} {F H : Hp} {v : V} {d : D} {l : List D}
theorem asL_at (hH : Hold K W O F H) (r : Rep K F v d) (e : asL O d = some l) : ∃ a xs, v = .ref a ∧ H a = some (.lst xs) ∧ RepL K F xs l := by
  cases r with
  | lst h r =>
    cases e
    exact ⟨_, _, rfl, hH.fz _ _ h, r⟩
  | ref a =>
    have e : (match O a with
      | some (.ml l) => some l
      | _ => none) = some l := e
    cases q : O a with
    | none =>
      rw [q] at e
      cases e
    | some o =>
      rw [q] at e
      cases o with
      | ml l =>
        cases e
        obtain ⟨_, r⟩ := hH.ob a _ q
        generalize hz : H a = z at r
        cases r with
        | ml r => exact ⟨a, _, rfl, hz, r⟩
      | _ => cases e
  | _ => cases e
theorem asR_at (hH : Hold K W O F H) (r : Rep K F v d) (e : asR O d = some l) : ∃ a xs, v = .ref a ∧ SqL K H a xs ∧ RepL K F xs l := by
  cases d with
  | scr l' =>
    cases e
    cases r with
    | scr h r => exact ⟨_, _, rfl, hH.fz.sqL h, r⟩
  | _ => exact let ⟨a, xs, h1, h2, h3⟩ := asL_at hH r e; ⟨a, xs, h1, SqL.of h2, h3⟩
theorem ml_at {p : Addr} (hH : Hold K W O F H) (e : O p = some (.ml l)) : ∃ xs, H p = some (.lst xs) ∧ RepL K F xs l := by
  obtain ⟨_, r⟩ := hH.ob p _ e
  generalize hz : H p = z at r
  cases r with
  | ml r => exact ⟨_, rfl, r⟩
theorem tup_at (hH : Hold K W O F H) (r : Rep K F v (.tup l)) : ∃ a xs, v = .ref a ∧ SqT K H a xs ∧ RepL K F xs l := by
  cases r with
  | tup h r => exact ⟨_, _, rfl, hH.fz.sqT h, r⟩
end

/-! ### names, constants -/
def wVar (i : Nat) : WE := fun η O Q => match η[i]? with
  | some (some d) => Q d O
  | _ => False
def wC (d : D) : WE := fun _ O Q => Q d O
section
variable {X : Cx} {W : Wd} {pos : Pos}
theorem x_of {i : Nat} {e : Expr} (h : PE X e (tVar i)) : Pe X W e (wVar i) := PE.imp h fun σ H Q q => by
  obtain ⟨F, O, η, Q0, hH, hη, hw, hQ⟩ := q
  unfold wVar at hw
  cases e : η[i]? with
  | none =>
    rw [e] at hw
    exact hw.elim
  | some o =>
    rw [e] at hw
    cases o with
    | none => exact hw.elim
    | some d =>
      obtain ⟨v, h1, h2⟩ := hη.2 i d e
      exact ⟨v, h1, hQ d O hw v F H (Step.refl hH) h2⟩
theorem x_v (i : Nat) {x : Str} (hN : X.N[i]? = some x := by rfl) (hv : Vis X.env.scope x := by first | exact Or.inl rfl | exact Or.inr (Or.inl rfl) | exact Or.inr (Or.inr rfl)) (hd : (x == ("__debug__" : Str)) = false := by decide)
    (hcd : (x == ("__classdict__" : Str)) = false := by decide) : Pe X W (.Name x pos) (wVar i) := x_of (pe_var hN hv hd hcd)
theorem x_c {e : Expr} {v : V} {d : D} (h : PE X e (tC v)) (r : ∀ F, Rep X.K F v d) : Pe X W e (wC d) := PE.imp h fun σ H Q q => by
  obtain ⟨F, O, η, Q0, hH, hη, hw, hQ⟩ := q
  exact hQ d O hw v F H (Step.refl hH) (r F)
theorem x_int {i : Int} {j} : Pe X W (.Constant (.int i) j pos) (wC (.int i)) := x_c pe_int fun _ => .int i
theorem x_bl {b : Bool} {j} : Pe X W (.Constant (.bool b) j pos) (wC (.bl b)) := x_c pe_bl fun _ => .bl b
theorem x_non {j} : Pe X W (.Constant .none j pos) (wC .non) := x_c pe_non fun _ => .non
theorem x_str {x : Str} {j} : Pe X W (.Constant (.str x) j pos) (wC (.str x)) := x_c pe_str fun _ => .str x
/-- a module's int, text -/
theorem x_gi {x : Str} {i : Int} (hm : ∃ t, X.mg x = some (.int i t)) (hg : Gl X x := by rfl) (hd : (x == ("__debug__" : Str)) = false := by decide) : Pe X W (.Name x pos) (wC (.int i)) := by
  obtain ⟨t, h⟩ := hm
  exact x_c (pe_glob (v := .int i) hg h ⟨t, rfl⟩ hd) fun _ => .int i
theorem x_gs {x z : Str} (hm : ∃ t, X.mg x = some (.str z t)) (hg : Gl X x := by rfl) (hd : (x == ("__debug__" : Str)) = false := by decide) : Pe X W (.Name x pos) (wC (.str z)) := by
  obtain ⟨t, h⟩ := hm
  exact x_c (pe_glob (v := .str z) hg h ⟨t, rfl⟩ hd) fun _ => .str z
/-- a module's tuple -/
theorem x_gt {x : Str} {a : Addr} {l : List D} (hm : X.mg x = some (.ref a)) (hr : ∀ F, Rep X.K F (.ref a) (.tup l)) (hg : Gl X x := by rfl) (hd : (x == ("__debug__" : Str)) = false := by decide) : Pe X W (.Name x pos) (wC (.tup l)) :=
  x_c (pe_glob (v := .ref a) hg hm rfl hd) hr
/-- a built-in class as a value -/
theorem x_ty {x : Str} {n : String} (hm : X.mg x = none) (hv : bootBuiltins x = some (.type n)) (hg : Gl X x := by rfl) (hn : x ≠ "__name__" := by decide) (hd : (x == ("__debug__" : Str)) = false := by decide) : Pe X W (.Name x pos) (wC (.ty n)) :=
  x_c (pe_bltn (v := .ty n) hg hm hv rfl hn hd) fun _ => .ty n

/-! ### two values -/
abbrev R2D := D → D → (O : OS) → (Q : QD) → PKp (O, Q)
def lR (K : PySem.W.Frag) (W : Wd) (rd : R2D) : R2 := fun x y H Q => ∃ F O d e Q0, Hold K W O F H ∧ Rep K F x d ∧ Rep K F y e ∧ rd d e O Q0 ∧ ∀ z O', Q0 z O' → Go K W O F H Q z O'
def OpD (X : Cx) (W : Wd) (f : Value → Value → Sem Value) (rd : R2D) : Prop := OpR X f (lR X.K W rd)
def wBin (rd : R2D) (wa wb : WE) : WE := fun η O Q => wa η O fun x O1 => wb η O1 fun y O2 => rd x y O2 Q
theorem bin_chase {K : PySem.W.Frag} {rd : R2D} {wa wb : WE} {σ : L2.St} {H : Hp} {Q : VK} (q : lE K W (wBin rd wa wb) σ H Q) : tOp (lR K W rd) (lE K W wa) (lE K W wb) σ H Q := by
  obtain ⟨F, O, η, Q0, hH, hη, hw, hQ⟩ := q
  refine ⟨F, O, η, _, hH, hη, hw, fun x O1 h1 v1 F1 H1 s1 r1 => ?_⟩
  refine ⟨F1, O1, η, _, s1.hold, hη.mono s1.sub, h1, fun y O2 h2 v2 F2 H2 s2 r2 => ?_⟩
  exact ⟨F2, O2, x, y, Q0, s2.hold, r1.mono s2.sub, r2, h2, fun z O' h => (hQ z O' h).mono (s1.trans s2)⟩
variable {a b : Expr} {wa wb : WE} {rd : R2D}
theorem x_op {op : Operator} (ho : OpD X W (binaryOp op) rd) (ha : Pe X W a wa) (hb : Pe X W b wb) : Pe X W (.BinOp a op b pos) (wBin rd wa wb) := PE.imp (pe_op ho ha hb) fun _ _ _ q => bin_chase q
/-- one value -/
def lU (K : PySem.W.Frag) (W : Wd) (rd : D → OS → QD → Prop) : V → Hp → VK → Prop := fun x H Q => ∃ F O d Q0, Hold K W O F H ∧ Rep K F x d ∧ rd d O Q0 ∧ ∀ z O', Q0 z O' → Go K W O F H Q z O'
def wUn (rd : D → OS → QD → Prop) (wa : WE) : WE := fun η O Q => wa η O fun x O1 => rd x O1 Q
theorem un_chase {K : PySem.W.Frag} {rd : D → OS → QD → Prop} {wa : WE} {σ : L2.St} {H : Hp} {Q : VK} (q : lE K W (wUn rd wa) σ H Q) : tUn (lU K W rd) (lE K W wa) σ H Q := by
  obtain ⟨F, O, η, Q0, hH, hη, hw, hQ⟩ := q
  refine ⟨F, O, η, _, hH, hη, hw, fun x O1 h1 v1 F1 H1 s1 r1 => ?_⟩
  exact ⟨F1, O1, x, Q0, s1.hold, r1, h1, fun z O' h => (hQ z O' h).mono s1⟩
theorem x_un {op : UnaryOp} {rd : D → OS → QD → Prop} (ho : UnR X (unaryOp op) (lU X.K W rd)) (ha : Pe X W a wa) : Pe X W (.UnaryOp op a pos) (wUn rd wa) := PE.imp (pe_un ho ha) fun _ _ _ q => un_chase q
theorem x_cmp {op : CmpOp} (ho : OpD X W (compareOp op) rd) (ha : Pe X W a wa) (hb : Pe X W b wb) (hm : behindInMarks op b = false := by first | exact nomark _ (by decide) (by decide) | rfl) : Pe X W (.Compare a [op] [b] pos) (wBin rd wa wb) :=
  PE.imp (pe_cmpR ho ha hb hm) fun _ _ _ q => bin_chase q
/-- a value that is a bool, as a test -/
def wB (w : WE) : WT := fun η O Q => w η O fun d O1 => match d with
  | .bl b => Q b O1
  | _ => False
theorem b_chase {K : PySem.W.Frag} {w : WE} {t : TE} {σ : L2.St} {H : Hp} {Q : Bool → Hp → Prop} (ht : ∀ σ H Q, lE K W w σ H Q → t σ H Q) (q : lT K W (wB w) σ H Q) : t σ H fun x H1 => ∃ k, x = .bl k ∧ Q k H1 := by
  obtain ⟨F, O, η, Q0, hH, hη, hw, hQ⟩ := q
  refine ht _ _ _ ⟨F, O, η, _, hH, hη, hw, fun d O1 h1 v1 F1 H1 s1 r1 => ?_⟩
  cases r1 with
  | bl b => exact ⟨b, rfl, hQ b O1 h1 F1 H1 s1⟩
  | _ => exact h1.elim
theorem t_cmp {op : CmpOp} (ho : OpD X W (compareOp op) rd) (ha : Pe X W a wa) (hb : Pe X W b wb) (hm : behindInMarks op b = false := by first | exact nomark _ (by decide) (by decide) | rfl) : Pt X W (.Compare a [op] [b] pos) (wB (wBin rd wa wb)) :=
  PT.imp (pt_cmpR ho ha hb hm) fun _ _ _ q => b_chase (fun _ _ _ q => bin_chase q) q
theorem t_val {e : Expr} {w : WE} (h : Pe X W e w) (he : ∀ whole, isTrue e X.env whole = (do let v ← whole; standAt e.pos; holding [v] (truthy v)) := by intro _; rfl) : Pt X W e (wB w) :=
  PT.imp (pt_val h he) fun _ _ _ q => b_chase (fun _ _ _ q => q) q
/-- a < b < c -/
def wChain (rd rd' : R2D) (wa wb wc : WE) : WE := fun η O Q => wa η O fun x O1 => wb η O1 fun y O2 => rd x y O2 fun z O3 => match z with
  | .bl true => wc η O3 fun u O4 => rd' y u O4 Q
  | .bl false => Q (.bl false) O3
  | _ => False
end
end Sw

set_option maxRecDepth 100000
set_option maxHeartbeats 4000000
namespace Sw
open PySem PySem.Spec PyProof.Rows L2
/-! ### data as the library's data -/
mutual
def toP : D → Option PyData
  | .non => some .none
  | .bl b => some (.bool b)
  | .int i => some (.int i)
  | .str x => some (.str x)
  | .tup l => (toPs l).map .tuple
  | .lst l => (toPs l).map .list
  | _ => none
def toPs : List D → Option (List PyData)
  | [] => some []
  | d :: r => (toP d).bind fun p => (toPs r).map fun q => p :: q
end
def toPO (O : OS) : D → Option PyData
  | .ref p => match O p with
    | some (.ml l) => (toPs l).map .list
    | _ => none
  | d => toP d
section
variable {K : PySem.W.Frag} {H : Hp}
mutual
theorem toP_dp : ∀ {d : D} {v : V} {p : PyData}, Rep K H v d → toP d = some p → Dp K H v p
  | .non, _, _, r, e => by
    cases e
    cases r
    exact .non
  | .bl b, _, _, r, e => by
    cases e
    cases r
    exact .bl b
  | .int i, _, _, r, e => by
    cases e
    cases r
    exact .int i
  | .str x, _, _, r, e => by
    cases e
    cases r
    exact .str x
  | .tup l, _, _, r, e => by
    cases r with
    | tup h r =>
      obtain ⟨ps, h1, h2⟩ := Option.map_eq_some_iff.mp (show (toPs l).map PyData.tuple = some _ from e)
      subst h2
      exact .tup h (toPs_dp r h1)
  | .lst l, _, _, r, e => by
    cases r with
    | lst h r =>
      obtain ⟨ps, h1, h2⟩ := Option.map_eq_some_iff.mp (show (toPs l).map PyData.list = some _ from e)
      subst h2
      exact .lst (SqL.of h) (toPs_dp r h1)
  | .scr l, _, _, _, e => by cases e
  | .dk l, _, _, _, e => by cases e
  | .ty n, _, _, _, e => by cases e
  | .ref n, _, _, _, e => by cases e
theorem toPs_dp : ∀ {ds : List D} {vs : List V} {ps : List PyData}, RepL K H vs ds → toPs ds = some ps → DpAll K H vs ps
  | [], _, _, r, e => by
    cases e
    cases r
    exact .nil
  | d :: ds, _, _, r, e => by
    cases r with
    | cons h r =>
      obtain ⟨p, h1, e⟩ := Option.bind_eq_some_iff.mp (show (toP d).bind (fun p => (toPs ds).map fun q => p :: q) = some _ from e)
      obtain ⟨q, h2, h3⟩ := Option.map_eq_some_iff.mp e
      subst h3
      exact .cons (toP_dp h h1) (toPs_dp r h2)
end
theorem toPO_dp {W : Wd} {O : OS} {F : Hp} {d : D} {v : V} {p : PyData} (hH : Hold K W O F H) (r : Rep K F v d) (e : toPO O d = some p) : Dp K H v p := by
  cases d with
  | ref a =>
    cases r
    have e : (match O a with
      | some (.ml l) => (toPs l).map PyData.list
      | _ => none) = some p := e
    cases q : O a with
    | none =>
      rw [q] at e
      cases e
    | some o =>
      rw [q] at e
      cases o with
      | ml l =>
        obtain ⟨ps, h1, h2⟩ := Option.map_eq_some_iff.mp (show (toPs l).map PyData.list = some _ from e)
        subst h2
        obtain ⟨xs, h3, h4⟩ := ml_at hH q
        exact .lst (SqL.of h3) (toPs_dp (h4.mono hH.fz) h1)
      | _ => cases e
  | _ => exact toP_dp (r.mono hH.fz) e
end
/-! ### what is done with two values -/
def rI2 (C : Int → Int → Prop) (g : Int → Int → D) : D → D → (O : OS) → (Q : QD) → PKp (C, g, O, Q) := fun x y O Q => match x, y with
  | .int i, .int j => C i j ∧ Q (g i j) O
  | _, _ => False
def rJ2 (g : Int → Int → D) : D → D → (O : OS) → (Q : QD) → PKp (g, O, Q) := fun x y O Q => match x, y with
  | .int i, .int j => Q (g i j) O
  | _, _ => False
def rAdd : R2D := fun x y O Q => match x, y with
  | .int i, .int j => Q (.int (i + j)) O
  | .tup a, .tup b => a.length + b.length ≤ sizeLine ∧ Q (.tup (a ++ b)) O
  | .str a, .str b => a.length + b.length ≤ sizeLine ∧ Q (.str (a ++ b)) O
  | x, y => ∃ a b, asL O x = some a ∧ asL O y = some b ∧ a.length + b.length ≤ sizeLine ∧ Q (.lst (a ++ b)) O
def rMul : R2D := fun x y O Q => match x, y with
  | .int i, .int j => CMul i j ∧ Q (.int (i * j)) O
  | _, _ => False
/-- == of data -/
def rEqq (neg : Bool) : D → D → (O : OS) → (Q : QD) → PKp (neg, O, Q) := fun x y O Q => match x, y with
  | .int i, .int j => Q (.bl (if neg then !decide (i = j) else decide (i = j))) O
  | .str i, .str j => Q (.bl (if neg then !decide (i = j) else decide (i = j))) O
  | x, y => ∃ p q, toPO O x = some p ∧ toPO O y = some q ∧ SeqAt.shaped p = true ∧ SeqAt.shaped q = true ∧ Q (.bl (if neg then !PyData.eqv p q else PyData.eqv p q)) O
def isNon : D → Bool
  | .non => true
  | _ => false
def rIs (neg : Bool) : D → D → (O : OS) → (Q : QD) → PKp (neg, O, Q) := fun x y O Q => match y with
  | .non => Q (.bl (if neg then !isNon x else isNon x)) O
  | _ => False
def flatD : D → Bool
  | .non => true
  | .bl _ => true
  | .int _ => true
  | .str _ => true
  | _ => false
def eqD : D → D → Bool
  | .non, .non => true
  | .bl a, .bl b => a == b
  | .bl a, .int b => (if a then 1 else 0) == b
  | .int a, .bl b => a == (if b then 1 else 0)
  | .int a, .int b => a == b
  | .str a, .str b => a == b
  | _, _ => false
def inD (x : D) (l : List D) : Bool := l.any fun y => eqD y x
def rInn (neg : Bool) : D → D → (O : OS) → (Q : QD) → PKp (neg, O, Q) := fun x y O Q => match y with
  | .tup l => flatD x = true ∧ l.all flatD = true ∧ Q (.bl (if neg then !inD x l else inD x l)) O
  | y => ∃ l, asR O y = some l ∧ flatD x = true ∧ l.all flatD = true ∧ Q (.bl (if neg then !inD x l else inD x l)) O
def ixD (l : List D) (i : Int) : Option D := atI l i
def rIdx : R2D := fun x y O Q => match y with
  | .int i => (match x with
    | .tup l => (match atI l i with
      | some d => Q d O
      | none => False)
    | .str z => ∃ c, z.length ≤ sizeLine ∧ atI z.cps.toList i = some c ∧ Q (.str ⟨#[c]⟩) O
    | x => (match asR O x with
      | some l => (match atI l i with
        | some d => Q d O
        | none => False)
      | none => False))
  | _ => False
section
variable {X : Cx} {W : Wd}
theorem rep_int {K : PySem.W.Frag} {F : Hp} {v : V} {i : Int} (r : Rep K F v (.int i)) : v = .int i := by
  cases r <;> rfl
theorem rep_str {K : PySem.W.Frag} {F : Hp} {v : V} {i : Str} (r : Rep K F v (.str i)) : v = .str i := by
  cases r <;> rfl
theorem rep_bl {K : PySem.W.Frag} {F : Hp} {v : V} {i : Bool} (r : Rep K F v (.bl i)) : v = .bl i := by
  cases r <;> rfl
theorem rep_non {K : PySem.W.Frag} {F : Hp} {v : V} (r : Rep K F v .non) : v = .non := by
  cases r <;> rfl
theorem d_I2 {f : Value → Value → Sem Value} {C : Int → Int → Prop} {g : Int → Int → V} {g' : Int → Int → D} (h : OpR X f (rI C g)) (e : ∀ i j F, Rep X.K F (g i j) (g' i j)) : OpD X W f (rI2 C g') := by
  intro pins s σ H x y v u Q I rx ry q
  obtain ⟨F, O, d, e', Q0, hH, r1, r2, w, k⟩ := q
  cases d <;> cases e' <;> first | exact w.elim | skip
  cases rep_int r1
  cases rep_int r2
  exact h pins s σ H _ _ v u Q I rx ry ⟨_, _, rfl, rfl, w.1, k _ _ w.2 _ F H (Step.refl hH) (e _ _ F)⟩
theorem d_J2 {f : Value → Value → Sem Value} {g : Int → Int → V} {g' : Int → Int → D} (h : OpR X f (rI0 g)) (e : ∀ i j F, Rep X.K F (g i j) (g' i j)) : OpD X W f (rJ2 g') := by
  intro pins s σ H x y v u Q I rx ry q
  obtain ⟨F, O, d, e', Q0, hH, r1, r2, w, k⟩ := q
  cases d <;> cases e' <;> first | exact w.elim | skip
  cases rep_int r1
  cases rep_int r2
  exact h pins s σ H _ _ v u Q I rx ry ⟨_, _, rfl, rfl, k _ _ w _ F H (Step.refl hH) (e _ _ F)⟩
theorem d_sub : OpD X W (binaryOp .Sub) (rJ2 fun i j => .int (i - j)) := d_J2 op_sub fun _ _ _ => .int _
theorem d_fdiv : OpD X W (binaryOp .FloorDiv) (rI2 CDiv fun i j => .int (i / j)) := d_I2 op_fdiv fun _ _ _ => .int _
theorem d_mod : OpD X W (binaryOp .Mod) (rI2 (fun _ j => 0 < j) fun i j => .int (i % j)) := d_I2 op_mod fun _ _ _ => .int _
theorem d_pow : OpD X W (binaryOp .Pow) (rI2 CPow fun i j => .int (i ^ j.toNat)) := d_I2 op_pow fun _ _ _ => .int _
theorem d_shl : OpD X W (binaryOp .LShift) (rI2 CPow fun i j => .int (i * 2 ^ j.toNat)) := d_I2 op_shl fun _ _ _ => .int _
theorem d_shr : OpD X W (binaryOp .RShift) (rI2 (fun _ j => 0 ≤ j) fun i j => .int (i / 2 ^ j.toNat)) := d_I2 op_shr fun _ _ _ => .int _
theorem d_and : OpD X W (binaryOp .BitAnd) (rJ2 fun i j => .int (Builtin.bitAnd i j)) := d_J2 op_and fun _ _ _ => .int _
theorem d_or : OpD X W (binaryOp .BitOr) (rJ2 fun i j => .int (Builtin.bitOr i j)) := d_J2 op_or fun _ _ _ => .int _
theorem d_xor : OpD X W (binaryOp .BitXor) (rJ2 fun i j => .int (Builtin.bitXor i j)) := d_J2 op_xor fun _ _ _ => .int _
theorem d_lt : OpD X W (compareOp .Lt) (rJ2 fun i j => .bl (decide (i < j))) := d_J2 op_lt fun _ _ _ => .bl _
theorem d_le : OpD X W (compareOp .LtE) (rJ2 fun i j => .bl (decide (i ≤ j))) := d_J2 op_le fun _ _ _ => .bl _
theorem d_gt : OpD X W (compareOp .Gt) (rJ2 fun i j => .bl (decide (j < i))) := d_J2 op_gt fun _ _ _ => .bl _
theorem d_ge : OpD X W (compareOp .GtE) (rJ2 fun i j => .bl (decide (j ≤ i))) := d_J2 op_ge fun _ _ _ => .bl _
theorem d_iadd : OpD X W (inplaceOp .Add) (rJ2 fun i j => .int (i + j)) := d_J2 iop_add fun _ _ _ => .int _
theorem d_isub : OpD X W (inplaceOp .Sub) (rJ2 fun i j => .int (i - j)) := d_J2 iop_sub fun _ _ _ => .int _
theorem d_mul : OpD X W (binaryOp .Mult) rMul := by
  intro pins s σ H x y v u Q I rx ry q
  obtain ⟨F, O, d, e', Q0, hH, r1, r2, w, k⟩ := q
  cases d <;> cases e' <;> first | exact w.elim | skip
  cases rep_int r1
  cases rep_int r2
  exact op_mul pins s σ H _ _ v u Q I rx ry ⟨_, _, rfl, rfl, w.1, k _ _ w.2 _ F H (Step.refl hH) (.int _)⟩
theorem add_lists {K : PySem.W.Frag} {O : OS} {F H : Hp} {x y : V} {d e : D} {Q : VK} {Q0 : QD} (hH : Hold K W O F H) (r1 : Rep K F x d) (r2 : Rep K F y e) (w : ∃ a b, asL O d = some a ∧ asL O e = some b ∧ a.length + b.length ≤ sizeLine ∧ Q0 (.lst (a ++ b)) O)
    (k : ∀ z O', Q0 z O' → Go K W O F H Q z O') : rCat x y H Q := by
  obtain ⟨a, b, h1, h2, h3, w⟩ := w
  obtain ⟨p, xs, e1, h4, h5⟩ := asL_at hH r1 h1
  obtain ⟨p', ys, e2, h6, h7⟩ := asL_at hH r2 h2
  refine ⟨p, p', xs, ys, e1, e2, h4, h6, by rw [h5.length, h7.length]; exact h3, fun q nq => ?_⟩
  exact k _ _ w _ _ _ (Step.newF hH nq) (.lst upd_same ((h5.append h7).mono (Sub.new (hH.freshF nq))))
theorem d_add : OpD X W (binaryOp .Add) rAdd := by
  intro pins s σ H x y v u Q I rx ry q
  obtain ⟨F, O, d, e', Q0, hH, r1, r2, w, k⟩ := q
  have lists := fun w => op_cat pins s σ H x y v u Q I rx ry (add_lists hH r1 r2 w k)
  cases d with
  | int i =>
    cases e' with
    | int j =>
      cases rep_int r1
      cases rep_int r2
      exact op_add pins s σ H _ _ v u Q I rx ry ⟨_, _, rfl, rfl, k _ _ w _ F H (Step.refl hH) (.int _)⟩
    | _ => exact lists w
  | str i =>
    cases e' with
    | str j =>
      cases rep_str r1
      cases rep_str r2
      exact op_add_str pins s σ H _ _ v u Q I rx ry ⟨_, _, rfl, rfl, w.1, k _ _ w.2 _ F H (Step.refl hH) (.str _)⟩
    | _ => exact lists w
  | tup a =>
    cases e' with
    | tup b =>
      obtain ⟨p, xs, rfl, h1, h2⟩ := tup_at hH r1
      obtain ⟨p', ys, rfl, h3, h4⟩ := tup_at hH r2
      obtain ⟨w1, w2⟩ := w
      refine op_catA pins s σ H _ _ v u Q I rx ry ⟨p, p', xs, ys, rfl, rfl, h1, h3, by rw [h2.length, h4.length]; exact w1, fun z => ?_, fun _ z => ?_, fun _ _ q nq => ?_⟩
      · have e : a = [] := h2.nil_iff.mp z
        subst e
        exact k _ _ w2 _ F H (Step.refl hH) r2
      · have e : b = [] := h4.nil_iff.mp z
        subst e
        rw [List.append_nil] at w2
        exact k _ _ w2 _ F H (Step.refl hH) r1
      · exact k _ _ w2 _ _ _ (Step.newF hH nq) (.tup (SqT.of upd_same) ((h2.append h4).mono (Sub.new (hH.freshF nq))))
    | _ => exact lists w
  | _ => exact lists w
theorem d_eqA (hu : X.A.units + 64 < cLine) {O : OS} {F H : Hp} {x y : V} {d e : D} {Q : VK} {Q0 : QD} (neg : Bool) (hH : Hold X.K W O F H) (r1 : Rep X.K F x d) (r2 : Rep X.K F y e)
    (w : ∃ p q, toPO O d = some p ∧ toPO O e = some q ∧ SeqAt.shaped p = true ∧ SeqAt.shaped q = true ∧ Q0 (.bl (if neg then !PyData.eqv p q else PyData.eqv p q)) O) (k : ∀ z O', Q0 z O' → Go X.K W O F H Q z O') :
    ∃ p q, Dp X.K H x p ∧ Dp X.K H y q ∧ SeqAt.shaped p = true ∧ SeqAt.shaped q = true ∧ Q (.bl (if neg then !PyData.eqv p q else PyData.eqv p q)) H := by
  obtain ⟨p, q, h1, h2, h3, h4, h5⟩ := w
  exact ⟨p, q, toPO_dp hH r1 h1, toPO_dp hH r2 h2, h3, h4, k _ _ h5 _ F H (Step.refl hH) (.bl _)⟩
theorem d_eq (hu : X.A.units + 64 < cLine) : OpD X W (compareOp .Eq) (rEqq false) := by
  intro pins s σ H x y v u Q I rx ry q
  obtain ⟨F, O, d, e', Q0, hH, r1, r2, w, k⟩ := q
  have data := fun w => op_eqD hu pins s σ H x y v u Q I rx ry (d_eqA hu false hH r1 r2 w k)
  cases d with
  | int i =>
    cases e' with
    | int j =>
      cases rep_int r1
      cases rep_int r2
      refine op_eq pins s σ H _ _ v u Q I rx ry ⟨rfl, ?_⟩
      rw [dec_int, Bool.beq_eq_decide_eq]
      exact k _ _ w _ F H (Step.refl hH) (.bl _)
    | _ => exact data w
  | str i =>
    cases e' with
    | str j =>
      cases rep_str r1
      cases rep_str r2
      refine op_eq pins s σ H _ _ v u Q I rx ry ⟨rfl, ?_⟩
      rw [dec_str]
      have q := k _ _ w _ F H (Step.refl hH) (.bl _)
      rw [show (i == j) = decide (i = j) from Bool.beq_eq_decide_eq ..]
      exact q
    | _ => exact data w
  | _ => exact data w
theorem d_ne (hu : X.A.units + 64 < cLine) : OpD X W (compareOp .NotEq) (rEqq true) := by
  intro pins s σ H x y v u Q I rx ry q
  obtain ⟨F, O, d, e', Q0, hH, r1, r2, w, k⟩ := q
  have data := fun w => op_neD hu pins s σ H x y v u Q I rx ry (d_eqA hu true hH r1 r2 w k)
  cases d with
  | int i =>
    cases e' with
    | int j =>
      cases rep_int r1
      cases rep_int r2
      refine op_ne pins s σ H _ _ v u Q I rx ry ⟨rfl, ?_⟩
      rw [dec_int, Bool.beq_eq_decide_eq]
      exact k _ _ w _ F H (Step.refl hH) (.bl _)
    | _ => exact data w
  | str i =>
    cases e' with
    | str j =>
      cases rep_str r1
      cases rep_str r2
      refine op_ne pins s σ H _ _ v u Q I rx ry ⟨rfl, ?_⟩
      rw [dec_str]
      have q := k _ _ w _ F H (Step.refl hH) (.bl _)
      rw [show (i == j) = decide (i = j) from Bool.beq_eq_decide_eq ..]
      exact q
    | _ => exact data w
  | _ => exact data w
theorem isNon_iff {K : PySem.W.Frag} {F : Hp} {x : V} {d : D} (r : Rep K F x d) : decide (x = .non) = isNon d := by
  cases r <;> simp [isNon]
theorem d_is : OpD X W (compareOp .Is) (rIs false) := by
  intro pins s σ H x y v u Q I rx ry q
  obtain ⟨F, O, d, e', Q0, hH, r1, r2, w, k⟩ := q
  cases e' <;> first | exact w.elim | skip
  refine op_isN pins s σ H _ _ v u Q I rx ry ⟨rep_non r2, ?_⟩
  rw [isNon_iff r1]
  exact k _ _ w _ F H (Step.refl hH) (.bl _)
theorem d_isnot : OpD X W (compareOp .IsNot) (rIs true) := by
  intro pins s σ H x y v u Q I rx ry q
  obtain ⟨F, O, d, e', Q0, hH, r1, r2, w, k⟩ := q
  cases e' <;> first | exact w.elim | skip
  refine op_notN pins s σ H _ _ v u Q I rx ry ⟨rep_non r2, ?_⟩
  rw [isNon_iff r1]
  exact k _ _ w _ F H (Step.refl hH) (.bl _)
theorem flat_V {K : PySem.W.Frag} {F : Hp} {x : V} {d : D} (r : Rep K F x d) (h : flatD d = true) : flatV x = true := by
  cases r <;> first | rfl | cases h
theorem flat_Vs {K : PySem.W.Frag} {F : Hp} : ∀ {xs : List V} {ds : List D}, RepL K F xs ds → ds.all flatD = true → xs.all flatV = true
  | _, _, .nil, _ => rfl
  | _, _, .cons h r, e => by
    rw [List.all_cons, Bool.and_eq_true] at e ⊢
    exact ⟨flat_V h e.1, flat_Vs r e.2⟩
theorem eq_V {K : PySem.W.Frag} {F : Hp} {x y : V} {d e : D} (r : Rep K F x d) (r' : Rep K F y e) : eqV y x = eqD e d := by
  cases r <;> cases r' <;> rfl
theorem in_V {K : PySem.W.Frag} {F : Hp} {x : V} {d : D} (r : Rep K F x d) : ∀ {xs : List V} {ds : List D}, RepL K F xs ds → inV x xs = inD d ds
  | _, _, .nil => rfl
  | _, _, .cons h q => by
    unfold inV inD
    rw [List.any_cons, List.any_cons, eq_V r h]
    have := in_V r q
    unfold inV inD at this
    rw [this]
theorem in_chase {O : OS} {F H : Hp} {x y : V} {d e : D} {Q : VK} {Q0 : QD} (neg : Bool) (hH : Hold X.K W O F H) (r1 : Rep X.K F x d) (r2 : Rep X.K F y e) (w : rInn neg d e O Q0) (k : ∀ z O', Q0 z O' → Go X.K W O F H Q z O') : rIn X.K neg x y H Q := by
  have fin : ∀ (l : List D) (xs : List V), RepL X.K F xs l → flatD d = true → l.all flatD = true → Q0 (.bl (if neg then !inD d l else inD d l)) O → flatV x = true ∧ xs.all flatV = true ∧ Q (.bl (if neg then !inV x xs else inV x xs)) H := fun l xs r f1 f2 q => by
    refine ⟨flat_V r1 f1, flat_Vs r f2, ?_⟩
    rw [in_V r1 r]
    exact k _ _ q _ F H (Step.refl hH) (.bl _)
  cases e with
  | tup l =>
    obtain ⟨p, xs, rfl, h1, h2⟩ := tup_at hH r2
    obtain ⟨w1, w2, w3⟩ := w
    exact ⟨p, xs, rfl, .inr h1, fin l xs h2 w1 w2 w3⟩
  | _ =>
    obtain ⟨l, w0, w1, w2, w3⟩ := w
    obtain ⟨p, xs, e1, h1, h2⟩ := asR_at hH r2 w0
    exact ⟨p, xs, e1, .inl h1, fin l xs h2 w1 w2 w3⟩
theorem d_in : OpD X W (compareOp .In) (rInn false) := by
  intro pins s σ H x y v u Q I rx ry q
  obtain ⟨F, O, d, e', Q0, hH, r1, r2, w, k⟩ := q
  exact op_in_seq pins s σ H x y v u Q I rx ry (in_chase false hH r1 r2 w k)
theorem d_notin : OpD X W (compareOp .NotIn) (rInn true) := by
  intro pins s σ H x y v u Q I rx ry q
  obtain ⟨F, O, d, e', Q0, hH, r1, r2, w, k⟩ := q
  exact op_notIn_seq pins s σ H x y v u Q I rx ry (in_chase true hH r1 r2 w k)
theorem at_rep {K : PySem.W.Frag} {F : Hp} {xs : List V} {l : List D} {i : Int} {d : D} (r : RepL K F xs l) (e : atI l i = some d) : ∃ v, atI xs i = some v ∧ Rep K F v d := by
  unfold atI at e ⊢
  rw [r.length]
  cases q : ixN l.length i with
  | none =>
    rw [q] at e
    cases e
  | some j =>
    rw [q] at e
    exact r.get e
theorem d_ix : IxR X (lR X.K W rIdx) := by
  intro value slice pins s σ H x y v u Q I rx ry q hs
  obtain ⟨F, O, d, e', Q0, hH, r1, r2, w, k⟩ := q
  refine ix_seq value slice pins s σ H x y v u Q I rx ry ?_ hs
  cases e' <;> first | exact w.elim | skip
  rename_i i
  cases rep_int r2
  have lists : (match asR O d with
      | some l => (match atI l i with
        | some d => Q0 d O
        | none => False)
      | none => False) → rIx X.K x (.int i) H Q := fun w => by
    cases e : asR O d with
    | none =>
      rw [e] at w
      exact w.elim
    | some l =>
      rw [e] at w
      have w : (match atI l i with
        | some d => Q0 d O
        | none => False) := w
      cases e2 : atI l i with
      | none =>
        rw [e2] at w
        exact w.elim
      | some z =>
        rw [e2] at w
        obtain ⟨a, xs, rfl, h1, h2⟩ := asR_at hH r1 e
        obtain ⟨v', h3, h4⟩ := at_rep h2 e2
        exact .inl ⟨a, xs, i, v', rfl, rfl, h1, h3, k _ _ w _ F H (Step.refl hH) h4⟩
  cases d with
  | tup l =>
    have w : (match atI l i with
      | some d => Q0 d O
      | none => False) := w
    cases e : atI l i with
    | none =>
      rw [e] at w
      exact w.elim
    | some z =>
      rw [e] at w
      obtain ⟨a, xs, rfl, h1, h2⟩ := tup_at hH r1
      obtain ⟨v', h3, h4⟩ := at_rep h2 e
      exact .inr (.inl ⟨a, xs, i, v', rfl, rfl, h1, h3, k _ _ w _ F H (Step.refl hH) h4⟩)
  | str z =>
    cases rep_str r1
    obtain ⟨c, w1, w2, w3⟩ := w
    exact .inr (.inr ⟨z, i, c, rfl, rfl, w1, w2, k _ _ w3 _ F H (Step.refl hH) (.str _)⟩)
  | _ => exact lists w
theorem x_ix {a b : Expr} {wa wb : WE} {pos : Pos} (ha : Pe X W a wa) (hb : Pe X W b wb) (hs : PlainIx b := by intro _ _; rfl) : Pe X W (.Subscript a b pos) (wBin rIdx wa wb) := PE.imp (pe_ix d_ix ha hb hs) fun _ _ _ q => bin_chase q
theorem u_neg : UnR X (unaryOp .USub) (lU X.K W fun d O Q => match d with
  | .int i => Q (.int (-i)) O
  | _ => False) := by
  intro pins s σ H x v Q I rx q
  obtain ⟨F, O, d, Q0, hH, r1, w, k⟩ := q
  cases d <;> first | exact w.elim | skip
  cases rep_int r1
  exact un_neg pins s σ H _ v Q I rx ⟨_, rfl, k _ _ w _ F H (Step.refl hH) (.int _)⟩
end
end Sw

set_option maxRecDepth 100000
set_option maxHeartbeats 4000000
namespace Sw
open PySem PySem.Spec PyProof.Rows L2
/-! ### tests -/
def wAnd (t u : WT) : WT := fun η O Q => t η O fun b O1 => match b with
  | true => u η O1 Q
  | false => Q false O1
def wOr (t u : WT) : WT := fun η O Q => t η O fun b O1 => match b with
  | true => Q true O1
  | false => u η O1 Q
def wNot (t : WT) : WT := fun η O Q => t η O fun b O1 => Q (!b) O1
def wAndV (a b : WE) : WE := fun η O Q => a η O fun x O1 => match x with
  | .bl true => b η O1 Q
  | .bl false => Q (.bl false) O1
  | _ => False
def wOrV (a b : WE) : WE := fun η O Q => a η O fun x O1 => match x with
  | .bl true => Q (.bl true) O1
  | .bl false => b η O1 Q
  | _ => False
def wNotV (a : WE) : WE := fun η O Q => a η O fun x O1 => match x with
  | .bl b => Q (.bl (!b)) O1
  | _ => False
def wIfE (t : WT) (a b : WE) : WE := fun η O Q => t η O fun c O1 => match c with
  | true => a η O1 Q
  | false => b η O1 Q
/-- truth of a value -/
def truD (O : OS) : D → Option Bool
  | .non => some false
  | .bl b => some b
  | .int i => some (i != 0)
  | .tup l => some (!l.isEmpty)
  | .lst l => some (!l.isEmpty)
  | .ref p => match O p with
    | some (.ml l) => some (!l.isEmpty)
    | some (.md l) => some (!l.isEmpty)
    | _ => none
  | _ => none
def wTru (w : WE) : WT := fun η O Q => w η O fun d O1 => match truD O1 d with
  | some b => Q b O1
  | none => False
section
variable {X : Cx} {W : Wd} {pos : Pos} {a b : Expr} {rest : List Expr}
theorem t_and1 {t : WT} (ha : Pt X W a t) : Pw X W (.BoolOp .And [a] pos) t := pw_and1 ha
theorem t_or1 {t : WT} (ha : Pt X W a t) : Pw X W (.BoolOp .Or [a] pos) t := pw_or1 ha
theorem t_and {t u : WT} (ha : Pt X W a t) (hb : Pw X W (.BoolOp .And (b :: rest) pos) u) : Pw X W (.BoolOp .And (a :: b :: rest) pos) (wAnd t u) := PW.imp (pw_and ha hb) fun σ H Q q => by
  obtain ⟨F, O, η, Q0, hH, hη, hw, hQ⟩ := q
  refine ⟨F, O, η, _, hH, hη, hw, fun c O1 h1 F1 H1 s1 => ?_⟩
  cases c with
  | true => exact iteT ⟨F1, O1, η, Q0, s1.hold, hη.mono s1.sub, h1, fun z O' h => (hQ z O' h).mono s1⟩
  | false => exact iteF (hQ _ _ h1 F1 H1 s1)
theorem t_or {t u : WT} (ha : Pt X W a t) (hb : Pw X W (.BoolOp .Or (b :: rest) pos) u) : Pw X W (.BoolOp .Or (a :: b :: rest) pos) (wOr t u) := PW.imp (pw_or ha hb) fun σ H Q q => by
  obtain ⟨F, O, η, Q0, hH, hη, hw, hQ⟩ := q
  refine ⟨F, O, η, _, hH, hη, hw, fun c O1 h1 F1 H1 s1 => ?_⟩
  cases c with
  | false => exact iteF ⟨F1, O1, η, Q0, s1.hold, hη.mono s1.sub, h1, fun z O' h => (hQ z O' h).mono s1⟩
  | true => exact iteT (hQ _ _ h1 F1 H1 s1)
theorem t_not {t : WT} (ha : Pt X W a t) : Pt X W (.UnaryOp .Not a pos) (wNot t) := PT.imp (pt_not ha) fun σ H Q q => by
  obtain ⟨F, O, η, Q0, hH, hη, hw, hQ⟩ := q
  exact ⟨F, O, η, _, hH, hη, hw, fun c O1 h1 F1 H1 s1 => hQ _ _ h1 F1 H1 s1⟩
theorem t_pw {t : WT} {e : Expr} (h : Pw X W e t) : Pt X W e t := PW.pt h
theorem t_tru {w : WE} {e : Expr} (h : Pe X W e w) (he : ∀ whole, isTrue e X.env whole = (do let v ← whole; standAt e.pos; holding [v] (truthy v)) := by intro _; rfl) : Pt X W e (wTru w) := PT.imp (pt_truth h he) fun σ H Q q => by
  obtain ⟨F, O, η, Q0, hH, hη, hw, hQ⟩ := q
  refine ⟨F, O, η, _, hH, hη, hw, fun d O1 h1 v1 F1 H1 s1 r1 => ?_⟩
  have fin : ∀ k, TruV X.K v1 H1 k → Q0 k O1 → ∃ k, TruV X.K v1 H1 k ∧ Q k H1 := fun k t q => ⟨k, t, hQ _ _ q F1 H1 s1⟩
  have hH1 := s1.hold
  cases d with
  | non =>
    cases rep_non r1
    exact fin _ rfl h1
  | bl b =>
    cases rep_bl r1
    exact fin _ rfl h1
  | int i =>
    cases rep_int r1
    exact fin _ rfl h1
  | tup l =>
    obtain ⟨p, xs, rfl, h2, h3⟩ := tup_at hH1 r1
    refine fin (!l.isEmpty) (.inr (.inl ⟨xs, h2, ?_⟩)) h1
    cases h3 <;> rfl
  | lst l =>
    obtain ⟨p, xs, rfl, h2, h3⟩ := asL_at (O := O1) hH1 r1 rfl
    refine fin (!l.isEmpty) (.inl ⟨xs, SqL.of h2, ?_⟩) h1
    cases h3 <;> rfl
  | ref p =>
    cases r1
    have h1 : (match (match O1 p with
      | some (.ml l) => some (!l.isEmpty)
      | some (.md l) => some (!l.isEmpty)
      | _ => none) with
      | some b => Q0 b O1
      | none => False) := h1
    cases q : O1 p with
    | none =>
      rw [q] at h1
      exact h1.elim
    | some o =>
      rw [q] at h1
      cases o with
      | ml l =>
        obtain ⟨xs, h2, h3⟩ := ml_at hH1 q
        refine fin (!l.isEmpty) (.inl ⟨xs, SqL.of h2, ?_⟩) h1
        cases h3 <;> rfl
      | md l =>
        obtain ⟨_, r⟩ := hH1.ob p _ q
        generalize hz : H1 p = z at r
        cases r with
        | md r =>
          refine fin (!l.isEmpty) (.inr (.inr ⟨_, hz, ?_⟩)) h1
          cases r <;> rfl
      | _ => exact h1.elim
  | _ => exact h1.elim
theorem x_one {op : BoolOp} {w : WE} (ha : Pe X W a w) : Pe X W (.BoolOp op [a] pos) w := pe_one ha
theorem x_and {u w : WE} (ha : Pe X W a u) (hb : Pe X W (.BoolOp .And (b :: rest) pos) w) : Pe X W (.BoolOp .And (a :: b :: rest) pos) (wAndV u w) := PE.imp (pe_and ha hb) fun σ H Q q => by
  obtain ⟨F, O, η, Q0, hH, hη, hw, hQ⟩ := q
  refine ⟨F, O, η, _, hH, hη, hw, fun d O1 h1 v1 F1 H1 s1 r1 => ?_⟩
  cases d <;> first | exact h1.elim | skip
  rename_i c
  cases rep_bl r1
  refine ⟨c, rfl, ?_⟩
  cases c with
  | true => exact iteT ⟨F1, O1, η, Q0, s1.hold, hη.mono s1.sub, h1, fun z O' h => (hQ z O' h).mono s1⟩
  | false => exact iteF (hQ _ _ h1 _ F1 H1 s1 (.bl false))
theorem x_or {u w : WE} (ha : Pe X W a u) (hb : Pe X W (.BoolOp .Or (b :: rest) pos) w) : Pe X W (.BoolOp .Or (a :: b :: rest) pos) (wOrV u w) := PE.imp (pe_or ha hb) fun σ H Q q => by
  obtain ⟨F, O, η, Q0, hH, hη, hw, hQ⟩ := q
  refine ⟨F, O, η, _, hH, hη, hw, fun d O1 h1 v1 F1 H1 s1 r1 => ?_⟩
  cases d <;> first | exact h1.elim | skip
  rename_i c
  cases rep_bl r1
  refine ⟨c, rfl, ?_⟩
  cases c with
  | false => exact iteF ⟨F1, O1, η, Q0, s1.hold, hη.mono s1.sub, h1, fun z O' h => (hQ z O' h).mono s1⟩
  | true => exact iteT (hQ _ _ h1 _ F1 H1 s1 (.bl true))
theorem x_not {w : WE} (ha : Pe X W a w) : Pe X W (.UnaryOp .Not a pos) (wNotV w) := PE.imp (pe_not ha) fun σ H Q q => by
  obtain ⟨F, O, η, Q0, hH, hη, hw, hQ⟩ := q
  refine ⟨F, O, η, _, hH, hη, hw, fun d O1 h1 v1 F1 H1 s1 r1 => ?_⟩
  cases d <;> first | exact h1.elim | skip
  rename_i c
  cases rep_bl r1
  exact ⟨c, rfl, hQ _ _ h1 _ F1 H1 s1 (.bl _)⟩
theorem x_if {c : Expr} {t : WT} {u w : WE} (hc : Pt X W c t) (ha : Pe X W a u) (hb : Pe X W b w) : Pe X W (.IfExp c a b pos) (wIfE t u w) := PE.imp (pe_ifExp hc ha hb) fun σ H Q q => by
  obtain ⟨F, O, η, Q0, hH, hη, hw, hQ⟩ := q
  refine ⟨F, O, η, _, hH, hη, hw, fun c O1 h1 F1 H1 s1 => ?_⟩
  cases c with
  | true => exact iteT ⟨F1, O1, η, Q0, s1.hold, hη.mono s1.sub, h1, fun z O' h => (hQ z O' h).mono s1⟩
  | false => exact iteF ⟨F1, O1, η, Q0, s1.hold, hη.mono s1.sub, h1, fun z O' h => (hQ z O' h).mono s1⟩
/-- a < b < c -/
theorem chain_chase {K : PySem.W.Frag} {rd rd' : R2D} {wa wb wc : WE} {σ : L2.St} {H : Hp} {Q : VK} (q : lE K W (wChain rd rd' wa wb wc) σ H Q) : tChain (lR K W rd) (lR K W rd') (lE K W wa) (lE K W wb) (lE K W wc) σ H Q := by
  obtain ⟨F, O, η, Q0, hH, hη, hw, hQ⟩ := q
  refine ⟨F, O, η, _, hH, hη, hw, fun x O1 h1 v1 F1 H1 s1 r1 => ?_⟩
  refine ⟨F1, O1, η, _, s1.hold, hη.mono s1.sub, h1, fun y O2 h2 v2 F2 H2 s2 r2 => ?_⟩
  refine ⟨F2, O2, x, y, _, s2.hold, r1.mono s2.sub, r2, h2, fun z O3 h3 v3 F3 H3 s3 r3 => ?_⟩
  cases z <;> first | exact h3.elim | skip
  rename_i c
  cases rep_bl r3
  refine ⟨c, rfl, ?_⟩
  have s13 := (s1.trans s2).trans s3
  cases c with
  | true =>
    refine iteT ⟨F3, O3, η, _, s3.hold, hη.mono s13.sub, h3, fun u O4 h4 v4 F4 H4 s4 r4 => ?_⟩
    exact ⟨F4, O4, y, u, Q0, s4.hold, r2.mono (s3.trans s4).sub, r4, h4, fun z O' h => (hQ z O' h).mono (s13.trans s4)⟩
  | false => exact iteF (hQ _ _ h3 _ F3 H3 s13 (.bl false))
theorem x_chain {c : Expr} {op op' : CmpOp} {rd rd' : R2D} {wa wb wc : WE} (ho : OpD X W (compareOp op) rd) (ho' : OpD X W (compareOp op') rd') (ha : Pe X W a wa) (hb : Pe X W b wb) (hc : Pe X W c wc) (hm : lastMarks [op, op'] [b, c] = false := by with_unfolding_all rfl) :
    Pe X W (.Compare a [op, op'] [b, c] pos) (wChain rd rd' wa wb wc) := PE.imp (pe_chain ho ho' ha hb hc hm) fun _ _ _ q => chain_chase q
theorem t_chain {c : Expr} {op op' : CmpOp} {rd rd' : R2D} {wa wb wc : WE} (ho : OpD X W (compareOp op) rd) (ho' : OpD X W (compareOp op') rd') (ha : Pe X W a wa) (hb : Pe X W b wb) (hc : Pe X W c wc) (hm : lastMarks [op, op'] [b, c] = false := by with_unfolding_all rfl) :
    Pt X W (.Compare a [op, op'] [b, c] pos) (wB (wChain rd rd' wa wb wc)) := PT.imp (pt_chain ho ho' ha hb hc hm) fun _ _ _ q => b_chase (fun _ _ _ q => chain_chase q) q
end
/-! ### displays -/
def wNil : WA := fun _ O Q => Q [] O
def wCons (w : WE) (r : WA) : WA := fun η O Q => w η O fun d O1 => r η O1 fun ds O2 => Q (d :: ds) O2
def wTup (w : WA) : WE := fun η O Q => w η O fun ds O1 => ds.length ≤ sizeLine ∧ Q (.tup ds) O1
def wLst (w : WA) : WE := fun η O Q => w η O fun ds O1 => ds.length ≤ sizeLine ∧ Q (.lst ds) O1
/-- a list that is to change -/
def wLstM (w : WA) : WE := fun η O Q => w η O fun ds O1 => ds.length ≤ sizeLine ∧ ∀ p, O1 p = none → Q (.ref p) (put O1 p (.ml ds))
section
variable {X : Cx} {W : Wd} {pos : Pos} {e : Expr} {es : List Expr}
theorem a_nil : Pa X W [] wNil := PA.imp pa_nil fun σ H Q q => by
  obtain ⟨F, O, η, Q0, hH, hη, hw, hQ⟩ := q
  exact hQ _ _ hw _ F H (Step.refl hH) .nil
theorem a_cons {w : WE} {r : WA} (h : Pe X W e w) (hr : Pa X W es r) (hs : starEach (e :: es) X.env = (false, eval e X.env) :: starEach es X.env := by rfl) : Pa X W (e :: es) (wCons w r) := PA.imp (pa_cons h hr hs) fun σ H Q q => by
  obtain ⟨F, O, η, Q0, hH, hη, hw, hQ⟩ := q
  refine ⟨F, O, η, _, hH, hη, hw, fun d O1 h1 v1 F1 H1 s1 r1 => ?_⟩
  refine ⟨F1, O1, η, _, s1.hold, hη.mono s1.sub, h1, fun ds O2 h2 vs F2 H2 s2 r2 => ?_⟩
  exact hQ _ _ h2 _ F2 H2 (s1.trans s2) (.cons (r1.mono s2.sub) r2)
theorem x_tup {w : WA} {k} (h : Pa X W es w) : Pe X W (.Tuple es k pos) (wTup w) := PE.imp (pe_tup h) fun σ H Q q => by
  obtain ⟨F, O, η, Q0, hH, hη, hw, hQ⟩ := q
  refine ⟨F, O, η, _, hH, hη, hw, fun ds O1 h1 vs F1 H1 s1 r1 => ⟨by rw [r1.length]; exact h1.1, fun p np => ?_⟩⟩
  have s2 := Step.newF (u := .tup vs) s1.hold np
  exact hQ _ _ h1.2 _ _ _ (s1.trans s2) (.tup (SqT.of upd_same) (r1.mono s2.sub))
theorem x_lst {w : WA} (h : Pa X W es w) : Pe X W (.List es pos) (wLst w) := PE.imp (pe_lst h) fun σ H Q q => by
  obtain ⟨F, O, η, Q0, hH, hη, hw, hQ⟩ := q
  refine ⟨F, O, η, _, hH, hη, hw, fun ds O1 h1 vs F1 H1 s1 r1 => ⟨by rw [r1.length]; exact h1.1, fun p np => ?_⟩⟩
  have s2 := Step.newF (u := .lst vs) s1.hold np
  exact hQ _ _ h1.2 _ _ _ (s1.trans s2) (.lst upd_same (r1.mono s2.sub))
theorem x_lstM {w : WA} (h : Pa X W es w) : Pe X W (.List es pos) (wLstM w) := PE.imp (pe_lst h) fun σ H Q q => by
  obtain ⟨F, O, η, Q0, hH, hη, hw, hQ⟩ := q
  refine ⟨F, O, η, _, hH, hη, hw, fun ds O1 h1 vs F1 H1 s1 r1 => ⟨by rw [r1.length]; exact h1.1, fun p np => ?_⟩⟩
  have s2 := Step.newO (o := .ml ds) (u := .lst vs) s1.hold np (.ml r1)
  exact hQ _ _ (h1.2 p (s1.hold.freshO np)) _ _ _ (s1.trans s2) (.ref p)
end
/-! ### slices -/
abbrev WO := Sl → OS → (Option Int → OS → Prop) → Prop
def wNo : WO := fun _ O Q => Q none O
def wPt (w : WE) : WO := fun η O Q => w η O fun d O1 => match d with
  | .int i => Q (some i) O1
  | _ => False
def cutD {α : Type} (xs : List α) (lo hi : Option Int) : List α := (xs.drop (HT.sIx xs.length 0 lo)).take (HT.sIx xs.length xs.length hi - HT.sIx xs.length 0 lo)
def rSli (x : D) (lo hi : Option Int) (O : OS) (Q : QD) : PKp (O, Q) := match x with
  | .tup l => Q (.tup (cutD l lo hi)) O
  | x => match asR O x with
    | some l => Q (.lst (cutD l lo hi)) O
    | none => False
def wSli (w : WE) (lo hi : WO) : WE := fun η O Q => w η O fun x O1 => lo η O1 fun l O2 => hi η O2 fun h O3 => rSli x l h O3 Q
def lO (K : PySem.W.Frag) (W : Wd) (w : WO) : TO := fun σ H Q => ∃ F O η Q0, Hold K W O F H ∧ EnvR K F σ η ∧ w η O Q0 ∧ ∀ d O', Q0 d O' → ∀ F' H', Step K W O F H O' F' H' → Q d H'
section
variable {X : Cx} {W : Wd} {pos p2 : Pos} {e : Expr} {lo hi : Option Expr}
theorem o_no : PO X none (lO X.K W wNo) := ⟨fun pins s σ H Q I q => by
  obtain ⟨F, O, η, Q0, hH, hη, hw, hQ⟩ := q
  exact po_none.run pins s σ H Q I (hQ _ _ hw F H (Step.refl hH))⟩
theorem o_pt {w : WE} (h : Pe X W e w) : PO X (some e) (lO X.K W (wPt w)) := ⟨fun pins s σ H Q I q => by
  obtain ⟨F, O, η, Q0, hH, hη, hw, hQ⟩ := q
  refine (po_some h).run pins s σ H Q I ⟨F, O, η, _, hH, hη, hw, fun d O1 h1 v1 F1 H1 s1 r1 => ?_⟩
  cases d <;> first | exact h1.elim | skip
  cases rep_int r1
  exact ⟨_, rfl, hQ _ _ h1 F1 H1 s1⟩⟩
theorem RepL.cutD {K : PySem.W.Frag} {F : Hp} {xs : List V} {l : List D} (r : RepL K F xs l) (lo hi : Option Int) : RepL K F (cutV xs lo hi) (cutD l lo hi) := by
  unfold cutV Sw.cutD
  rw [r.length]
  exact (r.drop _).take _
theorem cut_whole {K : PySem.W.Frag} {F : Hp} {xs : List V} {l : List D} {lo hi : Option Int} (r : RepL K F xs l) (h : HT.sIx xs.length 0 lo = 0 ∧ HT.sIx xs.length xs.length hi = xs.length) : cutD l lo hi = l := by
  unfold Sw.cutD
  rw [← r.length, h.1, h.2, List.drop_zero, Nat.sub_zero, r.length, List.take_length]
theorem d_sli : SlR X (fun x lo hi H Q => ∃ F O d Q0, Hold X.K W O F H ∧ Rep X.K F x d ∧ rSli d lo hi O Q0 ∧ ∀ z O', Q0 z O' → Go X.K W O F H Q z O') := by
  intro pins s σ H x v vl vu lo hi sl Q I rx hs pl pu q
  obtain ⟨F, O, d, Q0, hH, r1, w, k⟩ := q
  have lists : (match asR O d with
    | some l => Q0 (.lst (cutD l lo hi)) O
    | none => False) → rSlL X.K x lo hi H Q := fun w => by
    cases e : asR O d with
    | none =>
      rw [e] at w
      exact w.elim
    | some l =>
      rw [e] at w
      obtain ⟨a, xs, rfl, h1, h2⟩ := asR_at hH r1 e
      refine ⟨a, xs, rfl, h1, fun p np => ?_⟩
      have s2 := Step.newF (u := .lst (cutV xs lo hi)) hH np
      exact k _ _ w _ _ _ s2 (.lst upd_same ((h2.cutD lo hi).mono s2.sub))
  cases d with
  | tup l =>
    obtain ⟨a, xs, rfl, h1, h2⟩ := tup_at hH r1
    refine sl_tupA pins s σ H _ v vl vu lo hi sl Q I rx hs pl pu ⟨a, xs, rfl, h1, fun z => ?_, fun z p np => ?_⟩
    · have w : Q0 (.tup (cutD l lo hi)) O := w
      rw [cut_whole h2 z] at w
      exact k _ _ w _ F H (Step.refl hH) r1
    · have s2 := Step.newF (u := .tup (cutV xs lo hi)) hH np
      exact k _ _ w _ _ _ s2 (.tup (SqT.of upd_same) ((h2.cutD lo hi).mono s2.sub))
  | _ => exact sl_list pins s σ H x v vl vu lo hi sl Q I rx hs pl pu (lists w)
theorem x_sli {w : WE} {wl wh : WO} (h : Pe X W e w) (hl : PO X lo (lO X.K W wl)) (hh : PO X hi (lO X.K W wh)) : Pe X W (.Subscript e (.Slice lo hi none p2) pos) (wSli w wl wh) := PE.imp (pe_slice d_sli h hl hh) fun σ H Q q => by
  obtain ⟨F, O, η, Q0, hH, hη, hw, hQ⟩ := q
  refine ⟨F, O, η, _, hH, hη, hw, fun x O1 h1 v1 F1 H1 s1 r1 => ?_⟩
  refine ⟨F1, O1, η, _, s1.hold, hη.mono s1.sub, h1, fun l O2 h2 F2 H2 s2 => ?_⟩
  refine ⟨F2, O2, η, _, s2.hold, hη.mono (s1.trans s2).sub, h2, fun h O3 h3 F3 H3 s3 => ?_⟩
  exact ⟨F3, O3, x, Q0, s3.hold, r1.mono (s2.trans s3).sub, h3, fun z O' h => (hQ z O' h).mono ((s1.trans s2).trans s3)⟩
end
end Sw

set_option maxRecDepth 100000
set_option maxHeartbeats 4000000
namespace Sw
open PySem PySem.Spec PyProof.Rows L2
/-! ### calls of what is built in -/
abbrev RD := List D → (O : OS) → (Q : QD) → PKp (O, Q)
def lC (K : PySem.W.Frag) (W : Wd) (rd : RD) : List V → Hp → VK → Prop := fun xs H Q => ∃ F O ds Q0, Hold K W O F H ∧ RepL K F xs ds ∧ rd ds O Q0 ∧ ∀ z O', Q0 z O' → Go K W O F H Q z O'
def wCall (rd : RD) (wa : WA) : WE := fun η O Q => wa η O fun ds O1 => rd ds O1 Q
section
variable {X : Cx} {W : Wd} {pos p : Pos} {e : Expr} {es : List Expr} {x : Str} {rd : RD} {wa : WA}
theorem call_chase {K : PySem.W.Frag} {σ : L2.St} {H : Hp} {Q : VK} (q : lE K W (wCall rd wa) σ H Q) : tCB (lC K W rd) (lA K W wa) σ H Q := by
  obtain ⟨F, O, η, Q0, hH, hη, hw, hQ⟩ := q
  refine ⟨F, O, η, _, hH, hη, hw, fun ds O1 h1 vs F1 H1 s1 r1 => ?_⟩
  exact ⟨F1, O1, ds, Q0, s1.hold, r1, h1, fun z O' h => (hQ z O' h).mono s1⟩
theorem x_cb {id : String} (hc : CallR X (.builtin id) (lC X.K W rd)) (ha : Pa X W (e :: es) wa) (hm : X.mg x = none) (hv : bootBuiltins x = some (.builtin id)) (hg : Gl X x := by rfl) (hn : x ≠ "__name__" := by decide) (hdb : (x == ("__debug__" : Str)) = false := by decide)
    (he : starEach (e :: es) X.env = (false, eval e X.env) :: starEach es X.env := by rfl) (hpl : (backTo pos (starEach es X.env)).any (·.1) = false := by rfl) : Pe X W (.Call (.Name x p) (e :: es) [] pos) (wCall rd wa) :=
  PE.imp (pe_callB hc hg hm hv ha hn hdb he hpl) fun _ _ _ q => call_chase q
theorem x_ct {T : String} (hc : CallR X (.type T) (lC X.K W rd)) (ha : Pa X W (e :: es) wa) (hm : X.mg x = none) (hv : bootBuiltins x = some (.type T)) (hg : Gl X x := by rfl) (hn : x ≠ "__name__" := by decide) (hdb : (x == ("__debug__" : Str)) = false := by decide)
    (he : starEach (e :: es) X.env = (false, eval e X.env) :: starEach es X.env := by rfl) (hpl : (backTo pos (starEach es X.env)).any (·.1) = false := by rfl) : Pe X W (.Call (.Name x p) (e :: es) [] pos) (wCall rd wa) :=
  PE.imp (pe_callTy hc hg hm hv ha hn hdb he hpl) fun _ _ _ q => call_chase q
end
/-! ### what they are worth -/
def rOne (f : D → OS → QD → Prop) : List D → (O : OS) → (Q : QD) → PKp (f, O, Q) := fun ds O Q => match ds with
  | [d] => f d O Q
  | _ => False
def rTwo (f : D → D → OS → QD → Prop) : List D → (O : OS) → (Q : QD) → PKp (f, O, Q) := fun ds O Q => match ds with
  | [d, e] => f d e O Q
  | _ => False
def rLen1 : D → (O : OS) → (Q : QD) → PKp (O, Q) := fun d O Q => match d with
  | .tup l => Q (.int l.length) O
  | .str z => z.length ≤ sizeLine ∧ Q (.int z.length) O
  | .dk l => Q (.int l.length) O
  | d => (match asR O d with
    | some l => Q (.int l.length) O
    | none => (match d with
      | .ref p => (match O p with
        | some (.md l) => Q (.int l.length) O
        | _ => False)
      | _ => False))
abbrev rLen : RD := rOne rLen1
def tyD (O : OS) : D → Option String
  | .non => some "NoneType"
  | .bl _ => some "bool"
  | .int _ => some "int"
  | .str _ => some "str"
  | .tup _ => some "tuple"
  | .lst _ => some "list"
  | .dk _ => some "dict"
  | .ref p => match O p with
    | some (.ml _) => some "list"
    | some (.md _) => some "dict"
    | some (.mt _) => some "dict"
    | _ => none
  | _ => none
/-- a built-in class against another -/
def isiB (a b : String) : Bool := (kitB a b).getD false
def rIsi2 : D → (y : D) → (O : OS) → (Q : QD) → PKp (y, O, Q) := fun x y O Q => match y with
  | .ty n => (match tyD O x with
    | some t => (kitB t n).isSome = true ∧ Q (.bl (isiB t n)) O
    | none => False)
  | _ => False
abbrev rIsiD : RD := rTwo rIsi2
def rAbs : RD := fun ds O Q => match ds with
  | [.int i] => Q (.int (if i < 0 then -i else i)) O
  | _ => False
def rInt1 : RD := fun ds O Q => match ds with
  | [.int i] => Q (.int i) O
  | [.bl b] => Q (.int (if b then 1 else 0)) O
  | _ => False
def rMax2 : RD := fun ds O Q => match ds with
  | [.int i, .int j] => Q (.int (if j > i then j else i)) O
  | _ => False
def rMin2 : RD := fun ds O Q => match ds with
  | [.int i, .int j] => Q (.int (if j < i then j else i)) O
  | _ => False
def intsD : List D → Option (List Int)
  | [] => some []
  | .int i :: r => (intsD r).map fun q => i :: q
  | _ :: _ => none
def blsD : List D → Option (List Bool)
  | [] => some []
  | .bl i :: r => (blsD r).map fun q => i :: q
  | _ :: _ => none
theorem intsD_map : ∀ ns : List Int, intsD (ns.map .int) = some ns
  | [] => rfl
  | n :: ns => by
    show (intsD (ns.map .int)).map _ = _
    rw [intsD_map ns]
    rfl
theorem blsD_map : ∀ ns : List Bool, blsD (ns.map .bl) = some ns
  | [] => rfl
  | n :: ns => by
    show (blsD (ns.map .bl)).map _ = _
    rw [blsD_map ns]
    rfl
theorem intsD_eq : ∀ {ds : List D} {ns : List Int}, intsD ds = some ns → ds = ns.map .int
  | [], _, e => by
    cases e
    rfl
  | .int i :: r, _, e => by
    obtain ⟨q, h1, h2⟩ := Option.map_eq_some_iff.mp (show (intsD r).map (fun q => i :: q) = some _ from e)
    subst h2
    rw [intsD_eq h1]
    rfl
  | .non :: _, _, e => by cases e
  | .bl _ :: _, _, e => by cases e
  | .str _ :: _, _, e => by cases e
  | .tup _ :: _, _, e => by cases e
  | .lst _ :: _, _, e => by cases e
  | .scr _ :: _, _, e => by cases e
  | .dk _ :: _, _, e => by cases e
  | .ty _ :: _, _, e => by cases e
  | .ref _ :: _, _, e => by cases e
theorem blsD_eq : ∀ {ds : List D} {ns : List Bool}, blsD ds = some ns → ds = ns.map .bl
  | [], _, e => by
    cases e
    rfl
  | .bl i :: r, _, e => by
    obtain ⟨q, h1, h2⟩ := Option.map_eq_some_iff.mp (show (blsD r).map (fun q => i :: q) = some _ from e)
    subst h2
    rw [blsD_eq h1]
    rfl
  | .non :: _, _, e => by cases e
  | .int _ :: _, _, e => by cases e
  | .str _ :: _, _, e => by cases e
  | .tup _ :: _, _, e => by cases e
  | .lst _ :: _, _, e => by cases e
  | .scr _ :: _, _, e => by cases e
  | .dk _ :: _, _, e => by cases e
  | .ty _ :: _, _, e => by cases e
  | .ref _ :: _, _, e => by cases e
theorem ints_V {K : PySem.W.Frag} {F : Hp} : ∀ {ns : List Int} {xs : List V}, RepL K F xs (ns.map .int) → xs = ns.map .int
  | [], _, r => by
    cases r
    rfl
  | n :: ns, _, r => by
    cases r with
    | cons h r =>
      rw [rep_int h, ints_V r]
      rfl
theorem bls_V {K : PySem.W.Frag} {F : Hp} : ∀ {ns : List Bool} {xs : List V}, RepL K F xs (ns.map .bl) → xs = ns.map .bl
  | [], _, r => by
    cases r
    rfl
  | n :: ns, _, r => by
    cases r with
    | cons h r =>
      rw [rep_bl h, bls_V r]
      rfl
theorem ints_R {K : PySem.W.Frag} {F : Hp} : ∀ ns : List Int, RepL K F (ns.map .int) (ns.map .int)
  | [] => .nil
  | n :: ns => .cons (.int n) (ints_R ns)
/-- a list of ints, of bools -/
def rSumD : RD := fun ds O Q => match ds with
  | [d] => ∃ l ns, asL O d = some l ∧ intsD l = some ns ∧ Q (.int ns.sum) O
  | _ => False
def rAllD : RD := fun ds O Q => match ds with
  | [d] => ∃ l ns, asL O d = some l ∧ blsD l = some ns ∧ Q (.bl (ns.all id)) O
  | _ => False
def rAnyD : RD := fun ds O Q => match ds with
  | [d] => ∃ l ns, asL O d = some l ∧ blsD l = some ns ∧ Q (.bl (ns.any id)) O
  | _ => False
def rMaxD : RD := fun ds O Q => match ds with
  | [d] => ∃ l ns, asL O d = some l ∧ intsD l = some ns ∧ 0 < ns.length ∧ ∀ m, m ∈ ns → (∀ y, y ∈ ns → y ≤ m) → Q (.int m) O
  | _ => False
def rMinD : RD := fun ds O Q => match ds with
  | [d] => ∃ l ns, asL O d = some l ∧ intsD l = some ns ∧ 0 < ns.length ∧ ∀ m, m ∈ ns → (∀ y, y ∈ ns → m ≤ y) → Q (.int m) O
  | _ => False
def rTupD1 : D → (O : OS) → (Q : QD) → PKp (O, Q) := fun d O Q => match d with
  | .tup l => Q (.tup l) O
  | d => (match asR O d with
    | some l => Q (.tup l) O
    | none => False)
abbrev rTupD : RD := rOne rTupD1
def rListD1 : D → (O : OS) → (Q : QD) → PKp (O, Q) := fun d O Q => match d with
  | .tup l => Q (.lst l) O
  | d => (match asR O d with
    | some l => Q (.lst l) O
    | none => False)
abbrev rListD : RD := rOne rListD1
def rListM1 : D → (O : OS) → (Q : QD) → PKp (O, Q) := fun d O Q => match d with
  | .tup l => ∀ p, O p = none → Q (.ref p) (put O p (.ml l))
  | d => (match asR O d with
    | some l => ∀ p, O p = none → Q (.ref p) (put O p (.ml l))
    | none => False)
abbrev rListM : RD := rOne rListM1
section
variable {X : Cx} {W : Wd}
theorem one_rep {K : PySem.W.Frag} {F : Hp} {xs : List V} {d : D} (r : RepL K F xs [d]) : ∃ v, xs = [v] ∧ Rep K F v d := by
  cases r with
  | cons h r =>
    cases r
    exact ⟨_, rfl, h⟩
theorem two_rep {K : PySem.W.Frag} {F : Hp} {xs : List V} {d e : D} (r : RepL K F xs [d, e]) : ∃ v w, xs = [v, w] ∧ Rep K F v d ∧ Rep K F w e := by
  cases r with
  | cons h r =>
    obtain ⟨w, rfl, h2⟩ := one_rep r
    exact ⟨_, _, rfl, h, h2⟩
theorem c_len : CallR X (.builtin "len") (lC X.K W rLen) := by
  intro pins s σ H xs us Q I rx q
  obtain ⟨F, O, ds, Q0, hH, r, w, k⟩ := q
  match ds, w with
  | [d], w =>
    obtain ⟨v, rfl, r1⟩ := one_rep r
    have lists : ∀ l, asR O d = some l → Q0 (.int l.length) O → wpAny (model X.prog X.w) X.A (call (.builtin "len") us) (EP X pins σ Q) X.xe s := fun l e w => by
      obtain ⟨a, xs, rfl, h1, h2⟩ := asR_at hH r1 e
      refine call_len_seq pins s σ H _ us Q I rx ⟨a, xs, rfl, .inl h1, ?_⟩
      rw [h2.length]
      exact k _ _ w _ F H (Step.refl hH) (.int _)
    have dicts : ∀ (a : Addr) (ws : List (Key × V)) (l : List (Key × D)), v = .ref a → H a = some (.dK ws) → RepK X.K F ws l → Q0 (.int l.length) O → wpAny (model X.prog X.w) X.A (call (.builtin "len") us) (EP X pins σ Q) X.xe s := fun a ws l e h1 h2 w => by
      subst e
      refine call_lenD pins s σ H _ us Q I rx ⟨a, ws, rfl, h1, ?_⟩
      rw [h2.length]
      exact k _ _ w _ F H (Step.refl hH) (.int _)
    have other : (∀ l, d ≠ .tup l) → (∀ z, d ≠ .str z) → (∀ z, d ≠ .dk z) → rLen1 d O Q0 → wpAny (model X.prog X.w) X.A (call (.builtin "len") us) (EP X pins σ Q) X.xe s := fun n1 n2 n3 w => by
      have w : (match asR O d with
        | some l => Q0 (.int l.length) O
        | none => (match d with
          | .ref p => (match O p with
            | some (.md l) => Q0 (.int l.length) O
            | _ => False)
          | _ => False)) := by
        cases d <;> first | exact w | exact absurd rfl (n1 _) | exact absurd rfl (n2 _) | exact absurd rfl (n3 _)
      cases e : asR O d with
      | some l =>
        rw [e] at w
        exact lists l e w
      | none =>
        rw [e] at w
        cases d <;> first | exact w.elim | skip
        rename_i p _ _
        cases r1
        have w : (match O p with
            | some (.md l) => Q0 (.int l.length) O
            | _ => False) := w
        cases q : O p with
        | none =>
          rw [q] at w
          exact w.elim
        | some o =>
          rw [q] at w
          cases o <;> first | exact w.elim | skip
          obtain ⟨_, r⟩ := hH.ob p _ q
          generalize hz : H p = z at r
          cases r with
          | md r => exact dicts p _ _ rfl hz r w
    cases d with
    | tup l =>
      obtain ⟨a, xs, rfl, h1, h2⟩ := tup_at hH r1
      refine call_len_seq pins s σ H _ us Q I rx ⟨a, xs, rfl, .inr h1, ?_⟩
      rw [h2.length]
      exact k _ _ w _ F H (Step.refl hH) (.int _)
    | str z =>
      cases rep_str r1
      exact call_len_str pins s σ H _ us Q I rx ⟨z, rfl, w.1, k _ _ w.2 _ F H (Step.refl hH) (.int _)⟩
    | dk l =>
      cases r1 with
      | dk h1 h2 => exact dicts _ _ _ rfl (hH.fz _ _ h1) h2 w
    | _ => exact other (fun _ z => nomatch z) (fun _ z => nomatch z) (fun _ z => nomatch z) w
  | [], w => exact w.elim
  | _ :: _ :: _, w => exact w.elim
theorem ty_V {O : OS} {F H : Hp} {v : V} {d : D} {t : String} (hH : Hold X.K W O F H) (r : Rep X.K F v d) (e : tyD O d = some t) : TyX X.K H v (.type t) := by
  cases d with
  | non =>
    cases e
    cases rep_non r
    exact .base .non
  | bl b =>
    cases e
    cases rep_bl r
    exact .base (.bl b)
  | int b =>
    cases e
    cases rep_int r
    exact .base (.int b)
  | str b =>
    cases e
    cases rep_str r
    exact .base (.str b)
  | tup l =>
    cases e
    obtain ⟨a, xs, rfl, h1, _⟩ := tup_at hH r
    rcases h1 with (h1 | ⟨o, h1⟩) | ⟨o, its, n, h1, h2, _⟩
    · exact .base (.tup h1)
    · exact .fTuple h1
    · exact .kTuple h1 h2
  | lst l =>
    cases e
    obtain ⟨a, xs, rfl, h1, _⟩ := asL_at (O := O) hH r rfl
    exact .base (.lst h1)
  | dk l =>
    cases e
    cases r with
    | dk h _ => exact .base (.dK (hH.fz _ _ h))
  | ref p =>
    cases r
    have e : (match O p with
      | some (.ml _) => some "list"
      | some (.md _) => some "dict"
      | some (.mt _) => some "dict"
      | _ => none) = some t := e
    cases q : O p with
    | none =>
      rw [q] at e
      cases e
    | some o =>
      rw [q] at e
      obtain ⟨_, r⟩ := hH.ob p _ q
      generalize hz : H p = z at r
      cases r with
      | ins r _ => cases e
      | ml r =>
        cases e
        exact .base (.lst hz)
      | md r =>
        cases e
        exact .base (.dK hz)
      | mt r _ =>
        cases e
        exact .base (.dT hz)
  | _ => cases e
theorem c_isi : CallR X (.builtin "isinstance") (lC X.K W rIsiD) := by
  intro pins s σ H xs us Q I rx q
  obtain ⟨F, O, ds, Q0, hH, r, w, k⟩ := q
  match ds, w with
  | [x, .ty n], w =>
    obtain ⟨v, v2, rfl, r1, r2⟩ := two_rep r
    cases r2
    have w : (match tyD O x with
      | some t => (kitB t n).isSome = true ∧ Q0 (.bl (isiB t n)) O
      | none => False) := w
    cases e : tyD O x with
    | none =>
      rw [e] at w
      exact w.elim
    | some t =>
      rw [e] at w
      obtain ⟨w1, w2⟩ := w
      obtain ⟨b, hb⟩ := Option.isSome_iff_exists.mp w1
      have eb : isiB t n = b := by
        unfold isiB
        rw [hb] <;> rfl
      rw [eb] at w2
      exact call_isi pins s σ H _ us Q I rx ⟨v, .ty n, .type t, .type n, b, rfl, .ty n, ty_V hH r1 e, kit_ty hb, k _ _ w2 _ F H (Step.refl hH) (.bl _)⟩
  | [], w => exact w.elim
  | [_], w => exact w.elim
  | [_, .non], w => exact w.elim
  | [_, .bl _], w => exact w.elim
  | [_, .int _], w => exact w.elim
  | [_, .str _], w => exact w.elim
  | [_, .tup _], w => exact w.elim
  | [_, .lst _], w => exact w.elim
  | [_, .scr _], w => exact w.elim
  | [_, .dk _], w => exact w.elim
  | [_, .ref _], w => exact w.elim
  | _ :: _ :: _ :: _, w => exact w.elim
theorem c_abs : CallR X (.builtin "abs") (lC X.K W rAbs) := by
  intro pins s σ H xs us Q I rx q
  obtain ⟨F, O, ds, Q0, hH, r, w, k⟩ := q
  unfold rAbs at w
  split at w
  · obtain ⟨v, rfl, r1⟩ := one_rep r
    cases rep_int r1
    exact call_abs pins s σ H _ us Q I rx ⟨_, rfl, k _ _ w _ F H (Step.refl hH) (.int _)⟩
  · exact w.elim
theorem c_int : CallR X (.type "int") (lC X.K W rInt1) := by
  intro pins s σ H xs us Q I rx q
  obtain ⟨F, O, ds, Q0, hH, r, w, k⟩ := q
  unfold rInt1 at w
  split at w
  · obtain ⟨v, rfl, r1⟩ := one_rep r
    cases rep_int r1
    exact call_int1 pins s σ H _ us Q I rx (.inl ⟨_, rfl, k _ _ w _ F H (Step.refl hH) (.int _)⟩)
  · obtain ⟨v, rfl, r1⟩ := one_rep r
    cases rep_bl r1
    exact call_int1 pins s σ H _ us Q I rx (.inr ⟨_, rfl, k _ _ w _ F H (Step.refl hH) (.int _)⟩)
  · exact w.elim
theorem c_max2 (hc : X.calm = true) : CallR X (.builtin "max") (lC X.K W rMax2) := by
  intro pins s σ H xs us Q I rx q
  obtain ⟨F, O, ds, Q0, hH, r, w, k⟩ := q
  unfold Sw.rMax2 at w
  split at w
  · obtain ⟨v, v2, rfl, r1, r2⟩ := two_rep r
    cases rep_int r1
    cases rep_int r2
    exact call_max2 hc pins s σ H _ us Q I rx ⟨_, _, rfl, k _ _ w _ F H (Step.refl hH) (.int _)⟩
  · exact w.elim
theorem c_min2 (hc : X.calm = true) : CallR X (.builtin "min") (lC X.K W rMin2) := by
  intro pins s σ H xs us Q I rx q
  obtain ⟨F, O, ds, Q0, hH, r, w, k⟩ := q
  unfold Sw.rMin2 at w
  split at w
  · obtain ⟨v, v2, rfl, r1, r2⟩ := two_rep r
    cases rep_int r1
    cases rep_int r2
    exact call_min2 hc pins s σ H _ us Q I rx ⟨_, _, rfl, k _ _ w _ F H (Step.refl hH) (.int _)⟩
  · exact w.elim
theorem ints_at {O : OS} {F H : Hp} {v : V} {d : D} {l : List D} {ns : List Int} (hH : Hold X.K W O F H) (r : Rep X.K F v d) (e : asL O d = some l) (e2 : intsD l = some ns) : ∃ a, v = .ref a ∧ H a = some (.lst (ns.map V.int)) := by
  obtain ⟨a, xs, h1, h2, h3⟩ := asL_at hH r e
  rw [intsD_eq e2] at h3
  rw [ints_V h3] at h2
  exact ⟨a, h1, h2⟩
theorem bls_at {O : OS} {F H : Hp} {v : V} {d : D} {l : List D} {ns : List Bool} (hH : Hold X.K W O F H) (r : Rep X.K F v d) (e : asL O d = some l) (e2 : blsD l = some ns) : ∃ a, v = .ref a ∧ H a = some (.lst (ns.map V.bl)) := by
  obtain ⟨a, xs, h1, h2, h3⟩ := asL_at hH r e
  rw [blsD_eq e2] at h3
  rw [bls_V h3] at h2
  exact ⟨a, h1, h2⟩
theorem c_sum (hc : X.calm = true) : CallR X (.builtin "sum") (lC X.K W rSumD) := by
  intro pins s σ H xs us Q I rx q
  obtain ⟨F, O, ds, Q0, hH, r, w, k⟩ := q
  unfold rSumD at w
  split at w
  · obtain ⟨v, rfl, r1⟩ := one_rep r
    obtain ⟨l, ns, e1, e2, w⟩ := w
    obtain ⟨a, rfl, h⟩ := ints_at hH r1 e1 e2
    exact cr_sum hc pins s σ H _ us Q I rx ⟨a, ns, rfl, SqL.of h, k _ _ w _ F H (Step.refl hH) (.int _)⟩
  · exact w.elim
theorem c_all (hc : X.calm = true) : CallR X (.builtin "all") (lC X.K W rAllD) := by
  intro pins s σ H xs us Q I rx q
  obtain ⟨F, O, ds, Q0, hH, r, w, k⟩ := q
  unfold rAllD at w
  split at w
  · obtain ⟨v, rfl, r1⟩ := one_rep r
    obtain ⟨l, ns, e1, e2, w⟩ := w
    obtain ⟨a, rfl, h⟩ := bls_at hH r1 e1 e2
    exact cr_all hc pins s σ H _ us Q I rx ⟨a, ns, rfl, SqL.of h, k _ _ w _ F H (Step.refl hH) (.bl _)⟩
  · exact w.elim
theorem c_any (hc : X.calm = true) : CallR X (.builtin "any") (lC X.K W rAnyD) := by
  intro pins s σ H xs us Q I rx q
  obtain ⟨F, O, ds, Q0, hH, r, w, k⟩ := q
  unfold rAnyD at w
  split at w
  · obtain ⟨v, rfl, r1⟩ := one_rep r
    obtain ⟨l, ns, e1, e2, w⟩ := w
    obtain ⟨a, rfl, h⟩ := bls_at hH r1 e1 e2
    exact cr_any hc pins s σ H _ us Q I rx ⟨a, ns, rfl, SqL.of h, k _ _ w _ F H (Step.refl hH) (.bl _)⟩
  · exact w.elim
theorem c_max (hc : X.calm = true) : CallR X (.builtin "max") (lC X.K W rMaxD) := by
  intro pins s σ H xs us Q I rx q
  obtain ⟨F, O, ds, Q0, hH, r, w, k⟩ := q
  unfold rMaxD at w
  split at w
  · obtain ⟨v, rfl, r1⟩ := one_rep r
    obtain ⟨l, ns, e1, e2, hp, w⟩ := w
    obtain ⟨a, rfl, h⟩ := ints_at hH r1 e1 e2
    exact cr_max hc pins s σ H _ us Q I rx ⟨a, ns, rfl, SqL.of h, hp, fun m h1 h2 => k _ _ (w m h1 h2) _ F H (Step.refl hH) (.int _)⟩
  · exact w.elim
theorem c_min (hc : X.calm = true) : CallR X (.builtin "min") (lC X.K W rMinD) := by
  intro pins s σ H xs us Q I rx q
  obtain ⟨F, O, ds, Q0, hH, r, w, k⟩ := q
  unfold rMinD at w
  split at w
  · obtain ⟨v, rfl, r1⟩ := one_rep r
    obtain ⟨l, ns, e1, e2, hp, w⟩ := w
    obtain ⟨a, rfl, h⟩ := ints_at hH r1 e1 e2
    exact cr_min hc pins s σ H _ us Q I rx ⟨a, ns, rfl, SqL.of h, hp, fun m h1 h2 => k _ _ (w m h1 h2) _ F H (Step.refl hH) (.int _)⟩
  · exact w.elim
/-- the items of what is one list or tuple -/
def asQ (O : OS) : D → Option (List D)
  | .tup l => some l
  | d => asR O d
theorem asQ_at {O : OS} {F H : Hp} {v : V} {d : D} {l : List D} (hH : Hold X.K W O F H) (r : Rep X.K F v d) (e : asQ O d = some l) : ∃ a xs, v = .ref a ∧ (SqL X.K H a xs ∨ SqT X.K H a xs) ∧ RepL X.K F xs l := by
  cases d with
  | tup l' =>
    cases e
    obtain ⟨a, xs, h1, h2, h3⟩ := tup_at hH r
    exact ⟨a, xs, h1, .inr h2, h3⟩
  | _ => exact let ⟨a, xs, h1, h2, h3⟩ := asR_at hH r e; ⟨a, xs, h1, .inl h2, h3⟩
theorem one_of {f : D → OS → QD → Prop} {ds : List D} {O : OS} {Q : QD} (w : rOne f ds O Q) : ∃ d, ds = [d] ∧ f d O Q := by
  match ds, w with
  | [d], w => exact ⟨d, rfl, w⟩
  | [], w => exact w.elim
  | _ :: _ :: _, w => exact w.elim
theorem seq_of {d : D} {O : OS} {P : List D → Prop} (w : match d with
  | .tup l => P l
  | d => (match asR O d with
    | some l => P l
    | none => False)) : ∃ l, asQ O d = some l ∧ P l := by
  have go : asQ O d = asR O d → (match asR O d with
    | some l => P l
    | none => False) → ∃ l, asQ O d = some l ∧ P l := fun e w => by
    rw [e]
    cases q : asR O d with
    | none =>
      rw [q] at w
      exact w.elim
    | some l =>
      rw [q] at w
      exact ⟨l, rfl, w⟩
  cases d with
  | tup l => exact ⟨l, rfl, w⟩
  | _ => exact go rfl w
theorem c_tuple : CallR X (.type "tuple") (lC X.K W rTupD) := by
  intro pins s σ H xs us Q I rx q
  obtain ⟨F, O, ds, Q0, hH, r, w, k⟩ := q
  obtain ⟨d, rfl, w⟩ := one_of w
  obtain ⟨v, rfl, r1⟩ := one_rep r
  obtain ⟨l, e, w⟩ := seq_of (P := fun l => Q0 (.tup l) O) w
  obtain ⟨a, xs, rfl, h1, h2⟩ := asQ_at hH r1 e
  rcases h1 with h1 | h1
  · refine call_tuple_of pins s σ H _ us Q I rx ⟨a, xs, rfl, .inl ⟨h1, fun p np => ?_⟩⟩
    have s2 := Step.newF (u := .tup xs) hH np
    exact k _ _ w _ _ _ s2 (.tup (SqT.of upd_same) (h2.mono s2.sub))
  · refine call_tuple_of pins s σ H _ us Q I rx ⟨a, xs, rfl, .inr ⟨h1, ?_⟩⟩
    cases d with
    | tup l' =>
      cases e
      exact k _ _ w _ F H (Step.refl hH) r1
    | _ =>
      obtain ⟨b, ys, e1, h3, h4⟩ := asR_at hH r1 e
      cases e1
      obtain ⟨its, _, ⟨o, ho, hc, _⟩, _⟩ := I.tuple h1
      obtain ⟨its2, _, ⟨o2, n2, ho2, hc2, _⟩, _⟩ := I.list h3
      rw [ho] at ho2
      cases ho2
      rw [hc] at hc2
      injection hc2 with hc3
      exact absurd hc3 (by decide)
theorem c_list : CallR X (.type "list") (lC X.K W Sw.rListD) := by
  intro pins s σ H xs us Q I rx q
  obtain ⟨F, O, ds, Q0, hH, r, w, k⟩ := q
  obtain ⟨d, rfl, w⟩ := one_of w
  obtain ⟨v, rfl, r1⟩ := one_rep r
  obtain ⟨l, e, w⟩ := seq_of (P := fun l => Q0 (.lst l) O) w
  obtain ⟨a, xs, rfl, h1, h2⟩ := asQ_at hH r1 e
  refine call_list_of pins s σ H _ us Q I rx ⟨a, xs, rfl, h1, fun p np => ?_⟩
  have s2 := Step.newF (u := .lst xs) hH np
  exact k _ _ w _ _ _ s2 (.lst upd_same (h2.mono s2.sub))
theorem c_listM : CallR X (.type "list") (lC X.K W rListM) := by
  intro pins s σ H xs us Q I rx q
  obtain ⟨F, O, ds, Q0, hH, r, w, k⟩ := q
  obtain ⟨d, rfl, w⟩ := one_of w
  obtain ⟨v, rfl, r1⟩ := one_rep r
  obtain ⟨l, e, w⟩ := seq_of (P := fun l => ∀ p, O p = none → Q0 (.ref p) (put O p (.ml l))) w
  obtain ⟨a, xs, rfl, h1, h2⟩ := asQ_at hH r1 e
  refine call_list_of pins s σ H _ us Q I rx ⟨a, xs, rfl, h1, fun p np => ?_⟩
  have s2 := Step.newO (o := .ml l) (u := .lst xs) hH np (.ml h2)
  exact k _ _ (w p (hH.freshO np)) _ _ _ s2 (.ref p)
end
end Sw

set_option maxRecDepth 100000
set_option maxHeartbeats 4000000
namespace Sw
open PySem PySem.Spec PyProof.Rows L2
/-! ### attributes -/
structure ClsF (K : PySem.W.Frag) (W : Wc) (c : Str) : Prop where
  cl : Cls K (W.cA c)
  nd : (W.lay c).Nodup
  na : ∀ f ∈ W.lay c, NoAttr K (W.cA c) f
  sz : (W.lay c).length < 900
theorem lookup_zip {v : V} {f : Str} : ∀ {ns : List Str} {vs : List V} {i : Nat}, ns.Nodup → ns[i]? = some f → vs[i]? = some v → (ns.zip vs).lookup f = some v
  | [], _, _, _, h, _ => by simp at h
  | _ :: _, [], _, _, _, h => by simp at h
  | n :: ns, w :: vs, 0, nd, h1, h2 => by
    have e1 : n = f := by simpa using h1
    have e2 : w = v := by simpa using h2
    subst e1 e2
    show List.lookup n ((n, w) :: ns.zip vs) = some w
    simp [List.lookup]
  | n :: ns, w :: vs, i + 1, nd, h1, h2 => by
    obtain ⟨h3, h4⟩ := List.nodup_cons.mp nd
    have h1 : ns[i]? = some f := by simpa using h1
    have h2 : vs[i]? = some v := by simpa using h2
    have ne : ¬ f = n := fun e => h3 (e ▸ List.mem_of_getElem? h1)
    show List.lookup f ((n, w) :: ns.zip vs) = some v
    simp only [List.lookup, beq_eq_false_iff_ne.mpr ne]
    exact lookup_zip h4 h1 h2
theorem lookup_zip_none {f : Str} : ∀ {ns : List Str} {vs : List V}, f ∉ ns → (ns.zip vs).lookup f = none
  | [], _, _ => rfl
  | _ :: _, [], _ => rfl
  | n :: ns, w :: vs, h => by
    have ne : ¬ f = n := fun e => h (e ▸ List.mem_cons_self ..)
    show List.lookup f ((n, w) :: ns.zip vs) = none
    simp only [List.lookup, beq_eq_false_iff_ne.mpr ne]
    exact lookup_zip_none fun m => h (List.mem_cons_of_mem _ m)
/-- the i-th attribute is stored: it was there, or it is the next one -/
def setF {α : Type} (ds : List α) (i : Nat) (y : α) : List α := if i < ds.length then ds.set i y else ds ++ [y]
theorem putF_zip {y : V} {f : Str} : ∀ {ns : List Str} {vs : List V} {i : Nat}, ns.Nodup → ns[i]? = some f → i ≤ vs.length → vs.length ≤ ns.length → putF f y ((ns.take vs.length).zip vs) = (ns.take (setF vs i y).length).zip (setF vs i y)
  | [], _, _, _, h, _, _ => by simp at h
  | n :: ns, [], i, nd, h1, h2, _ => by
    have e : i = 0 := Nat.le_zero.mp h2
    subst e
    have e1 : n = f := by simpa using h1
    subst e1
    simp [setF, putF]
  | n :: ns, w :: vs, 0, nd, h1, h2, h3 => by
    have e1 : n = f := by simpa using h1
    subst e1
    simp [setF, putF]
  | n :: ns, w :: vs, i + 1, nd, h1, h2, h3 => by
    obtain ⟨h4, h5⟩ := List.nodup_cons.mp nd
    have h1 : ns[i]? = some f := by simpa using h1
    have ne : ¬ n = f := fun e => h4 (e.symm ▸ List.mem_of_getElem? h1)
    have ih := putF_zip (y := y) (vs := vs) h5 h1 (by simpa using h2) (by simpa using h3)
    have e : setF (w :: vs) (i + 1) y = w :: setF vs i y := by
      unfold setF
      by_cases h : i < vs.length
      · rw [if_pos h, if_pos (by simpa using h)]
        rfl
      · rw [if_neg h, if_neg (by simpa using h)]
        rfl
    rw [e]
    simp only [List.length_cons, List.take_succ_cons, List.zip_cons_cons, putF, if_neg ne, ih]
theorem setF_length {α : Type} (ds : List α) (i : Nat) (y : α) : (setF ds i y).length = if i < ds.length then ds.length else ds.length + 1 := by
  unfold setF
  split <;> simp
theorem RepL.setF {K : PySem.W.Frag} {F : Hp} {vs : List V} {ds : List D} {i : Nat} {x : V} {y : D} (r : RepL K F vs ds) (h : Rep K F x y) : RepL K F (setF vs i x) (Sw.setF ds i y) := by
  unfold Sw.setF
  rw [r.length]
  split
  · exact r.set h i
  · exact r.snoc h
def wFld (c : Str) (i : Nat) (w : WE) : WE := fun η O Q => w η O fun x O1 => match x with
  | .ref a => (match O1 a with
    | some (.ins c' ds) => c' = c ∧ (match ds[i]? with
      | some d => Q d O1
      | none => False)
    | _ => False)
  | _ => False
section
variable {X : Cx} {W : Wd} {pos : Pos} {e : Expr} {f : Str} {c : Str} {i : Nat}
theorem ins_at {K : PySem.W.Frag} {O : OS} {F H : Hp} {a : Addr} {ds : List D} (hH : Hold K W O F H) (e : O a = some (.ins c ds)) : ∃ dx vs, H a = some (.ins (W.cA c) dx (((W.lay c).take vs.length).zip vs)) ∧ RepL K F vs ds ∧ vs.length ≤ (W.lay c).length := by
  obtain ⟨_, r⟩ := hH.ob a _ e
  generalize hz : H a = z at r
  cases r with
  | ins r l => exact ⟨_, _, rfl, r, l⟩
theorem take_get {α : Type} {l : List α} {i n : Nat} {x : α} (h : l[i]? = some x) (hi : i < n) : (l.take n)[i]? = some x := by
  rw [List.getElem?_take_of_lt hi]
  exact h
theorem fld_chase {K : PySem.W.Frag} {w : WE} {σ : L2.St} {H : Hp} {Q : VK} (cf : ClsF K W.toWc c) (hf : (W.lay c)[i]? = some f) (q : lE K W (wFld c i w) σ H Q) : tFld K (lE K W w) f σ H Q := by
  obtain ⟨F, O, η, Q0, hH, hη, hw, hQ⟩ := q
  refine ⟨F, O, η, _, hH, hη, hw, fun x O1 h1 v1 F1 H1 s1 r1 => ?_⟩
  cases x <;> first | exact h1.elim | skip
  rename_i a
  cases r1
  have h1 : (match O1 a with
    | some (.ins c' ds) => c' = c ∧ (match ds[i]? with
      | some d => Q0 d O1
      | none => False)
    | _ => False) := h1
  cases e : O1 a with
  | none =>
    rw [e] at h1
    exact h1.elim
  | some o =>
    rw [e] at h1
    cases o <;> first | exact h1.elim | skip
    rename_i c' ds
    obtain ⟨rfl, h2⟩ := h1
    cases e2 : ds[i]? with
    | none =>
      rw [e2] at h2
      exact h2.elim
    | some d =>
      rw [e2] at h2
      obtain ⟨dx, vs, h3, h4, h5⟩ := ins_at s1.hold e
      obtain ⟨v, h6, h7⟩ := h4.get e2
      have hi := (List.getElem?_eq_some_iff.mp h6).1
      refine ⟨a, _, dx, _, v, rfl, h3, cf.cl, cf.na f (List.mem_of_getElem? hf), ?_, hQ _ _ h2 v F1 H1 s1 h7⟩
      exact lookup_zip (List.Sublist.nodup (List.take_sublist _ _) cf.nd) (take_get hf hi) h6
theorem x_fld (cf : ClsF X.K W.toWc c) {w : WE} (h : Pe X W e w) (hf : (W.lay c)[i]? = some f) (hb : attributeBase e f X.env (eval e X.env) = eval e X.env := by rfl) : Pe X W (.Attribute e f pos) (wFld c i w) := PE.imp (pe_fld h hb) fun _ _ _ q => fld_chase cf hf q
end
/-! ### statements -/
def sNil : WS := fun f η O => f.nx η O
def sSeq (a b : WS) : WS := fun f η O => a { f with nx := b f } η O
def sExpr (w : WE) : WS := fun f η O => w η O fun _ O1 => f.nx η O1
def sRet (w : WE) : WS := fun f η O => w η O f.rt
/-- a list that is changed no more is handed back -/
def sRetF (w : WE) : WS := fun f η O => w η O fun d O1 => match d with
  | .ref p => (match O1 p with
    | some (.ml l) => f.rt (.lst l) (cut O1 p)
    | _ => False)
  | _ => False
def sRetN : WS := fun f _ O => f.rt .non O
def sIf (t : WT) (a b : WS) : WS := fun f η O => t η O fun c O1 => match c with
  | true => a f η O1
  | false => b f η O1
def sBreak : WS := fun f η O => f.bk η O
def sCont : WS := fun f η O => f.ct η O
def sNever : WS := fun _ _ _ => False
def sFld (c : Str) (i : Nat) (wo wv : WE) : WS := fun f η O => wv η O fun y O1 => wo η O1 fun x O2 => match x with
  | .ref a => (match O2 a with
    | some (.ins c' ds) => c' = c ∧ i ≤ ds.length ∧ f.nx η (put O2 a (.ins c (setF ds i y)))
    | _ => False)
  | _ => False
def sFldAug (c : Str) (i : Nat) (rd : R2D) (wo wv : WE) : WS := fun f η O => wo η O fun x O1 => match x with
  | .ref a => (match O1 a with
    | some (.ins c' ds) => c' = c ∧ (match ds[i]? with
      | some d => wv η O1 fun y O2 => rd d y O2 fun z O3 => (match O3 a with
        | some (.ins c'' ds') => c'' = c ∧ i ≤ ds'.length ∧ f.nx η (put O3 a (.ins c (setF ds' i z)))
        | _ => False)
      | none => False)
    | _ => False)
  | _ => False
/-- name = e -/
def sSet (i : Nat) (w : WE) : WS := fun f η O => w η O fun d O1 => f.nx (η.set i (some d)) O1
def sAug (i : Nat) (rd : R2D) (w : WE) : WS := fun f η O => match η[i]? with
  | some (some x) => w η O fun y O1 => rd x y O1 fun z O2 => f.nx (η.set i (some z)) O2
  | _ => False
section
variable {X : Cx} {W : Wd} {pos pos' : Pos} {st : Stmt} {rest : List Stmt} {e : Expr}
theorem s_nil : Pss X W [] sNil := PSs.imp pss_nil fun E σ H q => by
  obtain ⟨F, O, η, f, hH, hη, hw, g⟩ := q
  exact g.nx _ _ hw σ F H (Step.refl hH) hη
/-- behind a step of the way -/
theorem lS_of {K : PySem.W.Frag} {w : WS} {E : Ends} {f : Fin} {O O' : OS} {F F' H H' : Hp} {η : Sl} (g : GoF K W O F H E f) (s : Step K W O F H O' F' H') (q : w f η O') {σ : L2.St} (r : EnvR K F' σ η) : lS K W w E σ H' := ⟨F', O', η, f, s.hold, r, q, g.mono s⟩
theorem s_cons {a b : WS} (ha : Ps X W st a) (hb : Pss X W rest b) : Pss X W (st :: rest) (sSeq a b) := PSs.imp (pss_cons ha hb) fun E σ H q => by
  obtain ⟨F, O, η, f, hH, hη, hw, g⟩ := q
  exact ⟨F, O, η, _, hH, hη, hw, ⟨fun η' O' h σ' F' H' s r => lS_of g s h r, g.rt, g.bk, g.ct⟩⟩
theorem s_one {a : WS} (ha : Ps X W st a) : Pss X W [st] a := pss_one ha
theorem s_expr {w : WE} (h : Pe X W e w) (hs : swapsWith e none pos.line X.env = pure false := by rfl) : Ps X W (.Expr e pos) (sExpr w) := PS.imp (ps_expr h hs) fun E σ H q => by
  obtain ⟨F, O, η, f, hH, hη, hw, g⟩ := q
  exact ⟨F, O, η, _, hH, hη, hw, fun d O1 h1 v F1 H1 s1 r1 => g.nx _ _ h1 σ F1 H1 s1 (hη.mono s1.sub)⟩
theorem s_ret {w : WE} (h : Pe X W e w) : Ps X W (.Return (some e) pos) (sRet w) := PS.imp (ps_ret h) fun E σ H q => by
  obtain ⟨F, O, η, f, hH, hη, hw, g⟩ := q
  exact ⟨F, O, η, _, hH, hη, hw, fun d O1 h1 => g.rt _ _ h1⟩
theorem s_retF {w : WE} (h : Pe X W e w) : Ps X W (.Return (some e) pos) (sRetF w) := PS.imp (ps_ret h) fun E σ H q => by
  obtain ⟨F, O, η, f, hH, hη, hw, g⟩ := q
  refine ⟨F, O, η, _, hH, hη, hw, fun d O1 h1 v F1 H1 s1 r1 => ?_⟩
  cases d <;> first | exact h1.elim | skip
  rename_i p
  cases r1
  have h1 : (match O1 p with
    | some (.ml l) => f.rt (.lst l) (cut O1 p)
    | _ => False) := h1
  cases e : O1 p with
  | none =>
    rw [e] at h1
    exact h1.elim
  | some o =>
    rw [e] at h1
    cases o <;> first | exact h1.elim | skip
    obtain ⟨F2, s2, r2⟩ := Step.freeze s1.hold e
    exact g.rt _ _ h1 _ _ _ (s1.trans s2) r2
theorem s_retN : Ps X W (.Return none pos) sRetN := PS.imp ps_retN fun E σ H q => by
  obtain ⟨F, O, η, f, hH, hη, hw, g⟩ := q
  exact g.rt _ _ hw _ F H (Step.refl hH) .non
theorem s_if {c : Expr} {a b : List Stmt} {t : WT} {u w : WS} (hc : Pt X W c t) (ha : Pss X W a u) (hb : Pss X W b w) : Ps X W (.If c a b pos) (sIf t u w) := PS.imp (ps_if hc ha hb) fun E σ H q => by
  obtain ⟨F, O, η, f, hH, hη, hw, g⟩ := q
  refine ⟨F, O, η, _, hH, hη, hw, fun c O1 h1 F1 H1 s1 => ?_⟩
  cases c with
  | true => exact iteT (lS_of g s1 h1 (hη.mono s1.sub))
  | false => exact iteF (lS_of g s1 h1 (hη.mono s1.sub))
theorem s_pass : Ps X W (.Pass pos) sNil := PS.imp ps_pass fun E σ H q => by
  obtain ⟨F, O, η, f, hH, hη, hw, g⟩ := q
  exact g.nx _ _ hw σ F H (Step.refl hH) hη
theorem s_break : Ps X W (.Break pos) sBreak := PS.imp ps_break fun E σ H q => by
  obtain ⟨F, O, η, f, hH, hη, hw, g⟩ := q
  exact g.bk _ _ hw σ F H (Step.refl hH) hη
theorem s_cont : Ps X W (.Continue pos) sCont := PS.imp ps_continue fun E σ H q => by
  obtain ⟨F, O, η, f, hH, hη, hw, g⟩ := q
  exact g.ct _ _ hw σ F H (Step.refl hH) hη
theorem s_set {i : Nat} {x : Str} {w : WE} (hN : X.N.Nodup) (h : Pe X W e w) (hi : X.N[i]? = some x := by rfl) (hx : Loc X.env.scope x := by first | exact Or.inl rfl | exact Or.inr rfl) (hs : swapsWith e (some (.Name x pos')) pos.line X.env = pure false := by rfl)
    (hf : X.fn x = true ∨ X.env.scope.names.lookup x = some .local := by first | exact .inl rfl | exact .inr rfl | assumption) : Ps X W (.Assign [.Name x pos'] e pos) (sSet i w) := PS.imp (ps_set hN hi hx h hs hf) fun E σ H q => by
  obtain ⟨F, O, η, f, hH, hη, hw, g⟩ := q
  exact ⟨F, O, η, _, hH, hη, hw, fun d O1 h1 v F1 H1 s1 r1 => g.nx _ _ h1 _ F1 H1 s1 ((hη.mono s1.sub).set r1)⟩
theorem s_aug {i : Nat} {x : Str} {op : Operator} {rd : R2D} {w : WE} (hN : X.N.Nodup) (ho : OpD X W (inplaceOp op) rd) (h : Pe X W e w) (hi : X.N[i]? = some x := by rfl) (hx : Loc X.env.scope x := by first | exact Or.inl rfl | exact Or.inr rfl)
    (hf : X.fn x = true ∨ X.env.scope.names.lookup x = some .local := by first | exact .inl rfl | exact .inr rfl | assumption) : Ps X W (.AugAssign (.Name x pos') op e pos) (sAug i rd w) :=
  PS.imp (ps_aug (ti := lR X.K W rd) hN hi hx h (fun pins s σ H x y v u Q I r1 r2 q => ho pins s σ H x y v u Q I r1 r2 q) hf) fun E σ H q => by
  obtain ⟨F, O, η, f, hH, hη, hw, g⟩ := q
  unfold sAug at hw
  cases e1 : η[i]? with
  | none =>
    rw [e1] at hw
    exact hw.elim
  | some o =>
    rw [e1] at hw
    cases o with
    | none => exact hw.elim
    | some d =>
      obtain ⟨v, h1, h2⟩ := hη.2 i d e1
      refine ⟨v, h1, F, O, η, _, hH, hη, hw, fun y O1 h3 v1 F1 H1 s1 r1 => ?_⟩
      refine ⟨F1, O1, d, y, _, s1.hold, h2.mono s1.sub, r1, h3, fun z O2 h4 v2 F2 H2 s2 r2 => ?_⟩
      exact g.nx _ _ h4 _ F2 H2 (s1.trans s2) ((hη.mono (s1.trans s2).sub).set r2)
variable {o value : Expr} {f : Str} {c : Str} {i : Nat}
theorem fld_store {K : PySem.W.Frag} {O : OS} {F H : Hp} {a : Addr} {ds : List D} {y : D} {v : V} (cf : ClsF K W.toWc c) (hf : (W.lay c)[i]? = some f) (hH : Hold K W O F H) (e : O a = some (.ins c ds)) (hi : i ≤ ds.length) (r : Rep K F v y) :
    ∃ dx fs, H a = some (.ins (W.cA c) dx fs) ∧ fs.length < 1000 ∧ Step K W O F H (put O a (.ins c (setF ds i y))) F (upd H a (.ins (W.cA c) dx (putF f v fs))) := by
  obtain ⟨dx, vs, h3, h4, h5⟩ := ins_at hH e
  have hl := h4.length
  refine ⟨dx, _, h3, ?_, ?_⟩
  · have := cf.sz
    rw [List.length_zip, List.length_take]
    omega
  · rw [putF_zip cf.nd hf (by omega) h5]
    have hif := (List.getElem?_eq_some_iff.mp hf).1
    exact Step.set hH e (.ins (h4.setF r) (by rw [setF_length]; split <;> omega))
theorem s_fld (cf : ClsF X.K W.toWc c) {wo wv : WE} (ho : Pe X W o wo) (hv : Pe X W value wv) (hf : (W.lay c)[i]? = some f) (hs : swapsWith value (some (.Attribute o f pos')) pos.line X.env = pure false := by rfl) : Ps X W (.Assign [.Attribute o f pos'] value pos) (sFld c i wo wv) := PS.imp (ps_fld ho hv hs) fun E σ H q => by
  obtain ⟨F, O, η, fi, hH, hη, hw, g⟩ := q
  refine ⟨F, O, η, _, hH, hη, hw, fun y O1 h1 v1 F1 H1 s1 r1 => ?_⟩
  refine ⟨F1, O1, η, _, s1.hold, hη.mono s1.sub, h1, fun x O2 h2 v2 F2 H2 s2 r2 => ?_⟩
  cases x <;> first | exact h2.elim | skip
  rename_i a
  cases r2
  have h2 : (match O2 a with
    | some (.ins c' ds) => c' = c ∧ i ≤ ds.length ∧ fi.nx η (put O2 a (.ins c (setF ds i y)))
    | _ => False) := h2
  cases e : O2 a with
  | none =>
    rw [e] at h2
    exact h2.elim
  | some ob =>
    rw [e] at h2
    cases ob <;> first | exact h2.elim | skip
    rename_i c' ds
    obtain ⟨rfl, h3, h4⟩ := h2
    obtain ⟨dx, fs, h5, h6, s3⟩ := fld_store cf hf s2.hold e h3 (r1.mono s2.sub)
    exact ⟨a, _, dx, fs, rfl, h5, cf.cl, cf.na f (List.mem_of_getElem? hf), h6, g.nx _ _ h4 σ _ _ ((s1.trans s2).trans s3) (hη.mono ((s1.trans s2).trans s3).sub)⟩
theorem s_fldaug (cf : ClsF X.K W.toWc c) {op : Operator} {rd : R2D} (hop : OpD X W (inplaceOp op) rd) {wo wv : WE} (ho : Pe X W o wo) (hv : Pe X W value wv) (hf : (W.lay c)[i]? = some f) : Ps X W (.AugAssign (.Attribute o f pos') op value pos) (sFldAug c i rd wo wv) :=
  PS.imp (ps_fldaug (rd := lR X.K W rd) ho hv hop) fun E σ H q => by
  obtain ⟨F, O, η, fi, hH, hη, hw, g⟩ := q
  refine ⟨F, O, η, _, hH, hη, hw, fun x O1 h1 v1 F1 H1 s1 r1 => ?_⟩
  cases x <;> first | exact h1.elim | skip
  rename_i a
  cases r1
  have h1 : (match O1 a with
    | some (.ins c' ds) => c' = c ∧ (match ds[i]? with
      | some d => wv η O1 fun y O2 => rd d y O2 fun z O3 => (match O3 a with
        | some (.ins c'' ds') => c'' = c ∧ i ≤ ds'.length ∧ fi.nx η (put O3 a (.ins c (setF ds' i z)))
        | _ => False)
      | none => False)
    | _ => False) := h1
  cases e : O1 a with
  | none =>
    rw [e] at h1
    exact h1.elim
  | some ob =>
    rw [e] at h1
    cases ob <;> first | exact h1.elim | skip
    rename_i c' ds
    obtain ⟨rfl, h2⟩ := h1
    cases e2 : ds[i]? with
    | none =>
      rw [e2] at h2
      exact h2.elim
    | some d =>
      rw [e2] at h2
      obtain ⟨dx, vs, h3, h4, h5⟩ := ins_at s1.hold e
      obtain ⟨v, h6, h7⟩ := h4.get e2
      have hi := (List.getElem?_eq_some_iff.mp h6).1
      refine ⟨a, _, dx, _, v, rfl, h3, cf.cl, cf.na f (List.mem_of_getElem? hf), lookup_zip (List.Sublist.nodup (List.take_sublist _ _) cf.nd) (take_get hf hi) h6, ?_⟩
      refine ⟨F1, O1, η, _, s1.hold, hη.mono s1.sub, h2, fun y O2 h8 v2 F2 H2 s2 r2 => ?_⟩
      refine ⟨F2, O2, d, y, _, s2.hold, h7.mono s2.sub, r2, h8, fun z O3 h9 v3 F3 H3 s3 r3 => ?_⟩
      have h9 : (match O3 a with
        | some (.ins c'' ds') => c'' = c' ∧ i ≤ ds'.length ∧ fi.nx η (put O3 a (.ins c' (setF ds' i z)))
        | _ => False) := h9
      cases e3 : O3 a with
      | none =>
        rw [e3] at h9
        exact h9.elim
      | some ob =>
        rw [e3] at h9
        cases ob <;> first | exact h9.elim | skip
        rename_i c'' ds'
        obtain ⟨rfl, h10, h11⟩ := h9
        obtain ⟨dx', fs', h12, h13, s4⟩ := fld_store cf hf s3.hold e3 h10 r3
        have sall := ((s1.trans s2).trans s3).trans s4
        exact ⟨dx', fs', h12, h13, g.nx _ _ h11 σ _ _ sall (hη.mono sall.sub)⟩
end
end Sw

set_option maxRecDepth 100000
set_option maxHeartbeats 4000000
namespace Sw
open PySem PySem.Spec PyProof.Rows L2
/-! ### targets -/
abbrev WG := D → Sl → OS → (Sl → OS → Prop) → Prop
abbrev WGs := List D → Sl → OS → (Sl → OS → Prop) → Prop
def lG (K : PySem.W.Frag) (W : Wd) (g : WG) : TG := fun v σ H Q => ∃ F O η d Q0, Hold K W O F H ∧ EnvR K F σ η ∧ Rep K F v d ∧ g d η O Q0 ∧ ∀ η' O', Q0 η' O' → GoS K W O F H Q η' O'
def lGs (K : PySem.W.Frag) (W : Wd) (g : WGs) : TGs := fun vs σ H Q => ∃ F O η ds Q0, Hold K W O F H ∧ EnvR K F σ η ∧ RepL K F vs ds ∧ g ds η O Q0 ∧ ∀ η' O', Q0 η' O' → GoS K W O F H Q η' O'
abbrev Pg (X : Cx) (W : Wd) (e : Expr) (g : WG) : Prop := PG X e (lG X.K W g)
abbrev Pgs (X : Cx) (W : Wd) (es : List Expr) (g : WGs) : Prop := PGs X es (lGs X.K W g)
def gN (i : Nat) : WG := fun d η O Q => Q (η.set i (some d)) O
def gZ : WGs := fun ds η O Q => match ds with
  | [] => Q η O
  | _ :: _ => False
def gC (g : WG) (r : WGs) : WGs := fun ds η O Q => match ds with
  | [] => False
  | d :: ds => g d η O fun η1 O1 => r ds η1 O1 Q
def gT (n : Nat) (g : WGs) : WG := fun d η O Q => match d with
  | .tup l => l.length = n ∧ g l η O Q
  | _ => False
/-- a list of that length is taken apart -/
def gL (n : Nat) (g : WGs) : WG := fun d η O Q => match asL O d with
  | some l => l.length = n ∧ g l η O Q
  | none => False
section
variable {X : Cx} {W : Wd} {pos : Pos}
theorem PG.imp {e : Expr} {t t' : TG} (h : PG X e t) (i : ∀ v σ H Q, t' v σ H Q → t v σ H Q) : PG X e t' := ⟨fun pins s σ H v u Q I r q => h.run pins s σ H v u Q I r (i v σ H Q q)⟩
theorem PGs.imp {e : List Expr} {t t' : TGs} (h : PGs X e t) (i : ∀ v σ H Q, t' v σ H Q → t v σ H Q) : PGs X e t' := ⟨fun pins s σ H v u Q I r q => h.run pins s σ H v u Q I r (i v σ H Q q)⟩
theorem g_n (i : Nat) {x : Str} (hN : X.N.Nodup) (hi : X.N[i]? = some x := by rfl) (hx : Loc X.env.scope x := by first | exact Or.inl rfl | exact Or.inr rfl) (hf : X.fn x = true ∨ X.env.scope.names.lookup x = some .local := by first | exact .inl rfl | exact .inr rfl | assumption) :
    Pg X W (.Name x pos) (gN i) := PG.imp (pg_name hN hi hx hf) fun v σ H Q q => by
  obtain ⟨F, O, η, d, Q0, hH, hη, r, w, k⟩ := q
  exact k _ _ w _ F H (Step.refl hH) (hη.set r)
theorem g_z : Pgs X W [] gZ := PGs.imp pgs_nil fun vs σ H Q q => by
  obtain ⟨F, O, η, ds, Q0, hH, hη, r, w, k⟩ := q
  cases r with
  | nil => exact ⟨rfl, k _ _ w _ F H (Step.refl hH) hη⟩
  | cons _ _ => exact w.elim
theorem g_c {e : Expr} {es : List Expr} {g : WG} {r : WGs} (h1 : Pg X W e g) (h2 : Pgs X W es r) (hs : (assignEach (e :: es) X.env).map (·.2) = assign e X.env :: (assignEach es X.env).map (·.2) := by rfl) : Pgs X W (e :: es) (gC g r) :=
  PGs.imp (pgs_cons h1 h2 hs) fun vs σ H Q q => by
  obtain ⟨F, O, η, ds, Q0, hH, hη, rr, w, k⟩ := q
  cases rr with
  | nil => exact w.elim
  | cons r1 r2 =>
    refine ⟨_, _, rfl, F, O, η, _, _, hH, hη, r1, w, fun η1 O1 h1 σ1 F1 H1 s1 e1 => ?_⟩
    exact ⟨F1, O1, η1, _, _, s1.hold, e1, r2.mono s1.sub, h1, fun η2 O2 h2 => (k _ _ h2).mono s1⟩
theorem g_t {es : List Expr} {k n : Nat} {g : WGs} (hc : X.calm = true) (h : Pgs X W es g) (hn : (assignEach es X.env).length = n := by rfl) (hst : (assignEach es X.env).findIdx? (·.1) = none := by rfl) : Pg X W (.Tuple es k pos) (gT n g) :=
  PG.imp (pg_tup hc h hn hst) fun v σ H Q q => by
  obtain ⟨F, O, η, d, Q0, hH, hη, r, w, k⟩ := q
  cases d <;> first | exact w.elim | skip
  obtain ⟨w1, w2⟩ := w
  obtain ⟨a, xs, rfl, h1, h2⟩ := tup_at hH r
  exact ⟨a, xs, rfl, h1, h2.length.trans w1, F, O, η, _, _, hH, hη, h2, w2, k⟩
theorem g_l {es : List Expr} {k n : Nat} {g : WGs} (hc : X.calm = true) (h : Pgs X W es g) (hn : (assignEach es X.env).length = n := by rfl) (hst : (assignEach es X.env).findIdx? (·.1) = none := by rfl) : Pg X W (.Tuple es k pos) (gL n g) :=
  PG.imp (pg_lst hc h hn hst) fun v σ H Q q => by
  obtain ⟨F, O, η, d, Q0, hH, hη, r, w, k⟩ := q
  unfold gL at w
  cases e : asL O d with
  | none =>
    rw [e] at w
    exact w.elim
  | some l =>
    rw [e] at w
    obtain ⟨w1, w2⟩ := w
    obtain ⟨a, xs, rfl, h1, h2⟩ := asL_at hH r e
    exact ⟨a, xs, rfl, SqL.of h1, h2.length.trans w1, F, O, η, _, _, hH, hη, h2, w2, k⟩
/-- target = e, the target of any form -/
def sAsg (g : WG) (w : WE) : WS := fun f η O => w η O fun d O1 => g d η O1 f.nx
theorem s_asg {tg e : Expr} {w : WE} {g : WG} (he : Pe X W e w) (hg : Pg X W tg g) (hs : swapsWithSole [tg] e pos.line X.env = pure false := by rfl) (hw : swappedStores [tg] e X.env = pure none := by rfl)
    (h1 : (assignEach [tg] X.env).map (·.2) = [assign tg X.env] := by rfl) : Ps X W (.Assign [tg] e pos) (sAsg g w) := PS.imp (ps_asg he hg hs hw h1) fun E σ H q => by
  obtain ⟨F, O, η, f, hH, hη, hw, g⟩ := q
  refine ⟨F, O, η, _, hH, hη, hw, fun d O1 h1 v F1 H1 s1 r1 => ?_⟩
  exact ⟨F1, O1, η, d, _, s1.hold, hη.mono s1.sub, r1, h1, fun η2 O2 h2 => (g.nx _ _ h2).mono s1⟩
/-- o[i] = e, o a list that may change -/
def gIx (wo wi : WE) : WG := fun d η O Q => wo η O fun o O1 => wi η O1 fun i O2 => match o, i with
  | .ref p, .int k => (match O2 p with
    | some (.ml l) => (match ixN l.length k with
      | some j => Q η (put O2 p (.ml (l.set j d)))
      | none => False)
    | _ => False)
  | _, _ => False
theorem g_ix {o i : Expr} {wo wi : WE} (ho : Pe X W o wo) (hi : Pe X W i wi) (ha : ∀ v, assign (.Subscript o i pos) X.env v = (do
      let ov ← holding [v] (eval o X.env)
      let iv ← holding [v, ov] (eval i X.env)
      standAt pos
      holding [v, ov, iv] (setItem ov iv v)
      release [v, ov, iv] []) := by intro _; rfl) : Pg X W (.Subscript o i pos) (gIx wo wi) := PG.imp (pg_sub ho hi set_list ha) fun v σ H Q q => by
  obtain ⟨F, O, η, d, Q0, hH, hη, r, w, k⟩ := q
  refine ⟨F, O, η, _, hH, hη, w, fun x O1 h1 v1 F1 H1 s1 r1 => ?_⟩
  refine ⟨F1, O1, η, _, s1.hold, hη.mono s1.sub, h1, fun y O2 h2 v2 F2 H2 s2 r2 => ?_⟩
  cases x <;> first | exact h2.elim | skip
  cases y <;> first | exact h2.elim | skip
  rename_i p i
  cases rep_int r2
  cases r1
  have h2 : (match O2 p with
    | some (.ml l) => (match ixN l.length i with
      | some j => Q0 η (put O2 p (.ml (l.set j d)))
      | none => False)
    | _ => False) := h2
  cases e : O2 p with
  | none =>
    rw [e] at h2
    exact h2.elim
  | some ob =>
    rw [e] at h2
    cases ob <;> first | exact h2.elim | skip
    rename_i l
    have h2 : (match ixN l.length i with
      | some j => Q0 η (put O2 p (.ml (l.set j d)))
      | none => False) := h2
    cases e2 : ixN l.length i with
    | none =>
      rw [e2] at h2
      exact h2.elim
    | some j =>
      rw [e2] at h2
      obtain ⟨xs, h3, h4⟩ := ml_at s2.hold e
      refine ⟨p, xs, i, j, rfl, rfl, h3, by rw [h4.length]; exact e2, ?_⟩
      have s3 := Step.set (o' := .ml (l.set j d)) (u := .lst (xs.set j v)) s2.hold e (.ml (h4.set (r.mono (s1.trans s2).sub) j))
      exact k _ _ h2 _ _ _ ((s1.trans s2).trans s3) (hη.mono ((s1.trans s2).trans s3).sub)
end
/-! ### what is walked -/
/-- the items; what must stand while they are walked -/
abbrev WI := Sl → OS → (List D → (OS → Prop) → OS → Prop) → Prop
def ItR (K : PySem.W.Frag) (W : Wd) (J : It) (F : Hp) (items : List D) (st : OS → Prop) : Prop := ∀ (i : Nat) (O : OS) (F' H : Hp), Sub F F' → Hold K W O F' H → st O →
  (∀ d, items[i]? = some d → J.go i H ∧ ∀ x H', J.yld i H x H' → ∃ F'', Step K W O F' H O F'' H' ∧ Rep K F'' x d) ∧ (items.length ≤ i → J.stop i H)
def lI (K : PySem.W.Frag) (W : Wd) (w : WI) : TI := fun σ H R => ∃ F O η Q0, Hold K W O F H ∧ EnvR K F σ η ∧ w η O Q0 ∧ ∀ items st O', Q0 items st O' → ∀ F' H' J, Step K W O F H O' F' H' → ItR K W J F' items st → R J H'
abbrev Pi (X : Cx) (W : Wd) (tg e : Expr) (w : WI) : Prop := PI X tg e (lI X.K W w)
theorem PI.imp {X : Cx} {tg e : Expr} {t t' : TI} (h : PI X tg e t) (i : ∀ σ H R, t' σ H R → t σ H R) : PI X tg e t' := ⟨fun pins s σ H R I q => h.run pins s σ H R I (i σ H R q)⟩
def anySt : OS → Prop := fun _ => True
def wiL (w : WE) : WI := fun η O Q => w η O fun d O1 => match d with
  | .tup l => Q l anySt O1
  | .ref p => (match O1 p with
    | some (.ml l) => Q l (fun O' => O' p = some (.ml l)) O1
    | _ => False)
  | d => (match asR O1 d with
    | some l => Q l anySt O1
    | none => False)
theorem itR_list {K : PySem.W.Frag} {W : Wd} {F : Hp} {a : Addr} {l : List D} {st : OS → Prop} (h : ∀ O F' H, Sub F F' → Hold K W O F' H → st O → ∃ xs, SqL K H a xs ∧ RepL K F' xs l) : ItR K W (Itl K a) F l st := fun i O F' H s hH hs => by
  obtain ⟨xs, h1, h2⟩ := h O F' H s hH hs
  refine ⟨fun d e => ?_, fun hi => ⟨xs, h1, by rw [h2.length]; exact hi⟩⟩
  obtain ⟨x, h3, h4⟩ := h2.get e
  refine ⟨⟨xs, x, h1, h3⟩, fun x' H' y => ?_⟩
  obtain ⟨rfl, y⟩ := y
  have e2 := y xs h1
  rw [h3] at e2
  cases e2
  exact ⟨F', Step.refl hH, h4⟩
theorem itR_tup {K : PySem.W.Frag} {W : Wd} {F : Hp} {a : Addr} {l : List D} {xs : List V} {st : OS → Prop} (h1 : SqT K F a xs) (h2 : RepL K F xs l) : ItR K W (Itt K a) F l st := fun i O F' H s hH hs => by
  have h1 := hH.fz.sqT (s.sqT h1)
  refine ⟨fun d e => ?_, fun hi => ⟨xs, h1, by rw [h2.length]; exact hi⟩⟩
  obtain ⟨x, h3, h4⟩ := h2.get e
  refine ⟨⟨xs, x, h1, h3⟩, fun x' H' y => ?_⟩
  obtain ⟨rfl, y⟩ := y
  have e2 := y xs h1
  rw [h3] at e2
  cases e2
  exact ⟨F', Step.refl hH, h4.mono s⟩
section
variable {X : Cx} {W : Wd} {tg e : Expr} {pos p : Pos}
/-- a list (of any kind) that the reading knows to be a list -/
def wiLst (w : WE) : WI := fun η O Q => w η O fun d O1 => match d with
  | .ref p => (match O1 p with
    | some (.ml l) => Q l (fun O' => O' p = some (.ml l)) O1
    | _ => False)
  | d => (match asR O1 d with
    | some l => Q l anySt O1
    | none => False)
def wiTup (w : WE) : WI := fun η O Q => w η O fun d O1 => match d with
  | .tup l => Q l anySt O1
  | _ => False
theorem rep_fz {K : PySem.W.Frag} {W : Wd} {O : OS} {F H : Hp} {v : V} {d : D} {l : List D} (hH : Hold K W O F H) (r : Rep K F v d) (hn : ∀ p, d ≠ .ref p) (e : asR O d = some l) : ∃ a xs, v = .ref a ∧ SqL K F a xs ∧ RepL K F xs l := by
  cases r with
  | lst h r =>
    cases e
    exact ⟨_, _, rfl, SqL.of h, r⟩
  | scr h r =>
    cases e
    exact ⟨_, _, rfl, h, r⟩
  | ref p => exact absurd rfl (hn p)
  | _ => cases e
theorem i_lst {w : WE} (h : Pe X W e w) : Pi X W tg e (wiLst w) := PI.imp (pi_list h) fun σ H R q => by
  obtain ⟨F, O, η, Q0, hH, hη, hw, hQ⟩ := q
  refine ⟨F, O, η, _, hH, hη, hw, fun d O1 h1 v F1 H1 s1 r1 => ?_⟩
  have val : (∀ p, d ≠ .ref p) → (match asR O1 d with
      | some l => Q0 l anySt O1
      | none => False) → ∃ a, v = .ref a ∧ (∃ xs, SqL X.K H1 a xs) ∧ R (Itl X.K a) H1 := fun hn w => by
    cases e : asR O1 d with
    | none =>
      rw [e] at w
      exact w.elim
    | some l =>
      rw [e] at w
      obtain ⟨a, xs, rfl, h2, h3⟩ := rep_fz s1.hold r1 hn e
      exact ⟨a, rfl, ⟨xs, s1.hold.fz.sqL h2⟩, hQ _ _ _ w _ _ _ s1 (itR_list fun O' F' H' s hH' _ => ⟨xs, hH'.fz.sqL (s.sqL h2), h3.mono s⟩)⟩
  cases d with
  | ref p =>
    cases r1
    have h1 : (match O1 p with
      | some (.ml l) => Q0 l (fun O' => O' p = some (.ml l)) O1
      | _ => False) := h1
    cases e : O1 p with
    | none =>
      rw [e] at h1
      exact h1.elim
    | some o =>
      rw [e] at h1
      cases o <;> first | exact h1.elim | skip
      obtain ⟨xs, h2, h3⟩ := ml_at s1.hold e
      refine ⟨p, rfl, ⟨xs, SqL.of h2⟩, hQ _ _ _ h1 _ _ _ s1 (itR_list fun O' F' H' s hH' st => ?_)⟩
      obtain ⟨ys, h4, h5⟩ := ml_at hH' st
      exact ⟨ys, SqL.of h4, h5⟩
  | _ => exact val (fun _ z => nomatch z) h1
theorem i_tup {w : WE} (h : Pe X W e w) : Pi X W tg e (wiTup w) := PI.imp (pi_tup h) fun σ H R q => by
  obtain ⟨F, O, η, Q0, hH, hη, hw, hQ⟩ := q
  refine ⟨F, O, η, _, hH, hη, hw, fun d O1 h1 v F1 H1 s1 r1 => ?_⟩
  cases d <;> first | exact h1.elim | skip
  cases r1 with
  | tup h2 h3 => exact ⟨_, rfl, ⟨_, s1.hold.fz.sqT h2⟩, hQ _ _ _ h1 _ _ _ s1 (itR_tup h2 h3)⟩
/-- lo, lo + 1, .. below hi -/
def rgD (lo hi : Int) : List D := (List.range (hi - lo).toNat).map fun i => .int (lo + (i : Nat))
theorem itR_range {K : PySem.W.Frag} {F : Hp} {lo : Int} {n : Nat} {st : OS → Prop} : ItR K W (Itr lo n) F ((List.range n).map fun i => .int (lo + (i : Nat))) st := fun i O F' H s hH hs => by
  refine ⟨fun d e => ?_, fun hi => show n ≤ i by simpa using hi⟩
  rw [List.getElem?_map] at e
  by_cases hi : i < n
  · rw [List.getElem?_range hi] at e
    cases e
    refine ⟨hi, fun x H' y => ?_⟩
    obtain ⟨rfl, rfl⟩ := y
    exact ⟨F', Step.refl hH, .int _⟩
  · rw [List.getElem?_eq_none (by simpa using hi)] at e
    cases e
def wiR1 (wa : WA) : WI := fun η O Q => wa η O fun ds O1 => match ds with
  | [.int j] => -(2 ^ 62) ≤ j ∧ j < 2 ^ 62 ∧ Q (rgD 0 j) anySt O1
  | _ => False
def wiR2 (wa : WA) : WI := fun η O Q => wa η O fun ds O1 => match ds with
  | [.int i, .int j] => (-(2 ^ 62) ≤ i ∧ i < 2 ^ 62 ∧ -(2 ^ 62) ≤ j ∧ j < 2 ^ 62) ∧ Q (rgD i j) anySt O1
  | _ => False
theorem i_r1 {a : Expr} {wa : WA} (hm : X.mg "range" = none) (ha : Pa X W [a] wa) (hg : Gl X "range" := by rfl) (hs : starEach [a] X.env = [(false, eval a X.env)] := by rfl) : Pi X W tg (.Call (.Name "range" p) [a] [] pos) (wiR1 wa) :=
  PI.imp (pi_range1 hg hm ha hs) fun σ H R q => by
  obtain ⟨F, O, η, Q0, hH, hη, hw, hQ⟩ := q
  refine ⟨F, O, η, _, hH, hη, hw, fun ds O1 h1 vs F1 H1 s1 r1 => ?_⟩
  match ds, h1 with
  | [.int j], h1 =>
    obtain ⟨v, rfl, r2⟩ := one_rep r1
    cases rep_int r2
    obtain ⟨h2, h3, h4⟩ := h1
    refine ⟨j, rfl, h2, h3, hQ _ _ _ h4 _ _ _ s1 ?_⟩
    unfold rgD
    rw [Int.sub_zero]
    exact itR_range
theorem i_r2 {a b : Expr} {wa : WA} (hm : X.mg "range" = none) (ha : Pa X W [a, b] wa) (hg : Gl X "range" := by rfl) (hs : starEach [a, b] X.env = [(false, eval a X.env), (false, eval b X.env)] := by rfl) (hs2 : starEach [b] X.env = [(false, eval b X.env)] := by rfl) :
    Pi X W tg (.Call (.Name "range" p) [a, b] [] pos) (wiR2 wa) := PI.imp (pi_range2 hg hm ha hs hs2) fun σ H R q => by
  obtain ⟨F, O, η, Q0, hH, hη, hw, hQ⟩ := q
  refine ⟨F, O, η, _, hH, hη, hw, fun ds O1 h1 vs F1 H1 s1 r1 => ?_⟩
  match ds, h1 with
  | [.int i, .int j], h1 =>
    obtain ⟨v, w, rfl, r2, r3⟩ := two_rep r1
    cases rep_int r2
    cases rep_int r3
    obtain ⟨h2, h4⟩ := h1
    exact ⟨i, j, rfl, h2, hQ _ _ _ h4 _ _ _ s1 itR_range⟩
/-- pairs of place and item -/
def enD (l : List D) : List D := (List.range l.length).map fun i => .tup [.int (i : Nat), l.getD i .non]
theorem enD_get {l : List D} {i : Nat} {d : D} (e : (enD l)[i]? = some d) : ∃ y, l[i]? = some y ∧ d = .tup [.int (i : Nat), y] := by
  unfold enD at e
  rw [List.getElem?_map] at e
  by_cases hi : i < l.length
  · rw [List.getElem?_range hi] at e
    cases e
    exact ⟨l[i], by simp [hi], by simp [hi]⟩
  · rw [List.getElem?_eq_none (by simpa using hi)] at e
    cases e
theorem enD_length (l : List D) : (enD l).length = l.length := by simp [enD]
def wiEn (wa : WA) : WI := fun η O Q => wa η O fun ds O1 => match ds with
  | [d] => (match d with
    | .ref p => (match O1 p with
      | some (.ml l) => Q (enD l) (fun O' => O' p = some (.ml l)) O1
      | _ => False)
    | d => (match asR O1 d with
      | some l => Q (enD l) anySt O1
      | none => False))
  | _ => False
theorem itR_enum {K : PySem.W.Frag} {F : Hp} {a : Addr} {l : List D} {st : OS → Prop} (h : ∀ O F' H, Sub F F' → Hold K W O F' H → st O → ∃ xs, SqL K H a xs ∧ RepL K F' xs l) : ItR K W (Ite K a) F (enD l) st := fun i O F' H s hH hs => by
  obtain ⟨xs, h1, h2⟩ := h O F' H s hH hs
  refine ⟨fun d e => ?_, fun hi => ⟨xs, h1, by rw [h2.length, ← enD_length]; exact hi⟩⟩
  obtain ⟨y, e2, rfl⟩ := enD_get e
  obtain ⟨x, h3, h4⟩ := h2.get e2
  refine ⟨⟨xs, x, h1, h3⟩, fun x' H' yy => ?_⟩
  obtain ⟨T, x2, rfl, nT, rfl, q⟩ := yy
  have e3 := q xs h1
  rw [h3] at e3
  cases e3
  have s2 := Step.newF (u := .tup [.int (i : Nat), x]) hH nT
  exact ⟨_, s2, .tup (SqT.of upd_same) (.cons (.int _) (.cons (h4.mono s2.sub) .nil))⟩
theorem i_en {wa : WA} {elts : List Expr} {kk : Nat} {tpos : Pos} (hm : X.mg "enumerate" = none) (ha : Pa X W [e] wa) (hg : Gl X "enumerate" := by rfl) (hs : starEach [e] X.env = [(false, eval e X.env)] := by rfl) :
    Pi X W (.Tuple elts kk tpos) (.Call (.Name "enumerate" p) [e] [] pos) (wiEn wa) := PI.imp (pi_enum hg hm ha hs) fun σ H R q => by
  obtain ⟨F, O, η, Q0, hH, hη, hw, hQ⟩ := q
  refine ⟨F, O, η, _, hH, hη, hw, fun ds O1 h1 vs F1 H1 s1 r1 => ?_⟩
  match ds, h1 with
  | [d], h1 =>
    obtain ⟨v, rfl, r2⟩ := one_rep r1
    have val : (∀ p, d ≠ .ref p) → (match asR O1 d with
      | some l => Q0 (enD l) anySt O1
      | none => False) → ∃ a xs, [v] = [V.ref a] ∧ SqL X.K H1 a xs ∧ R (Ite X.K a) H1 := fun hn w => by
      cases e : asR O1 d with
      | none =>
        rw [e] at w
        exact w.elim
      | some l =>
        rw [e] at w
        obtain ⟨a, xs, rfl, h2, h3⟩ := rep_fz s1.hold r2 hn e
        exact ⟨a, xs, rfl, s1.hold.fz.sqL h2, hQ _ _ _ w _ _ _ s1 (itR_enum fun O' F' H' s hH' _ => ⟨xs, hH'.fz.sqL (s.sqL h2), h3.mono s⟩)⟩
    cases d with
    | ref p =>
      cases r2
      have h1 : (match O1 p with
        | some (.ml l) => Q0 (enD l) (fun O' => O' p = some (.ml l)) O1
        | _ => False) := h1
      cases e : O1 p with
      | none =>
        rw [e] at h1
        exact h1.elim
      | some o =>
        rw [e] at h1
        cases o <;> first | exact h1.elim | skip
        obtain ⟨xs, h2, h3⟩ := ml_at s1.hold e
        refine ⟨p, xs, rfl, SqL.of h2, hQ _ _ _ h1 _ _ _ s1 (itR_enum fun O' F' H' s hH' st => ?_)⟩
        obtain ⟨ys, h4, h5⟩ := ml_at hH' st
        exact ⟨ys, SqL.of h4, h5⟩
    | _ => exact val (fun _ z => nomatch z) h1
end
/-! ### for -/
def forGo (g : WG) (body : WS) (st : OS → Prop) : List D → (f : Fin) → Sl → (O : OS) → PKp (g, body, st, f, O)
  | [] => fun f η O => st O ∧ f.nx η O
  | d :: r => fun f η O => st O ∧ g d η O fun η1 O1 => body { nx := forGo g body st r f, ct := forGo g body st r f, bk := f.nx, rt := f.rt } η1 O1
def sFor (wi : WI) (g : WG) (body : WS) : WS := fun f η O => wi η O fun items st O1 => forGo g body st items f η O1
section
variable {X : Cx} {W : Wd} {tg iter : Expr} {body : List Stmt} {pos : Pos}
theorem get_drop {α : Type} {l : List α} {i : Nat} {x : α} {r : List α} (h : l.drop i = x :: r) : l[i]? = some x ∧ l.drop (i + 1) = r := by
  have h1 : (l.drop i)[0]? = some x := by rw [h]; rfl
  rw [List.getElem?_drop] at h1
  refine ⟨by simpa using h1, ?_⟩
  rw [← List.drop_drop, h]
  rfl
theorem s_for {wi : WI} {g : WG} {tb : WS} (hp : PassesOwn (model X.prog X.w) X.A X.env X.xe) (hc : X.calm = true) (hi : Pi X W tg iter wi) (hg : Pg X W tg g) (hb : Pss X W body tb) (hs : ∀ x, foldedSetIterable iter X.env x = pure x := by intro _; rfl) :
    Ps X W (.For tg iter body [] pos) (sFor wi g tb) := PS.imp (ps_for hp hc hi hg hb hs) fun E σ H q => by
  obtain ⟨F, O, η, f, hH, hη, hw, gf⟩ := q
  refine ⟨F, O, η, _, hH, hη, hw, fun items st O1 h1 F1 H1 J s1 it => ?_⟩
  refine ⟨fun i m σ2 H2 => m = items.length - i ∧ i ≤ items.length ∧ ∃ O2 F2 η2, Step X.K W O F H O2 F2 H2 ∧ Sub F1 F2 ∧ EnvR X.K F2 σ2 η2 ∧ forGo g tb st (items.drop i) f η2 O2, ⟨_, rfl, Nat.zero_le _, O1, F1, η, s1, Sub.refl _, hη.mono s1.sub, h1⟩, ?_⟩
  rintro i m σ2 H2 ⟨rfl, hi2, O2, F2, η2, s2, sub2, e2, go⟩
  cases hd : items.drop i with
  | nil =>
    rw [hd] at go
    obtain ⟨st2, go⟩ := go
    have hl : items.length ≤ i := by
      have := congrArg List.length hd
      rw [List.length_drop] at this
      simpa using Nat.sub_eq_zero_iff_le.mp this
    exact .inl ⟨(it i O2 F2 H2 sub2 s2.hold st2).2 hl, gf.nx _ _ go _ _ _ s2 e2⟩
  | cons d r =>
    rw [hd] at go
    obtain ⟨hx, hr⟩ := get_drop hd
    obtain ⟨st2, go⟩ := go
    obtain ⟨g1, g2⟩ := (it i O2 F2 H2 sub2 s2.hold st2).1 d hx
    have hlt := (List.getElem?_eq_some_iff.mp hx).1
    refine .inr ⟨g1, fun σ3 H3 => ∃ O3 F3 η3, Step X.K W O F H O3 F3 H3 ∧ Sub F1 F3 ∧ EnvR X.K F3 σ3 η3 ∧ forGo g tb st r f η3 O3, fun σ3 H3 ⟨O3, F3, η3, a, b, c, d⟩ => ⟨_, by omega, rfl, hlt, O3, F3, η3, a, b, c, by rw [hr]; exact d⟩, fun x H3 y => ?_⟩
    obtain ⟨F3, s3, r3⟩ := g2 x H3 y
    refine ⟨F3, O2, η2, d, _, s3.hold, e2.mono s3.sub, r3, go, fun η4 O4 h4 σ4 F4 H4 s4 e4 => ?_⟩
    refine ⟨F4, O4, η4, _, s4.hold, e4, h4, ⟨fun η5 O5 h5 σ5 F5 H5 s5 e5 => ?_, fun z O5 h5 => ?_, fun η5 O5 h5 => ?_, fun η5 O5 h5 σ5 F5 H5 s5 e5 => ?_⟩⟩
    · exact ⟨O5, F5, η5, ((s2.trans s3).trans s4).trans s5, sub2.trans ((s3.trans s4).trans s5).sub, e5, h5⟩
    · exact (gf.rt _ _ h5).mono ((s2.trans s3).trans s4)
    · exact (gf.nx _ _ h5).mono ((s2.trans s3).trans s4)
    · exact ⟨O5, F5, η5, ((s2.trans s3).trans s4).trans s5, sub2.trans ((s3.trans s4).trans s5).sub, e5, h5⟩
end
end Sw

set_option maxRecDepth 100000
set_option maxHeartbeats 4000000
namespace Sw
open PySem PySem.Spec PyProof.Rows L2
/-! ### a comprehension's targets: the slots vs alone are written -/
def wipeD (η : Sl) : List Nat → Sl
  | [] => η
  | i :: r => (wipeD η r).set i none
theorem EnvR.wipe {K : PySem.W.Frag} {F : Hp} {σ : L2.St} {η : Sl} (h : EnvR K F σ η) : ∀ {vs : List Nat}, EnvR K F (L2.wipe σ vs) (wipeD η vs)
  | [] => h
  | i :: r => (EnvR.wipe h (vs := r)).drop
theorem wipe_none {σ : L2.St} : ∀ {r : List Nat} {i : Nat}, (L2.wipe σ r).set i none = L2.wipe (σ.set i none) r
  | [], _ => rfl
  | j :: r, i => by
    show ((L2.wipe σ r).set j none).set i none = (L2.wipe (σ.set i none) r).set j none
    rw [← wipe_none]
    by_cases e : j = i
    · subst e
      rfl
    · exact List.set_comm _ _ e
theorem wipe_set {x : Option V} : ∀ {vs : List Nat} {σ : L2.St} {i : Nat}, i ∈ vs → L2.wipe (σ.set i x) vs = L2.wipe σ vs
  | [], _, _, h => by cases h
  | j :: r, σ, i, h => by
    show (L2.wipe (σ.set i x) r).set j none = (L2.wipe σ r).set j none
    by_cases e : i = j
    · subst e
      rw [wipe_none, wipe_none, List.set_set]
    · rw [wipe_set ((List.mem_cons.mp h).resolve_left e)]
theorem wipe_wipe {vs : List Nat} {σ : L2.St} : L2.wipe (L2.wipe σ vs) vs = L2.wipe σ vs := by
  have key : ∀ (vs ws : List Nat) (σ : L2.St), (∀ i ∈ ws, i ∈ vs) → L2.wipe (L2.wipe σ ws) vs = L2.wipe σ vs := by
    intro vs ws
    induction ws with
    | nil => intro σ _; rfl
    | cons i r ih =>
      intro σ h
      show L2.wipe ((L2.wipe σ r).set i none) vs = L2.wipe σ vs
      rw [wipe_set (h i (List.mem_cons_self ..)), ih _ fun j hj => h j (List.mem_cons_of_mem _ hj)]
  exact key vs vs σ fun _ h => h
def GoSv (K : PySem.W.Frag) (W : Wd) (O : OS) (F H : Hp) (vs : List Nat) (σ : L2.St) (Q : L2.St → Hp → Prop) (η : Sl) (O' : OS) : Prop := ∀ σ' F' H', Step K W O F H O' F' H' → EnvR K F' σ' η → L2.wipe σ' vs = L2.wipe σ vs → Q σ' H'
def lGv (K : PySem.W.Frag) (W : Wd) (vs : List Nat) (g : WG) : TG := fun v σ H Q => ∃ F O η d Q0, Hold K W O F H ∧ EnvR K F σ η ∧ Rep K F v d ∧ g d η O Q0 ∧ ∀ η' O', Q0 η' O' → GoSv K W O F H vs σ Q η' O'
def lGvs (K : PySem.W.Frag) (W : Wd) (vs : List Nat) (g : WGs) : TGs := fun ws σ H Q => ∃ F O η ds Q0, Hold K W O F H ∧ EnvR K F σ η ∧ RepL K F ws ds ∧ g ds η O Q0 ∧ ∀ η' O', Q0 η' O' → GoSv K W O F H vs σ Q η' O'
abbrev Pgv (X : Cx) (W : Wd) (vs : List Nat) (e : Expr) (g : WG) : Prop := PG X e (lGv X.K W vs g)
abbrev Pgvs (X : Cx) (W : Wd) (vs : List Nat) (es : List Expr) (g : WGs) : Prop := PGs X es (lGvs X.K W vs g)
section
variable {X : Cx} {W : Wd} {pos : Pos} {vs : List Nat}
theorem gv_n (i : Nat) {x : Str} (hN : X.N.Nodup) (hv : i ∈ vs := by decide) (hi : X.N[i]? = some x := by rfl) (hx : Loc X.env.scope x := by first | exact Or.inl rfl | exact Or.inr rfl) (hf : X.fn x = true ∨ X.env.scope.names.lookup x = some .local := by first | exact .inl rfl | exact .inr rfl | assumption) :
    Pgv X W vs (.Name x pos) (gN i) := PG.imp (pg_name hN hi hx hf) fun v σ H Q q => by
  obtain ⟨F, O, η, d, Q0, hH, hη, r, w, k⟩ := q
  exact k _ _ w _ F H (Step.refl hH) (hη.set r) (wipe_set hv)
theorem gv_z : Pgvs X W vs [] gZ := PGs.imp pgs_nil fun ws σ H Q q => by
  obtain ⟨F, O, η, ds, Q0, hH, hη, r, w, k⟩ := q
  cases r with
  | nil => exact ⟨rfl, k _ _ w _ F H (Step.refl hH) hη rfl⟩
  | cons _ _ => exact w.elim
theorem gv_c {e : Expr} {es : List Expr} {g : WG} {r : WGs} (h1 : Pgv X W vs e g) (h2 : Pgvs X W vs es r) (hs : (assignEach (e :: es) X.env).map (·.2) = assign e X.env :: (assignEach es X.env).map (·.2) := by rfl) : Pgvs X W vs (e :: es) (gC g r) :=
  PGs.imp (pgs_cons h1 h2 hs) fun ws σ H Q q => by
  obtain ⟨F, O, η, ds, Q0, hH, hη, rr, w, k⟩ := q
  cases rr with
  | nil => exact w.elim
  | cons r1 r2 =>
    refine ⟨_, _, rfl, F, O, η, _, _, hH, hη, r1, w, fun η1 O1 h1 σ1 F1 H1 s1 e1 w1 => ?_⟩
    exact ⟨F1, O1, η1, _, _, s1.hold, e1, r2.mono s1.sub, h1, fun η2 O2 h2 σ2 F2 H2 s2 e2 w2 => k _ _ h2 σ2 F2 H2 (s1.trans s2) e2 (w2.trans w1)⟩
theorem gv_t {es : List Expr} {k n : Nat} {g : WGs} (hc : X.calm = true) (h : Pgvs X W vs es g) (hn : (assignEach es X.env).length = n := by rfl) (hst : (assignEach es X.env).findIdx? (·.1) = none := by rfl) : Pgv X W vs (.Tuple es k pos) (gT n g) :=
  PG.imp (pg_tup hc h hn hst) fun v σ H Q q => by
  obtain ⟨F, O, η, d, Q0, hH, hη, r, w, k⟩ := q
  cases d <;> first | exact w.elim | skip
  obtain ⟨w1, w2⟩ := w
  obtain ⟨a, xs, rfl, h1, h2⟩ := tup_at hH r
  exact ⟨a, xs, rfl, h1, h2.length.trans w1, F, O, η, _, _, hH, hη, h2, w2, k⟩
end
/-! ### comprehensions -/
def lcGo (g : WG) (tt : WT) (te : WE) (η : Sl) (st : OS → Prop) : List D → (acc : List D) → (O : OS) → (Q : QD) → PKp (g, tt, te, st, acc, O)
  | [], acc, O, Q => st O ∧ Q (.lst acc) O
  | d :: r, acc, O, Q => st O ∧ g d η O fun η1 O1 => tt η1 O1 fun b O2 => match b with
    | true => te η1 O2 fun y O3 => acc.length < sizeLine ∧ lcGo g tt te η st r (acc ++ [y]) O3 Q
    | false => lcGo g tt te η st r acc O2 Q
def wLc (wi : WI) (g : WG) (tt : WT) (te : WE) (vs : List Nat) : WE := fun η O Q => wi η O fun items st O1 => lcGo g tt te (wipeD η vs) st items [] O1 Q
/-- the list is to change -/
def wLcM (wi : WI) (g : WG) (tt : WT) (te : WE) (vs : List Nat) : WE := fun η O Q => wi η O fun items st O1 => lcGo g tt te (wipeD η vs) st items [] O1 fun d O2 => match d with
  | .lst l => ∀ p, O2 p = none → Q (.ref p) (put O2 p (.ml l))
  | _ => False
def wYes : WT := fun _ O Q => Q true O
section
variable {X : Cx} {W : Wd} {tg iter elt : Expr} {ifs : List Expr} {pos : Pos}
abbrev Pts (X : Cx) (W : Wd) (es : List Expr) (w : WT) : Prop := PTs X es (lT X.K W w)
theorem ts_nil : Pts X W [] wYes := ⟨fun pins s σ H Q I q => by
  obtain ⟨F, O, η, Q0, hH, hη, hw, hQ⟩ := q
  exact pts_nil.run pins s σ H Q I (hQ _ _ hw F H (Step.refl hH))⟩
theorem ts_one {c : Expr} {t : WT} (h : Pt X W c t) : Pts X W [c] t := pts_one h
theorem lc_chase {K : PySem.W.Frag} {wi : WI} {g : WG} {tt : WT} {te : WE} {vs : List Nat} {σ : L2.St} {H : Hp} {Q : VK} {F : Hp} {O : OS} {η : Sl} {Q0 : QD} (hH : Hold K W O F H) (hη : EnvR K F σ η)
    (hw : wi η O fun items st O1 => lcGo g tt te (wipeD η vs) st items [] O1 Q0)
    (fin : ∀ l xs O' D F' H', Q0 (.lst l) O' → Step K W O F H O' F' H' → H' D = some (.lst xs) → RepL K F' xs l → H D = none → F' D = none → O' D = none → Q (.ref D) H') :
    tLc (lI K W wi) (lGv K W vs g) (lT K W tt) (lE K W te) vs σ H Q := by
  refine ⟨F, O, η, _, hH, hη, hw, fun items st O1 h1 F1 H1 J s1 it D hD => ?_⟩
  have hD0 := s1.dm D hD
  have sp := Step.priv (u := .lst []) hH s1 hD0 (s1.hold.freshF hD) (s1.hold.freshO hD)
  refine ⟨fun i m H2 => m = items.length - i ∧ i ≤ items.length ∧ ∃ O2 F2 acc xs, Step K W O F H O2 F2 H2 ∧ Sub F1 F2 ∧ H2 D = some (.lst xs) ∧ RepL K F2 xs acc ∧ F2 D = none ∧ O2 D = none ∧ lcGo g tt te (wipeD η vs) st (items.drop i) acc O2 Q0,
    ⟨_, rfl, Nat.zero_le _, O1, F1, [], [], sp, Sub.refl _, upd_same, .nil, s1.hold.freshF hD, s1.hold.freshO hD, h1⟩, ?_⟩
  rintro i m H2 ⟨rfl, hi, O2, F2, acc, xs, s2, sub2, d1, d2, d3, d4, go⟩
  cases hd : items.drop i with
  | nil =>
    rw [hd] at go
    obtain ⟨st2, go⟩ := go
    have hl : items.length ≤ i := by
      have := congrArg List.length hd
      rw [List.length_drop] at this
      simpa using Nat.sub_eq_zero_iff_le.mp this
    exact .inl ⟨(it i O2 F2 H2 sub2 s2.hold st2).2 hl, fin _ _ _ _ _ _ go s2 d1 d2 hD0 d3 d4⟩
  | cons d r =>
    rw [hd] at go
    obtain ⟨hx, hr⟩ := get_drop hd
    obtain ⟨st2, go⟩ := go
    obtain ⟨g1, g2⟩ := (it i O2 F2 H2 sub2 s2.hold st2).1 d hx
    have hlt := (List.getElem?_eq_some_iff.mp hx).1
    refine .inr ⟨g1, fun H3 => ∃ O3 F3 acc xs, Step K W O F H O3 F3 H3 ∧ Sub F1 F3 ∧ H3 D = some (.lst xs) ∧ RepL K F3 xs acc ∧ F3 D = none ∧ O3 D = none ∧ lcGo g tt te (wipeD η vs) st r acc O3 Q0,
      fun H3 ⟨O3, F3, acc, xs, a, b, c, d, e, f, g⟩ => ⟨_, by omega, rfl, hlt, O3, F3, acc, xs, a, b, c, d, e, f, by rw [hr]; exact g⟩, fun x H3 y => ?_⟩
    obtain ⟨F3, s3, r3⟩ := g2 x H3 y
    have s13 := s2.trans s3
    obtain ⟨c1, c2, c3⟩ := s3.stays d1 d3 d4
    refine ⟨F3, O2, wipeD η vs, d, _, s3.hold, (hη.mono s13.sub).wipe, r3, go, fun η4 O4 h4 σ4 F4 H4 s4 e4 w4 => ?_⟩
    obtain ⟨b1, b2, b3⟩ := s4.stays c1 c2 c3
    refine ⟨w4.trans wipe_wipe, F4, O4, η4, _, s4.hold, e4, h4, fun b O5 h5 F5 H5 s5 => ?_⟩
    obtain ⟨a1, a2, a3⟩ := s5.stays b1 b2 b3
    have s15 := (s13.trans s4).trans s5
    have sub5 := sub2.trans ((s3.trans s4).trans s5).sub
    cases b with
    | false => exact iteF ⟨O5, F5, acc, xs, s15, sub5, a1, d2.mono ((s3.trans s4).trans s5).sub, a2, a3, h5⟩
    | true =>
      refine iteT ⟨F5, O5, η4, _, s5.hold, e4.mono s5.sub, h5, fun z O6 h6 v6 F6 H6 s6 r6 => ?_⟩
      obtain ⟨z1, z2, z3⟩ := s6.stays a1 a2 a3
      have s26 := ((s3.trans s4).trans s5).trans s6
      refine ⟨xs, z1, by rw [d2.length]; exact h6.1, O6, F6, acc ++ [z], xs ++ [v6], Step.priv hH (s15.trans s6) hD0 z2 z3, sub2.trans s26.sub, upd_same, (d2.mono s26.sub).snoc r6, z2, z3, h6.2⟩
variable {wi : WI} {g : WG} {tt : WT} {te : WE} {scope : Scope} {own : List (Str × Nat)}
/-- [..] as a value -/
theorem x_lc (hc : X.calm = true) (hN : X.N.Nodup) (hi : Pi X W tg iter wi) (ok : BlkOk X.N X.env.scope scope own)
    (hg : ∀ (s : Shared) (H : Hp) (C : Addr) (cl : List (Str × Addr)) (fp : List Addr), Pgv (X.blk s H scope (compEnvC scope cl C X.env) fp) W (own.map (·.2)) tg g) (ht : ∀ (s : Shared) (H : Hp) (C : Addr) (cl : List (Str × Addr)) (fp : List Addr), Pts (X.blk s H scope (compEnvC scope cl C X.env) fp) W ifs tt)
    (he : ∀ (s : Shared) (H : Hp) (C : Addr) (cl : List (Str × Addr)) (fp : List Addr), Pe (X.blk s H scope (compEnvC scope cl C X.env) fp) W elt te) (hs : ∀ x, foldedSetIterable iter X.env x = pure x := by intro _; rfl) :
    Pe X W (.ListComp elt [⟨tg, iter, ifs, 0⟩] scope pos) (wLc wi g tt te (own.map (·.2))) := PE.imp (pe_lc hc hN hi ok hg ht he hs) fun σ H Q q => by
  obtain ⟨F, O, η, Q0, hH, hη, hw, hQ⟩ := q
  refine lc_chase hH hη hw fun l xs O' D F' H' h1 s1 d1 d2 d0 d3 d4 => ?_
  obtain ⟨F'', s2, r2⟩ := Step.tellF hH s1 d0 d1 d3 d4 d2
  exact hQ _ _ h1 _ _ _ s2 r2
theorem x_lcM (hc : X.calm = true) (hN : X.N.Nodup) (hi : Pi X W tg iter wi) (ok : BlkOk X.N X.env.scope scope own)
    (hg : ∀ (s : Shared) (H : Hp) (C : Addr) (cl : List (Str × Addr)) (fp : List Addr), Pgv (X.blk s H scope (compEnvC scope cl C X.env) fp) W (own.map (·.2)) tg g) (ht : ∀ (s : Shared) (H : Hp) (C : Addr) (cl : List (Str × Addr)) (fp : List Addr), Pts (X.blk s H scope (compEnvC scope cl C X.env) fp) W ifs tt)
    (he : ∀ (s : Shared) (H : Hp) (C : Addr) (cl : List (Str × Addr)) (fp : List Addr), Pe (X.blk s H scope (compEnvC scope cl C X.env) fp) W elt te) (hs : ∀ x, foldedSetIterable iter X.env x = pure x := by intro _; rfl) :
    Pe X W (.ListComp elt [⟨tg, iter, ifs, 0⟩] scope pos) (wLcM wi g tt te (own.map (·.2))) := PE.imp (pe_lc hc hN hi ok hg ht he hs) fun σ H Q q => by
  obtain ⟨F, O, η, Q0, hH, hη, hw, hQ⟩ := q
  refine lc_chase hH hη hw fun l xs O' D F' H' h1 s1 d1 d2 d0 d3 d4 => ?_
  exact hQ _ _ (h1 D d4) _ _ _ (Step.tellO hH s1 d0 d3 (by rw [d1]; exact .ml d2)) (.ref D)
/-- name = [..] -/
theorem s_lc {i : Nat} {y : Str} {py spos : Pos} (hc : X.calm = true) (hN : X.N.Nodup) (hi : Pi X W tg iter wi) (ok : BlkOk X.N X.env.scope scope own)
    (hg : ∀ (s : Shared) (H : Hp) (C : Addr) (cl : List (Str × Addr)) (fp : List Addr), Pgv (X.blk s H scope (compEnvC scope cl C X.env) fp) W (own.map (·.2)) tg g) (ht : ∀ (s : Shared) (H : Hp) (C : Addr) (cl : List (Str × Addr)) (fp : List Addr), Pts (X.blk s H scope (compEnvC scope cl C X.env) fp) W ifs tt)
    (he : ∀ (s : Shared) (H : Hp) (C : Addr) (cl : List (Str × Addr)) (fp : List Addr), Pe (X.blk s H scope (compEnvC scope cl C X.env) fp) W elt te) (hsw : swapsWith (.ListComp elt [⟨tg, iter, ifs, 0⟩] scope pos) (some (.Name y py)) spos.line X.env = pure true)
    (hy : X.N[i]? = some y := by rfl) (hyl : X.env.scope.names.lookup y = some .local := by rfl) (hs : ∀ x, foldedSetIterable iter X.env x = pure x := by intro _; rfl) :
    Ps X W (.Assign [.Name y py] (.ListComp elt [⟨tg, iter, ifs, 0⟩] scope pos) spos) (sSet i (wLc wi g tt te (own.map (·.2)))) := PS.imp (ps_setLc hc hN hy hyl hsw hi ok hg ht he hs) fun E σ H q => by
  obtain ⟨F, O, η, f, hH, hη, hw, gf⟩ := q
  refine lc_chase hH hη hw fun l xs O' D F' H' h1 s1 d1 d2 d0 d3 d4 => ?_
  obtain ⟨F'', s2, r2⟩ := Step.tellF hH s1 d0 d1 d3 d4 d2
  exact gf.nx _ _ h1 _ _ _ s2 ((hη.mono s2.sub).set r2)
theorem s_lcM {i : Nat} {y : Str} {py spos : Pos} (hc : X.calm = true) (hN : X.N.Nodup) (hi : Pi X W tg iter wi) (ok : BlkOk X.N X.env.scope scope own)
    (hg : ∀ (s : Shared) (H : Hp) (C : Addr) (cl : List (Str × Addr)) (fp : List Addr), Pgv (X.blk s H scope (compEnvC scope cl C X.env) fp) W (own.map (·.2)) tg g) (ht : ∀ (s : Shared) (H : Hp) (C : Addr) (cl : List (Str × Addr)) (fp : List Addr), Pts (X.blk s H scope (compEnvC scope cl C X.env) fp) W ifs tt)
    (he : ∀ (s : Shared) (H : Hp) (C : Addr) (cl : List (Str × Addr)) (fp : List Addr), Pe (X.blk s H scope (compEnvC scope cl C X.env) fp) W elt te) (hsw : swapsWith (.ListComp elt [⟨tg, iter, ifs, 0⟩] scope pos) (some (.Name y py)) spos.line X.env = pure true)
    (hy : X.N[i]? = some y := by rfl) (hyl : X.env.scope.names.lookup y = some .local := by rfl) (hs : ∀ x, foldedSetIterable iter X.env x = pure x := by intro _; rfl) :
    Ps X W (.Assign [.Name y py] (.ListComp elt [⟨tg, iter, ifs, 0⟩] scope pos) spos) (sSet i (wLcM wi g tt te (own.map (·.2)))) := PS.imp (ps_setLc hc hN hy hyl hsw hi ok hg ht he hs) fun E σ H q => by
  obtain ⟨F, O, η, f, hH, hη, hw, gf⟩ := q
  refine lc_chase hH hη hw fun l xs O' D F' H' h1 s1 d1 d2 d0 d3 d4 => ?_
  have s2 := Step.tellO (o := .ml l) hH s1 d0 d3 (by rw [d1]; exact .ml d2)
  exact gf.nx _ _ (h1 D d4) _ _ _ s2 ((hη.mono s2.sub).set (.ref D))
end
end Sw

set_option maxRecDepth 100000
set_option maxHeartbeats 4000000
namespace Sw
open PySem PySem.Spec PyProof.Rows L2
/-! ### exceptions, promises -/
abbrev XW := Str → List D → OS → Prop
abbrev XS := Str → List D → Sl → OS → Prop
abbrev FS := List D → OS → QD → XW → Prop
inductive XR (K : PySem.W.Frag) (W : Wc) (O : OS) (F H : Hp) : Value → Option Addr → Str → List D → Prop
  | bare (c : Str) : XR K W O F H (.ref (W.cA c)) none c []
  | fld {c f : Str} {dx : Addr} {v : V} {d : D} : W.lay c = [f] → H dx = some (.xd [(f, v)]) → F dx = none → O dx = none → Rep K F v d → XR K W O F H (.ref (W.cA c)) (some dx) c [d]
/-- how an exception is taken -/
def wX (K : PySem.W.Frag) (W : Wd) (EX : XS) : WX := fun cls dd σ H => ∃ O F η c fs, Hold K W O F H ∧ EnvR K F σ η ∧ XR K W.toWc O F H cls dd c fs ∧ EX c fs η O
abbrev TkD (X : Cx) (W : Wd) (EX : XS) : Prop := Takes X (wX X.K W EX)
def noX : XS := fun _ _ _ _ => False
theorem tk_no {X : Cx} {W : Wd} : TkD X W noX := Takes.imp takes_none5 fun _ _ _ _ ⟨_, _, _, _, _, _, _, _, h⟩ => h
/-- a def's promise -/
def spD (K : PySem.W.Frag) (W : Wc) (n : Nat) (fs : FS) : Sp := fun vs H Q E => ∃ F O ds Q0 E0, HoldC K W O F H ∧ RepL K F vs ds ∧ ds.length = n ∧ fs ds O Q0 E0 ∧
  (∀ d O', Q0 d O' → ∀ v F' H', Way O F H O' F' H' → HoldC K W O' F' H' → Rep K F' v d → Q v H') ∧
  (∀ c xs O', E0 c xs O' → ∀ cls dd F' H', Way O F H O' F' H' → HoldC K W O' F' H' → XR K W O' F' H' cls dd c xs → E cls dd H')
theorem spD.len {K : PySem.W.Frag} {W : Wc} {n : Nat} {fs : FS} {vs : List V} {H : Hp} {Q : VK} {E : XK} (h : spD K W n fs vs H Q E) : vs.length = n := by
  obtain ⟨F, O, ds, Q0, E0, _, r, hl, _⟩ := h
  rw [r.length, hl]
/-- a call's promise from where the caller stands -/
theorem sp_call {K : PySem.W.Frag} {W : Wd} {n : Nat} {fs : FS} {O : OS} {F H : Hp} {σ : L2.St} {η : Sl} {vs : List V} {ds : List D} {Q : VK} {Q0 : QD} {EX : XS} (hH : Hold K W O F H) (hη : EnvR K F σ η) (r : RepL K F vs ds) (hn : ds.length = n)
    (h : fs ds O Q0 fun c xs O' => EX c xs η O') (hQ : ∀ d O', Q0 d O' → Go K W O F H Q d O') : spD K W.toWc n fs vs H Q (L2.WE (wX K W EX) σ) :=
  ⟨F, O, ds, Q0, _, hH.toHoldC, r, hn, h, fun d O' h1 v F' H' w c r1 => hQ d O' h1 v F' H' (Step.of hH w c) r1, fun c xs O' h1 cls dd F' H' w c1 x => ⟨O', F', η, c, xs, (Step.of hH w c1).hold, hη.mono w.sub, x, h1⟩⟩

/-! ### calls with wishes at the slots -/
section
variable {X : Cx} {CX : CXT} {k n : Nat} {f C : Addr} {fd : FuncData} {ps ks : List Str} {sp : Sp} {dvs : List V} {ds : List Value} {E : L2.St → XK} {x m : Str} {p pos apos : Pos} {e o : Expr} {es : List Expr} {kws : List Keyword} {ta : TE} {t tk : TA} {g : List Value → List Value → List Value} {gV : List V → List V → List V}
def tMethS (C : Addr) (m : Str) (sp : Sp) (dvs : List V) (E : L2.St → XK) (ta : TE) (t : TA) : TE := fun σ H Q => ta σ H fun x H1 => ∃ a dx fs, x = .ref a ∧ H1 a = some (.ins C dx fs) ∧ fs.lookup m = none ∧
  t σ H1 fun vs H2 => sp (x :: (vs ++ dvs)) H2 Q (E σ)
def tMakeS (C : Addr) (sp : Sp) (dvs : List V) (E : L2.St → XK) (t : TA) : TE := fun σ H Q => t σ H fun vs H1 => ∀ x dx, H1 x = none → H1 dx = none → dx ≠ x →
  sp (.ref x :: (vs ++ dvs)) (upd (upd H1 dx (.own x)) x (.ins C dx [])) (fun v H2 => v = .non ∧ Q (.ref x) H2) (E σ)
theorem pe_callS0 (F : FnOk X.prog X.w X.K X.mg X.base CX k f fd ps sp) (hr : Room k X.A) (hg : Gl X x) (hm : X.mg x = some (.ref f)) (hk : PySem.W.keepIn X.K (.ref f) = true) (hb : Binds X.K fd ps ds) (hd : Vals dvs ds) (hx : ∀ σ, PassesAt CX X σ (E σ))
    (hdb : (x == ("__debug__" : Str)) = false := by decide) : PE X (.Call (.Name x p) [] [] pos) (tCallSD sp dvs E tNil) := by
  refine ⟨fun pins s σ H Q I h => ?_⟩
  refine wpAny_Call_Name_kw (ld_glob I hg hm ?_ hdb)
  exact PySem.W.callWith_K0 I.kIn hk (run_fnSD (us := []) F hr hb hd (hx σ) I .nil h)
theorem pe_methS {pl : Sem Bool} (he : PE X o ta) (c : Cls X.K C) (hm : Meth X.K C m f) (F : FnOk X.prog X.w X.K X.mg X.base CX k f fd ps sp) (hr : Room k X.A) (hb : Binds X.K fd ps ds) (hd : Vals dvs ds) (hx : ∀ σ, PassesAt CX X σ (E σ)) (ha : PA X (e :: es) t)
    (hst : starEach (e :: es) X.env = (false, eval e X.env) :: starEach es X.env := by rfl) (hpl : (backTo pos (starEach es X.env)).any (·.1) = false := by rfl)
    (ht : eval (.Call (.Attribute o m apos) (e :: es) [] pos) X.env = (do
      let ov ← eval o X.env
      standAt apos.atName
      let (f, first) ← holding [ov] (getMethod ov m pl)
      callWith pos f first (backTo pos (starEach (e :: es) X.env)) (backToKw pos (keywordEach [] X.env))) := by rfl) :
    PE X (.Call (.Attribute o m apos) (e :: es) [] pos) (tMethS C m sp dvs E ta t) := by
  refine ⟨fun pins s σ H Q I h => ?_⟩
  refine PySem.W.methodCall_KW (pl := pl) (thn (he.run pins s σ H _ I h) fun u s1 ⟨x, H1, I1, rx, a, dx, fs, ex, ea, l, q⟩ => ?_) ht
  subst ex
  obtain rfl : u = Value.ref a := rx
  refine getmeth_ok I1 ea c hm l ?_
  refine PySem.W.callWith_K (first := [.ref a]) (h₀ := X.base) I.ok.mod.kin hm.kp (thn (ha.run pos pins s1 σ H1 _ I1 q) fun us s2 ⟨vs, H2, I2, r, q2⟩ => ⟨I2.kIn, ?_⟩) hst hpl
  exact run_fnSD (us := .ref a :: us) (vs := .ref a :: vs) F hr hb hd (hx σ) I2 (.cons rfl r) q2
theorem pe_methS0 {pl : Sem Bool} (he : PE X o ta) (c : Cls X.K C) (hm : Meth X.K C m f) (F : FnOk X.prog X.w X.K X.mg X.base CX k f fd ps sp) (hr : Room k X.A) (hb : Binds X.K fd ps ds) (hd : Vals dvs ds) (hx : ∀ σ, PassesAt CX X σ (E σ))
    (ht : eval (.Call (.Attribute o m apos) [] [] pos) X.env = (do
      let ov ← eval o X.env
      standAt apos.atName
      let (f, first) ← holding [ov] (getMethod ov m pl)
      callWith pos f first (backTo pos (starEach [] X.env)) (backToKw pos (keywordEach [] X.env))) := by rfl) :
    PE X (.Call (.Attribute o m apos) [] [] pos) (tMethS C m sp dvs E ta tNil) := by
  refine ⟨fun pins s σ H Q I h => ?_⟩
  refine PySem.W.methodCall_KW (pl := pl) (thn (he.run pins s σ H _ I h) fun u s1 ⟨x, H1, I1, rx, a, dx, fs, ex, ea, l, q⟩ => ?_) ht
  subst ex
  obtain rfl : u = Value.ref a := rx
  refine getmeth_ok I1 ea c hm l ?_
  exact PySem.W.callWith_K0 (first := [.ref a]) I1.kIn hm.kp (run_fnSD (us := [.ref a]) (vs := [.ref a]) F hr hb hd (hx σ) I1 (.cons rfl .nil) q)
theorem run_makeS {pins : List (Addr × Obj)} {σ : L2.St} {H : Hp} {s : Shared} {Q : VK} {us : List Value} {vs : List V} (M : Mk X.K C f) (F : FnOk X.prog X.w X.K X.mg X.base CX k f fd ps sp) (hr : Room (k + 1) X.A) (hb : Binds X.K fd ps ds) (hd : Vals dvs ds)
    (hx : PassesAt CX X σ (E σ)) (I : Inv X pins σ H s) (r : Vals vs us)
    (h : ∀ x dx, H x = none → H dx = none → dx ≠ x → sp (.ref x :: (vs ++ dvs)) (upd (upd H dx (.own x)) x (.ins C dx [])) (fun v H2 => v = .non ∧ Q (.ref x) H2) (E σ)) :
    wpAny (model X.prog X.w) X.A (call (.ref C) us) (EP X pins σ Q) X.xe s := by
  have hq := h (s.heap.objs.size + 1) s.heap.objs.size (I.hok.fresh (Nat.le_succ _)) (I.hok.fresh (Nat.le_refl _)) (Nat.ne_of_lt (Nat.lt_succ_self _))
  have I2 := Inv.made (C := C) I
  have r2 : Vals (V.ref (s.heap.objs.size + 1) :: (vs ++ dvs)) (Value.ref (s.heap.objs.size + 1) :: (us ++ ds)) := .cons rfl (r.append hd)
  have hl : (Value.ref (s.heap.objs.size + 1) :: us ++ ds).length = ps.length := by
    have e := r2.length
    rw [F.len _ _ _ _ hq] at e
    exact e.symm
  refine wpAny_call (make_map (f := f) I.kIn M.makes M.init (beq_iff_eq.mp M.fn) (codeAny_mono (F.run _ X.stack _ _ ⟨Value.ref (s.heap.objs.size + 1) :: us, []⟩ (Value.ref (s.heap.objs.size + 1) :: (us ++ ds)) _ _ (E σ) (hr.make C us [])
    (I2.env0.make C us []) (hb _ (Value.ref (s.heap.objs.size + 1) :: us) I2.kIn hl) r2 hq) fun r s' hq' => ?_))
  cases r with
  | error e => exact hx pins _ _ e s' I2 hq'
  | ok fl =>
    cases fl with
    | ret u =>
      obtain ⟨v, H', I3, rv, ev, q3⟩ := I2.after hq'
      subst ev
      exact ⟨rv, ⟨V.ref (s.heap.objs.size + 1), H', I3, rfl, q3⟩⟩
    | next => exact False.elim hq'
    | brk => exact False.elim hq'
    | cont => exact False.elim hq'
theorem pe_makeS (M : Mk X.K C f) (F : FnOk X.prog X.w X.K X.mg X.base CX k f fd ps sp) (hr : Room (k + 1) X.A) (hg : Gl X x) (hm : X.mg x = some (.ref C)) (hb : Binds X.K fd ps ds) (hd : Vals dvs ds) (hx : ∀ σ, PassesAt CX X σ (E σ))
    (ha : PA X (e :: es) t) (hdb : (x == ("__debug__" : Str)) = false := by decide) (he : starEach (e :: es) X.env = (false, eval e X.env) :: starEach es X.env := by rfl) (hpl : (backTo pos (starEach es X.env)).any (·.1) = false := by rfl) :
    PE X (.Call (.Name x p) (e :: es) [] pos) (tMakeS C sp dvs E t) := by
  refine ⟨fun pins s σ H Q I h => ?_⟩
  refine wpAny_Call_Name_kw (ld_glob I hg hm ?_ hdb)
  refine PySem.W.callWith_K (h₀ := X.base) I.ok.mod.kin M.kp (thn (ha.run pos pins s σ H _ I h) fun us s1 ⟨vs, H1, I1, r, q⟩ => ⟨I1.kIn, ?_⟩) he hpl
  exact run_makeS M F hr hb hd (hx σ) I1 r q
theorem pe_makeS0 (M : Mk X.K C f) (F : FnOk X.prog X.w X.K X.mg X.base CX k f fd ps sp) (hr : Room (k + 1) X.A) (hg : Gl X x) (hm : X.mg x = some (.ref C)) (hb : Binds X.K fd ps ds) (hd : Vals dvs ds) (hx : ∀ σ, PassesAt CX X σ (E σ))
    (hdb : (x == ("__debug__" : Str)) = false := by decide) : PE X (.Call (.Name x p) [] [] pos) (tMakeS C sp dvs E tNil) := by
  refine ⟨fun pins s σ H Q I h => ?_⟩
  refine wpAny_Call_Name_kw (ld_glob I hg hm ?_ hdb)
  exact PySem.W.callWith_K0 I.kIn M.kp (run_makeS (us := []) M F hr hb hd (hx σ) I .nil h)
def tCallNS (n m : Nat) (sp : Sp) (gV : List V → List V → List V) (E : L2.St → XK) (t tk : TA) : TE := fun σ H Q => t σ H fun vs H1 => tk σ H1 fun zs H2 => vs.length = n ∧ zs.length = m ∧ sp (gV vs zs) H2 Q (E σ)
theorem run_fnNS {pins : List (Addr × Obj)} {σ : L2.St} {H : Hp} {s : Shared} {Q : VK} {us ws : List Value} {vs zs : List V} (F : FnOk X.prog X.w X.K X.mg X.base CX k f fd ps sp) (hr : Room k X.A) (hb : KBn X.K fd ps n ks g gV) (hx : PassesAt CX X σ (E σ))
    (I : Inv X pins σ H s) (r : Vals vs us) (rz : Vals zs ws) (l1 : vs.length = n) (l2 : zs.length = ks.length) (h : sp (gV vs zs) H Q (E σ)) : wpAny (model X.prog X.w) X.A (call (.ref f) us (ks.zip ws)) (EP X pins σ Q) X.xe s := by
  have r2 := hb.rel r rz
  refine wpAny_call (codeAny_mono (F.run X.A X.stack s H ⟨us, ks.zip ws⟩ (g us ws) (gV vs zs) Q (E σ) hr I.env0 (hb.to s us ws I.kIn (r.length.symm.trans l1) (rz.length.symm.trans l2)) r2 h) fun r s' hq => ?_)
  cases r with
  | error e => exact hx pins H s e s' I hq
  | ok fl =>
    cases fl with
    | ret u => exact I.after hq
    | next => exact False.elim hq
    | brk => exact False.elim hq
    | cont => exact False.elim hq
theorem pe_callNS (F : FnOk X.prog X.w X.K X.mg X.base CX k f fd ps sp) (hr : Room k X.A) (hg : Gl X x) (hm : X.mg x = some (.ref f)) (hk : PySem.W.keepIn X.K (.ref f) = true) (hb : KBn X.K fd ps n ks g gV) (hx : ∀ σ, PassesAt CX X σ (E σ))
    (ha : PA X (e :: es) t) (hkw : PK X kws tk) (hall : (backToKw pos (keywordEach kws X.env)).all (·.1.isSome) = true := by rfl) (hks : (backToKw pos (keywordEach kws X.env)).filterMap (·.1) = ks := by rfl)
    (hdb : (x == ("__debug__" : Str)) = false := by decide) (he : starEach (e :: es) X.env = (false, eval e X.env) :: starEach es X.env := by rfl)
    (hpl : ((backTo pos (starEach (e :: es) X.env)).any (·.1) || (backToKw pos (keywordEach kws X.env)).any (·.1.isNone)) = false := by rfl) :
    PE X (.Call (.Name x p) (e :: es) kws pos) (tCallNS n ks.length sp gV E t tk) := by
  refine ⟨fun pins s σ H Q I h => ?_⟩
  refine wpAny_Call_Name_kw (ld_glob I hg hm ?_ hdb)
  refine PySem.W.callWith_KW (h₀ := X.base) I.ok.mod.kin hk hall (thn (ha.run pos pins s σ H _ I h) fun us s1 ⟨vs, H1, I1, r, q⟩ => ?_) hpl he
  refine thn (hkw.run pos pins s1 σ H1 _ I1 q) fun ws s2 ⟨zs, H2, I2, rz, l1, l2, q2⟩ => ⟨I2.kIn, ?_⟩
  rw [hks]
  exact run_fnNS F hr hb (hx σ) I2 r rz l1 l2 q2
end

/-! ### over data -/
/-- f(..); ts: the defaults that fill up -/
def wCallF (fs : FS) (n : Nat) (ts : List D) (EX : XS) (wa : WA) : WE := fun η O Q => wa η O fun ds O1 => (ds ++ ts).length = n ∧ fs (ds ++ ts) O1 Q fun c xs O' => EX c xs η O'
def wMeth (c : Str) (fs : FS) (n : Nat) (EX : XS) (wo : WE) (wa : WA) : WE := fun η O Q => wo η O fun x O1 => match x with
  | .ref a => (match O1 a with
    | some (.ins c' _) => c' = c ∧ wa η O1 fun ds O2 => (D.ref a :: ds).length = n ∧ fs (.ref a :: ds) O2 Q fun c xs O' => EX c xs η O'
    | _ => False)
  | _ => False
def wMake (c : Str) (fs : FS) (n : Nat) (EX : XS) (wa : WA) : WE := fun η O Q => wa η O fun ds O1 => ∀ a, O1 a = none → (D.ref a :: ds).length = n ∧ fs (.ref a :: ds) (put O1 a (.ins c [])) (fun d O' => d = .non ∧ Q (.ref a) O') fun c xs O' => EX c xs η O'
/-- f(.., k = v): the keywords' values behind the others -/
def wCallK (fs : FS) (n m : Nat) (EX : XS) (wa wk : WA) : WE := fun η O Q => wa η O fun ds O1 => wk η O1 fun es O2 => ds.length = n ∧ es.length = m ∧ fs (ds ++ es) O2 Q fun c xs O' => EX c xs η O'
section
variable {K : PySem.W.Frag} {W : Wd} {fs : FS} {n : Nat} {EX : XS} {wa wk : WA} {wo : WE} {ts : List D} {dvs : List V} {c : Str} {σ : L2.St} {H : Hp} {Q : VK}
theorem callF_chase (hd : ∀ F, RepL K F dvs ts) (q : lE K W (wCallF fs n ts EX wa) σ H Q) : tCallSD (spD K W.toWc n fs) dvs (L2.WE (wX K W EX)) (lA K W wa) σ H Q := by
  obtain ⟨F, O, η, Q0, hH, hη, hw, hQ⟩ := q
  refine ⟨F, O, η, _, hH, hη, hw, fun ds O1 h1 vs F1 H1 s1 r1 => ?_⟩
  exact sp_call s1.hold (hη.mono s1.sub) (r1.append (hd F1)) h1.1 h1.2 fun d O' h => (hQ d O' h).mono s1
theorem meth_chase {m : Str} {t : TA} (hm : m ∉ W.lay c) (ht : ∀ σ H Q, lA K W wa σ H Q → t σ H Q) (q : lE K W (wMeth c fs n EX wo wa) σ H Q) : tMethS (W.cA c) m (spD K W.toWc n fs) [] (L2.WE (wX K W EX)) (lE K W wo) t σ H Q := by
  obtain ⟨F, O, η, Q0, hH, hη, hw, hQ⟩ := q
  refine ⟨F, O, η, _, hH, hη, hw, fun x O1 h1 v F1 H1 s1 r1 => ?_⟩
  cases x <;> first | exact h1.elim | skip
  rename_i a
  cases r1
  have h1 : (match O1 a with
    | some (.ins c' _) => c' = c ∧ wa η O1 fun ds O2 => (D.ref a :: ds).length = n ∧ fs (.ref a :: ds) O2 Q0 fun c xs O' => EX c xs η O'
    | _ => False) := h1
  cases e : O1 a with
  | none =>
    rw [e] at h1
    exact h1.elim
  | some o =>
    rw [e] at h1
    cases o <;> first | exact h1.elim | skip
    rename_i c' ds
    obtain ⟨rfl, h2⟩ := h1
    obtain ⟨dx, vs, h3, h4, h5⟩ := ins_at s1.hold e
    refine ⟨a, dx, _, rfl, h3, lookup_zip_none fun z => hm (List.mem_of_mem_take z), ht _ _ _ ⟨F1, O1, η, _, s1.hold, hη.mono s1.sub, h2, fun es O2 h6 ws F2 H2 s2 r2 => ?_⟩⟩
    show spD K W.toWc n fs (V.ref a :: (ws ++ [])) H2 Q (L2.WE (wX K W EX) σ)
    rw [List.append_nil]
    exact sp_call s2.hold ((hη.mono s1.sub).mono s2.sub) (.cons (.ref a) r2) h6.1 h6.2 fun d O' h => (hQ d O' h).mono (s1.trans s2)
theorem make_chase (q : lE K W (wMake c fs n EX wa) σ H Q) : tMakeS (W.cA c) (spD K W.toWc n fs) [] (L2.WE (wX K W EX)) (lA K W wa) σ H Q := by
  obtain ⟨F, O, η, Q0, hH, hη, hw, hQ⟩ := q
  refine ⟨F, O, η, _, hH, hη, hw, fun ds O1 h1 vs F1 H1 s1 r1 => fun x dx hx hdx hne => ?_⟩
  obtain ⟨h2, h3⟩ := h1 x (s1.hold.toHoldC.freshO hx)
  have t1 : Step K W O1 F1 H1 O1 F1 (upd H1 dx (.own x)) := Step.newH s1.hold hdx
  have hx2 : (upd H1 dx (.own x)) x = none := by
    rw [upd_ne (Ne.symm hne)]
    exact hx
  have ob : ObR K W.toWc F1 (some (.ins (W.cA c) dx [])) (.ins c []) := ObR.ins (c := c) (dx := dx) (vs := []) .nil (Nat.zero_le _)
  have t2 := Step.newO t1.hold hx2 ob
  have t := t1.trans t2
  rw [List.append_nil]
  refine sp_call t.hold (hη.mono (s1.trans t).sub) (.cons (.ref x) (r1.mono t.sub)) h2 h3 fun d O' h v F' H' s r => ?_
  obtain ⟨rfl, h4⟩ := h
  cases r
  exact ⟨rfl, hQ _ _ h4 _ _ _ ((s1.trans t).trans s) (.ref x)⟩
theorem callK_chase {m : Nat} (q : lE K W (wCallK fs n m EX wa wk) σ H Q) : tCallNS n m (spD K W.toWc (n + m) fs) (fun vs zs => vs ++ zs) (L2.WE (wX K W EX)) (lA K W wa) (lA K W wk) σ H Q := by
  obtain ⟨F, O, η, Q0, hH, hη, hw, hQ⟩ := q
  refine ⟨F, O, η, _, hH, hη, hw, fun ds O1 h1 vs F1 H1 s1 r1 => ?_⟩
  refine ⟨F1, O1, η, _, s1.hold, hη.mono s1.sub, h1, fun es O2 h2 ws F2 H2 s2 r2 => ?_⟩
  obtain ⟨h3, h4, h5⟩ := h2
  refine ⟨by rw [r1.length, h3], by rw [r2.length, h4], ?_⟩
  exact sp_call s2.hold ((hη.mono s1.sub).mono s2.sub) ((r1.mono s2.sub).append r2) (by rw [List.length_append, h3, h4]) h5 fun d O' h => (hQ d O' h).mono (s1.trans s2)
end
end Sw

set_option maxRecDepth 100000
set_option maxHeartbeats 4000000
namespace Sw
open PySem PySem.Spec PyProof.Rows L2
/-! ### defs by what they promise -/
section
variable (P : Program) (w : World) (K : PySem.W.Frag) (mg : Str → Option Value) (base : Heap) (W : Wc)
/-- the module's function x: n parameters, depth k; ts: the defaults that fill up -/
structure Fn (x : Str) (n k : Nat) (ts : List D) (fs : FS) : Prop where
  ex : ∃ (f : Addr) (fd : FuncData) (ps : List Str) (dvs : List V) (ds : List Value), mg x = some (.ref f) ∧ PySem.W.keepIn K (.ref f) = true ∧ FnOk P w K mg base (L2.CX P w) k f fd ps (spD K W n fs) ∧ Binds K fd ps ds ∧ Vals dvs ds ∧ ∀ F, RepL K F dvs ts
/-- .. called with n positional values and m keywords, named ks -/
structure FnK (x : Str) (n m k : Nat) (ks : List Str) (fs : FS) : Prop where
  ex : ∃ (f : Addr) (fd : FuncData) (ps : List Str) (g : List Value → List Value → List Value), mg x = some (.ref f) ∧ PySem.W.keepIn K (.ref f) = true ∧ FnOk P w K mg base (L2.CX P w) k f fd ps (spD K W (n + m) fs) ∧ KBn K fd ps n ks g (fun vs zs => vs ++ zs) ∧ ks.length = m
/-- the method m of the class c -/
structure Mt (c m : Str) (n k : Nat) (fs : FS) : Prop where
  ex : ∃ (f : Addr) (fd : FuncData) (ps : List Str), Meth K (W.cA c) m f ∧ FnOk P w K mg base (L2.CX P w) k f fd ps (spD K W n fs) ∧ Binds K fd ps []
/-- the class c, made by its __init__ -/
structure Mkc (c x : Str) (n k : Nat) (fs : FS) : Prop where
  ex : ∃ (f : Addr) (fd : FuncData) (ps : List Str), mg x = some (.ref (W.cA c)) ∧ Mk K (W.cA c) f ∧ FnOk P w K mg base (L2.CX P w) k f fd ps (spD K W n fs) ∧ Binds K fd ps []
end
section
variable {X : Cx} {W : Wd} {pos p apos : Pos} {e o : Expr} {es : List Expr} {x m c : Str} {n k mm : Nat} {ts : List D} {fs : FS} {EX : XS} {wa wk : WA} {wo : WE} {ks : List Str} {kws : List Keyword}
theorem nil_chase {K : PySem.W.Frag} : ∀ σ H Q, lA K W wNil σ H Q → tNil σ H Q := fun σ H Q q => by
  obtain ⟨F, O, η, Q0, hH, hη, hw, hQ⟩ := q
  exact hQ _ _ hw _ F H (Step.refl hH) .nil
theorem k_nil : PK X [] (lA X.K W wNil) := ⟨fun pos pins s σ H Q I q => pk_nil.run pos pins s σ H Q I (nil_chase _ _ _ q)⟩
theorem k_cons {w : WE} {r : WA} {nm : Option Str} {kpos : Pos} (ha : Pe X W e w) (hr : PK X kws (lA X.K W r)) : PK X (⟨nm, e, kpos⟩ :: kws) (lA X.K W (wCons w r)) := ⟨fun pos pins s σ H Q I q => (pk_cons ha hr).run pos pins s σ H Q I (by
  obtain ⟨F, O, η, Q0, hH, hη, hw, hQ⟩ := q
  refine ⟨F, O, η, _, hH, hη, hw, fun d O1 h1 v F1 H1 s1 r1 => ?_⟩
  refine ⟨F1, O1, η, _, s1.hold, hη.mono s1.sub, h1, fun ds O2 h2 vs F2 H2 s2 r2 => ?_⟩
  exact hQ _ _ h2 _ F2 H2 (s1.trans s2) (.cons (r1.mono s2.sub) r2))⟩
theorem x_call (F : Fn X.prog X.w X.K X.mg X.base W.toWc x n k ts fs) (hr : Room k X.A) (tk : TkD X W EX) (ha : Pa X W (e :: es) wa) (hg : Gl X x := by rfl)
    (hdb : (x == ("__debug__" : Str)) = false := by decide) (he : starEach (e :: es) X.env = (false, eval e X.env) :: starEach es X.env := by rfl) (hpl : (backTo pos (starEach es X.env)).any (·.1) = false := by rfl) :
    Pe X W (.Call (.Name x p) (e :: es) [] pos) (wCallF fs n ts EX wa) := by
  obtain ⟨f, fd, ps, dvs, ds, hm, hk, ok, hb, hd, hdd⟩ := F.ex
  exact PE.imp (pe_callSD ok hr hg hm hk hb hd (fun σ => passAt tk σ) ha hdb he hpl) fun _ _ _ q => callF_chase hdd q
theorem x_call0 (F : Fn X.prog X.w X.K X.mg X.base W.toWc x n k ts fs) (hr : Room k X.A) (tk : TkD X W EX) (hg : Gl X x := by rfl)
    (hdb : (x == ("__debug__" : Str)) = false := by decide) : Pe X W (.Call (.Name x p) [] [] pos) (wCallF fs n ts EX wNil) := by
  obtain ⟨f, fd, ps, dvs, ds, hm, hk, ok, hb, hd, hdd⟩ := F.ex
  refine PE.imp (pe_callS0 ok hr hg hm hk hb hd (fun σ => passAt tk σ) hdb) fun σ H Q q => ?_
  obtain ⟨F, O, η, Q0, hH, hη, hw, hQ⟩ := q
  exact sp_call hH hη (hdd F) hw.1 hw.2 hQ
theorem x_callK (F : FnK X.prog X.w X.K X.mg X.base W.toWc x n mm k ks fs) (hr : Room k X.A) (tk : TkD X W EX) (ha : Pa X W (e :: es) wa) (hkw : PK X kws (lA X.K W wk)) (hg : Gl X x := by rfl)
    (hall : (backToKw pos (keywordEach kws X.env)).all (·.1.isSome) = true := by rfl) (hks : (backToKw pos (keywordEach kws X.env)).filterMap (·.1) = ks := by rfl)
    (hdb : (x == ("__debug__" : Str)) = false := by decide) (he : starEach (e :: es) X.env = (false, eval e X.env) :: starEach es X.env := by rfl)
    (hpl : ((backTo pos (starEach (e :: es) X.env)).any (·.1) || (backToKw pos (keywordEach kws X.env)).any (·.1.isNone)) = false := by rfl) : Pe X W (.Call (.Name x p) (e :: es) kws pos) (wCallK fs n mm EX wa wk) := by
  obtain ⟨f, fd, ps, g, hm, hk, ok, hb, rfl⟩ := F.ex
  exact PE.imp (pe_callNS ok hr hg hm hk hb (fun σ => passAt tk σ) ha hkw hall hks hdb he hpl) fun _ _ _ q => callK_chase q
theorem x_meth {pl : Sem Bool} (F : Mt X.prog X.w X.K X.mg X.base W.toWc c m n k fs) (cf : ClsF X.K W.toWc c) (hl : m ∉ W.lay c) (hr : Room k X.A) (tk : TkD X W EX) (ho : Pe X W o wo) (ha : Pa X W (e :: es) wa)
    (hst : starEach (e :: es) X.env = (false, eval e X.env) :: starEach es X.env := by rfl) (hpl : (backTo pos (starEach es X.env)).any (·.1) = false := by rfl)
    (ht : eval (.Call (.Attribute o m apos) (e :: es) [] pos) X.env = (do
      let ov ← eval o X.env
      standAt apos.atName
      let (f, first) ← holding [ov] (getMethod ov m pl)
      callWith pos f first (backTo pos (starEach (e :: es) X.env)) (backToKw pos (keywordEach [] X.env))) := by rfl) : Pe X W (.Call (.Attribute o m apos) (e :: es) [] pos) (wMeth c fs n EX wo wa) := by
  obtain ⟨f, fd, ps, hm, ok, hb⟩ := F.ex
  exact PE.imp (pe_methS ho cf.cl hm ok hr hb .nil (fun σ => passAt tk σ) ha hst hpl ht) fun _ _ _ q => meth_chase hl (fun _ _ _ z => z) q
theorem x_meth0 {pl : Sem Bool} (F : Mt X.prog X.w X.K X.mg X.base W.toWc c m n k fs) (cf : ClsF X.K W.toWc c) (hl : m ∉ W.lay c) (hr : Room k X.A) (tk : TkD X W EX) (ho : Pe X W o wo)
    (ht : eval (.Call (.Attribute o m apos) [] [] pos) X.env = (do
      let ov ← eval o X.env
      standAt apos.atName
      let (f, first) ← holding [ov] (getMethod ov m pl)
      callWith pos f first (backTo pos (starEach [] X.env)) (backToKw pos (keywordEach [] X.env))) := by rfl) : Pe X W (.Call (.Attribute o m apos) [] [] pos) (wMeth c fs n EX wo wNil) := by
  obtain ⟨f, fd, ps, hm, ok, hb⟩ := F.ex
  exact PE.imp (pe_methS0 ho cf.cl hm ok hr hb .nil (fun σ => passAt tk σ) ht) fun σ H Q q => meth_chase hl nil_chase q
theorem x_make (F : Mkc X.prog X.w X.K X.mg X.base W.toWc c x n k fs) (hr : Room (k + 1) X.A) (tk : TkD X W EX) (ha : Pa X W (e :: es) wa) (hg : Gl X x := by rfl)
    (hdb : (x == ("__debug__" : Str)) = false := by decide) (he : starEach (e :: es) X.env = (false, eval e X.env) :: starEach es X.env := by rfl) (hpl : (backTo pos (starEach es X.env)).any (·.1) = false := by rfl) :
    Pe X W (.Call (.Name x p) (e :: es) [] pos) (wMake c fs n EX wa) := by
  obtain ⟨f, fd, ps, hm, mk, ok, hb⟩ := F.ex
  exact PE.imp (pe_makeS mk ok hr hg hm hb .nil (fun σ => passAt tk σ) ha hdb he hpl) fun _ _ _ q => make_chase q
end
/-! ### a def keeps its promise -/
/-- objects that nobody wants any more are forgotten -/
def rtL (Q : QD) : D → (O : OS) → PKp (Q, O) := fun d O => ∃ O', (∀ a o, O' a = some o → O a = some o) ∧ Q d O'
def startD (n : Nat) (ds : List D) : Sl := ds.map some ++ List.replicate (n - ds.length) none
/-- what a body does, as a promise -/
def fsOf (n : Nat) (w : XS → WS) : FS := fun ds O Q E => w (fun c xs _ O' => E c xs O') { nx := fun _ O' => rtL Q .non O', rt := rtL Q } (startD n ds) O
section
variable {P : Program} {w : World} {K : PySem.W.Frag} {mg : Str → Option Value} {base : Heap} {W0 : Wc} {x qual : Str} {params : Arguments} {body : List Stmt} {scope : Scope} {dvs : List V} {kws : List (Str × V)} {f : Addr} {fd : FuncData}
theorem fn_ok {N ps : List Str} {k n : Nat} {wb : XS → WS} (F : FunD K x qual params body scope dvs kws f fd) (S : FnScope N ps scope) (hn : ps.length = n)
    (hb : ∀ (R : OS → Hp → Hp → Prop) (cl : ∀ {O : OS} {F H : Hp} {O' : OS} {F' H' : Hp}, R O F H → Way O F H O' F' H' → R O' F' H') (cdv : Value) (A : Around) (outer : List Env) (s : Shared) (H : Hp) (E : XK) (EX : XS),
      Room k (A.deeper (envOfC qual scope s.heap.objs.size f cdv)) → TkD (cxOf (L2.CX P w) P w K mg base N qual scope f cdv A outer s H E) ⟨W0, R, cl⟩ EX → Pss (cxOf (L2.CX P w) P w K mg base N qual scope f cdv A outer s H E) ⟨W0, R, cl⟩ body (wb EX)) :
    FnOk P w K mg base (L2.CX P w) (k + 1) f fd ps (spD K W0 n (fsOf N.length wb)) := by
  refine F.ok S (fun vs H Q E h => by rw [h.len, hn]) fun cdv A outer s H vs Q E hr hsp => ?_
  obtain ⟨F0, O, ds, Q0, E0, hH, r, hl, hw, hQ, hE⟩ := hsp
  let W : Wd := ⟨W0, fun O' F' H' => Way O F0 H O' F' H', fun a b => a.trans b⟩
  refine ⟨lS K W (wb fun c xs _ O' => E0 c xs O'), hb _ _ cdv A outer s H E _ hr ?_, ?_⟩
  · refine Takes.imp (takes_of (E := E) rfl rfl rfl rfl) fun cls d σ H' q => ?_
    obtain ⟨O', F', η, c, xs, h1, _, h2, h3⟩ := q
    exact hE c xs O' h3 cls d F' H' h1.rel h1.toHoldC h2
  · have fin : ∀ {d : D} {O' : OS} {v : V} {F' H' : Hp}, rtL Q0 d O' → Step K W O F0 H O' F' H' → Rep K F' v d → Q v H' := fun {d O' v F' H'} h s r => by
      obtain ⟨O2, l, h2⟩ := h
      exact hQ d O2 h2 v F' H' (s.toWay.trans (Way.less l)) (s.hold.toHoldC.less l) r
    refine ⟨F0, O, startD N.length ds, _, ⟨hH, Way.refl O F0 H⟩, ?_, hw, ⟨fun η O' h σ F' H' s _ => fin h s .non, fun d O' h v F' H' s r => fin h s r, fun _ _ h => h.elim, fun _ _ h => h.elim⟩⟩
    unfold startD L2.start
    rw [r.length]
    exact r.envR
end
/-! ### raise -/
def sRaise (c : Str) (EX : XS) : WS := fun _ η O => EX c [] η O
def sRaise1 (c : Str) (EX : XS) (wa : WA) : WS := fun _ η O => wa η O fun ds O1 => ds.length = 1 ∧ EX c ds η O1
section
variable {X : Cx} {W : Wd} {pos p pos' : Pos} {x c : Str} {EX : XS} {e : Expr} {wa : WA}
theorem pmk_own0 {C : Addr} {bmB : List Value} {B newId initId : String} (F : ExcBaseFacts B newId initId bmB) (q : PySem.W.excIn X.K C bmB newId = true) (gC : X.mg x = some (.ref C)) (kC : PySem.W.keepIn X.K (.ref C) = true) (r : Raises X (.ref C)) (hg : Gl X x)
    (hdb : (x == ("__debug__" : Str)) = false := by decide) : PMk X (.Call (.Name x p) [] [] pos) (fun _ H Q => Q (.ref C) none H) := by
  intro pins s σ H Q I h
  refine wpAny_Call_Name_kw (ld_glob I hg gC ?_ hdb)
  refine PySem.W.callWith_K0 I.kIn kC ?_
  show wpAny _ _ (call (.ref C) []) _ _ _
  obtain ⟨bm, N, nm, qn, bs, hdct, sn, sub, ab, col, dd, k0, k1, k2, k3, k5, mN, hC, hN, hni, T⟩ := exc_obj I.kIn q
  refine wpAny_call_exc_subT F T hC hN hni (fun h' e hm => ?_) (by show 0 ≤ sizeLine; rw [sizeLine_eq]; omega)
  exact mk_of I hm r h (I.hok.gone hm.new)
/-- a class of exceptions without __init__ -/
structure Exc0 (K : PySem.W.Frag) (mg : Str → Option Value) (W : Wc) (c x : Str) : Prop where
  gl : mg x = some (.ref (W.cA c))
  ok : PySem.W.excIn K (W.cA c) He.veBase "ValueError.__new__" = true ∧ PySem.W.keepIn K (.ref (W.cA c)) = true ∧ PySem.W.subIn K (.ref (W.cA c)) (.type "BaseException") = some true ∧ PySem.W.typeIn K (.ref (W.cA c)) = some (.type "type")
theorem s_raise (C : Exc0 X.K X.mg W.toWc c x) (hc : X.calm = true) (tk : TkD X W EX) (hg : Gl X x := by rfl) (hdb : (x == ("__debug__" : Str)) = false := by decide) : Ps X W (.Raise (some (.Call (.Name x p) [] [] pos)) none pos') (sRaise c EX) := by
  obtain ⟨h1, h2, h3, h4⟩ := C.ok
  refine PS.imp (ps_raise hc tk (pmk_own0 F.excBase_ValueError h1 C.gl h2 (raises_own h3 h4) hg hdb)) fun E σ H q => ?_
  obtain ⟨F, O, η, f, hH, hη, hw, g⟩ := q
  exact ⟨O, F, η, c, [], hH, hη, .bare c, hw⟩
/-- def __init__(self, f): self.f = f -/
def spI (C : Addr) (f : Str) : Sp := fun vs H Q _ => ∃ a v, vs = [.ref a, v] ∧ H a = some (exo a C none) ∧ ∀ dx, H dx = none → dx ≠ a → Q .non (upd (upd H dx (exd dx [(f, v)])) a (exo a C (some dx)))
theorem ini_ok {P : Program} {w : World} {K : PySem.W.Frag} {mg : Str → Option Value} {base : Heap} {xn qual s v f : Str} {params : Arguments} {scope : Scope} {fI C : Addr} {fd : FuncData} {p1 p2 p3 p4 : Pos}
    (F : FunD K xn qual params [.Assign [.Attribute (.Name s p1) f p2] (.Name v p3) p4] scope [] [] fI fd) (S : FnScope [s, v] [s, v] scope) (T : OexC K C) (hno : PySem.W.findIn K (.ref C) f = some none)
    (h1 : scope.names.lookup s = some .local) (h2 : scope.names.lookup v = some .local) (hd1 : (s == ("__debug__" : Str)) = false) (hd2 : (v == ("__debug__" : Str)) = false) (hc1 : (s == ("__classdict__" : Str)) = false) (hc2 : (v == ("__classdict__" : Str)) = false)
    (hs : ∀ (env : Env), swapsWith (.Name v p3) (some (.Attribute (.Name s p1) f p2)) p4.line env = pure false) : FnOk P w K mg base (L2.CX P w) 1 fI fd [s, v] (spI C f) := by
  refine F.ok S (fun vs H Q E h => ?_) fun cdv A outer st H vs Q E hr h => ?_
  · obtain ⟨a, v, rfl, _⟩ := h
    rfl
  · refine ⟨_, pss_one (ps_ost (pe_var (i := 0) rfl (.inl h1) hd1 hc1) (pe_var (i := 1) rfl (.inl h2) hd2 hc2) (hs _)), ?_⟩
    obtain ⟨a, y, rfl, ha, hq⟩ := h
    exact ⟨_, rfl, _, rfl, a, C, rfl, T, hno, .inl ⟨ha, fun dx n ne => hq dx n ne⟩⟩
/-- a class of exceptions with one field, told to __init__ -/
structure Exc1 (P : Program) (w : World) (K : PySem.W.Frag) (mg : Str → Option Value) (base : Heap) (W : Wc) (c x f : Str) : Prop where
  gl : mg x = some (.ref (W.cA c))
  lay : W.lay c = [f]
  ox : OexC K (W.cA c)
  ini : ∃ (fI : Addr) (fd : FuncData) (ps : List Str), PySem.W.findIn K (.ref (W.cA c)) "__init__" = some (some (.ref fI)) ∧ PySem.W.typeIn K (.ref fI) = some (.type "function") ∧ FnOk P w K mg base (L2.CX P w) 1 fI fd ps (spI (W.cA c) f) ∧ Binds K fd ps []
theorem s_raise1 {f : Str} {es : List Expr} (C : Exc1 X.prog X.w X.K X.mg X.base W.toWc c x f) (hc : X.calm = true) (hr : Room 2 X.A) (tk : TkD X W EX) (ha : Pa X W (e :: es) wa) (hg : Gl X x := by rfl) (hdb : (x == ("__debug__" : Str)) = false := by decide)
    (he : starEach (e :: es) X.env = (false, eval e X.env) :: starEach es X.env := by rfl) (hpl : (backTo pos (starEach es X.env)).any (·.1) = false := by rfl) : Ps X W (.Raise (some (.Call (.Name x p) (e :: es) [] pos)) none pos') (sRaise1 c EX wa) := by
  obtain ⟨fI, fd, ps, h1, h2, h3, h4⟩ := C.ini
  refine PS.imp (ps_raise hc tk (pmk_oex (k := 1) C.ox h1 h2 h3 hr h4 .nil (passes_call (E := fun _ _ _ => False) tk fun _ _ _ _ z => z.elim) hg C.gl ha hdb he hpl)) fun E σ H q => ?_
  obtain ⟨F, O, η, fi, hH, hη, hw, g⟩ := q
  refine ⟨F, O, η, _, hH, hη, hw, fun ds O1 h1 vs F1 H1 s1 r1 => ?_⟩
  obtain ⟨h1, h2⟩ := h1
  have hlen := r1.length
  rw [h1] at hlen
  refine ⟨by omega, fun a ha => ?_⟩
  cases r1 with
  | nil => cases h1
  | cons r r' =>
    cases r' with
    | cons _ _ => cases h1
    | nil =>
      rename_i v d
      refine ⟨a, v, rfl, upd_same, fun dx n ne => ?_⟩
      have hdx : H1 dx = none := by
        rw [upd_ne ne] at n
        exact n
      have eq : upd (del (upd (upd (upd H1 a (exo a (W.cA c) none)) dx (exd dx [(f, v)])) a (exo a (W.cA c) (some dx))) a) dx (.xd [(f, v)]) = upd H1 dx (.xd [(f, v)]) := by
        funext b
        by_cases hb : b = dx
        · rw [hb, upd_same, upd_same]
        · rw [upd_ne hb, upd_ne hb]
          by_cases hb2 : b = a
          · rw [hb2, del_same, ha]
          · rw [del_ne hb2, upd_ne hb2, upd_ne hb, upd_ne hb2]
      refine ⟨rfl, dx, [(f, v)], upd_same, ?_, hdx, ?_⟩
      · rw [upd_ne ne, upd_same]
      · rw [eq]
        have s2 := Step.newH (u := .xd [(f, v)]) s1.hold hdx
        exact ⟨O1, F1, η, c, [d], s2.hold, hη.mono s1.sub, .fld C.lay upd_same (s1.hold.toHoldC.freshF hdx) (s1.hold.toHoldC.freshO hdx) r, h2⟩
end
end Sw

set_option maxRecDepth 100000
set_option maxHeartbeats 4000000
/-! set(l) of a list of ints: the layer's rule for tuples, turned to lists -/
namespace Sw
open PySem PySem.Spec PyProof.Rows L2
section
variable {P : Program} {w : World} {A : Around} {E : Value → Shared → Prop} {s : Shared}
set_option maxRecDepth 100000 in
set_option maxHeartbeats 3200000 in
theorem call_set_lstI {l : Addr} {items : Array Value} (ns : List Int) {Q : Value → Shared → Prop} (hh : A.handled = none) (hl : s.heap.IsList l items) (hit : IntsAre items.toList ns) (hb : ns.length + 1 < scanBound)
    (h : ∀ (h' : Heap) (tk c : Nat), SetR w h' s.heap.objs.size (fun j => decide (j ∈ ns)) c → c ≤ ns.length → (∀ b o, s.heap.get? b = some o → h'.get? b = some o) → Q (.ref s.heap.objs.size) { s with heap := h', toks := tk }) :
    wpAny (model P w) A (call (.type "set") [.ref l]) Q E s := by
  have hisz : items.size = ns.length := by
    have q := IntsAre.length hit
    rw [Array.length_toList] at q
    exact q
  obtain ⟨c, tl, hmro⟩ := F.called_set.mro
  have hmade := F.called_set.made
  have hsub := F.called_set.sub
  refine wpAny_call (codeAny_of_tree ?_)
  show wpAny _ _ (callAny (.type "set") _) _ _ _
  refine wpAny_pure ⟨Code.quiet_builtin _ (by decide +kernel), codeAny_builtin F.entry_type_call ?_⟩
  rw [Around.under_plain (weight_type_call_type "set" [.ref l] []) rfl]
  have h1 := F.called_set.notType
  have h2 := F.called_set.canCreate
  have hct := F.typeCall_set_1 (.ref l)
  repeat (any_goals (first | assumption | wp_step))

  refine codeAny_mono (code_set_led1 (.ref l) (E := E) (Q₁ := fun obj s₁ => obj = .ref s.heap.objs.size ∧ s₁ = { s with heap := s.heap.push { cls := .type "set", dict := none, data := .set #[] 0 (.fresh 0 0 (!w.params.followText "set-order")) } }) ⟨rfl, rfl⟩) fun r s₁ hr => ?_
  cases r with
  | error e => exact hr
  | ok fl =>
    cases fl with
    | ret obj =>
      obtain ⟨rfl, rfl⟩ := hr
      have hS : (s.heap.push { cls := .type "set", dict := none, data := .set #[] 0 (.fresh 0 0 (!w.params.followText "set-order")) }).get? s.heap.objs.size = some { cls := .type "set", dict := none, data := .set #[] 0 (.fresh 0 0 (!w.params.followText "set-order")) } := Heap.get?_push_size _ rfl
      have hT : Shared.TypeIs { s with heap := s.heap.push { cls := .type "set", dict := none, data := .set #[] 0 (.fresh 0 0 (!w.params.followText "set-order")) } } (.ref s.heap.objs.size) "set" := ⟨_, hS, rfl⟩
      have hli := F.called_set.init.lookup
      have hbi := F.called_set.init.bind (.ref s.heap.objs.size)
      repeat (any_goals (first | assumption | wp_step))

      refine codeAny_mono (codeAny_call_builtin (R := wants (fun r s₂ => r = .none ∧ ∃ h' tk c, s₂ = { s with heap := h', toks := tk } ∧ SetR w h' s.heap.objs.size (fun j => decide (j ∈ ns)) c ∧ c ≤ ns.length ∧
          (∀ b o, s.heap.get? b = some o → h'.get? b = some o)) E) F.called_set.init.plain F.entry_set_init (check_set_init_1 hT ?_)) fun r₂ s₂ hr₂ => ?_
      · obtain ⟨ol, hol, hcl, nl, hdl⟩ := hl
        obtain ⟨ocls, odict, odata, oslots⟩ := ol
        simp only at hcl hdl
        subst hcl; subst hdl
        have hol' : (s.heap.push { cls := .type "set", dict := none, data := .set #[] 0 (.fresh 0 0 (!w.params.followText "set-order")) }).get? l = some { cls := .type "list", dict := odict, data := .seq items nl, slots := oslots } := Heap.get?_push_of_some _ hol
        have hsls := F.sub_list_set
        have hslf := F.sub_list_frozenset
        have hne : (Value.type "list" == Value.type "dict") = false := by decide
        have hl1 : (s.heap.push { cls := .type "set", dict := none, data := .set #[] 0 (.fresh 0 0 (!w.params.followText "set-order")) }).IsList l items := ⟨_, hol', rfl, nl, rfl⟩
        unfold Builtin.«set.__init__» noKeywords Builtin.Frozenset.updateFrom
        generalize hPI : pyIter = PI
        wp_walk
        subst hPI

        refine wpAny_pyIter_list hl1 ?_
        refine wpAny_bind (wpAny_runValue ?_)
        have hlS : l < s.heap.objs.size := Heap.lt_size hol
        have hh3 : A.in1.in1.in1.handled = none := by simp [hh]
        have hz1 : (s.heap.push { cls := .type "set", dict := none, data := .set #[] 0 (.fresh 0 0 (!w.params.followText "set-order")) }).objs.size = s.heap.objs.size + 1 := Heap.size_push ..
        have hneI : l ≠ (s.heap.push { cls := .type "set", dict := none, data := .set #[] 0 (.fresh 0 0 (!w.params.followText "set-order")) }).objs.size := by
          rw [Heap.size_push]; exact Nat.ne_of_lt (Nat.lt_succ_of_lt hlS)
        have hSf : s.heap.objs.size ∉ [(s.heap.push { cls := .type "set", dict := none, data := .set #[] 0 (.fresh 0 0 (!w.params.followText "set-order")) }).objs.size, l] := by
          rw [Heap.size_push]; simp only [List.mem_cons, List.mem_singleton, List.not_mem_nil, or_false, not_or]
          exact ⟨Nat.ne_of_lt (Nat.lt_succ_self _), Nat.ne_of_gt hlS⟩
        have hval : ∀ (i : Nat) (v : Value), items[i]? = some v → ∃ k t, ns[i]? = some k ∧ v = .int k t := fun i v hv => by
          have hi : i < ns.length := by rw [← hisz]; exact (Array.getElem?_eq_some_iff.mp hv).1
          obtain ⟨t, e⟩ := PyProof.Rows.IntsAre.int_at hit i v (by rw [Array.getElem?_toList]; exact hv)
          refine ⟨ns[i], t, List.getElem?_eq_getElem hi, ?_⟩
          rw [e, List.getD_eq_getElem?_getD, List.getElem?_eq_getElem hi] <;> rfl
        refine set_update_ints ((Walks.list hh3 _ l hneI items).toS) s.heap.objs.size
          hSf ns hisz hb hval (items.size - 0) 0 _ (by omega) (Nat.zero_le _)
          ⟨⟨_, Heap.get?_push_size _ rfl, rfl, rfl⟩, (hl1.push _)⟩ ?hS0 ?hR
        case hS0 =>
          have hget : ((s.heap.push { cls := .type "set", dict := none, data := .set #[] 0 (.fresh 0 0 (!w.params.followText "set-order")) }).push { cls := .type "list_iterator", data := .fields #[.ref l, .int 0 0] }).get? s.heap.objs.size
              = some { cls := .type "set", dict := none, data := .set #[] 0 (.fresh 0 0 (!w.params.followText "set-order")) } := Heap.get?_push_of_some _ hS
          exact ⟨0, Nat.le_refl 0, setR_new_at hget⟩
        case hR =>
          intro s' c' hm hc' hS'
          obtain ⟨h', g2, d', tk', os'⟩ := s'
          have eg : g2 = s.gens := hm.gens
          have ed : d' = s.drawn := hm.drawn
          have eo : os' = s.os := hm.os
          subst eg; subst ed; subst eo
          show wpAny _ _ _ _ _ _
          refine wpAny_pure ?_
          show wpAny _ _ (ret Value.none) _ _ _
          rw [hisz] at hc'
          refine wpAny_pure ⟨rfl, h', tk', c', rfl, hS', hc', fun b o e => ?_⟩
          have hb0 : b < s.heap.objs.size := Heap.lt_size e
          have hb1 : b ≠ s.heap.objs.size := Nat.ne_of_lt hb0
          have hb2 : b ≠ (s.heap.push { cls := .type "set", dict := none, data := .set #[] 0 (.fresh 0 0 (!w.params.followText "set-order")) }).objs.size := by
            rw [Heap.size_push]; exact Nat.ne_of_lt (Nat.lt_succ_of_lt hb0)
          exact hm.heap b o (by simp only [List.mem_cons, List.mem_singleton, List.not_mem_nil, or_false, not_or]; exact ⟨hb1, hb2⟩) (Heap.get?_push_of_some _ (Heap.get?_push_of_some _ e))

      · cases r₂ with
        | error e => exact hr₂
        | ok fl₂ =>
          cases fl₂ with
          | ret r =>
            obtain ⟨rfl, h', tk, c', rfl, hS', hc', hk'⟩ := hr₂
            repeat (any_goals (first | assumption | wp_step))
            exact h _ _ _ hS' hc' hk'
          | _ => exact hr₂.elim
    | _ => exact hr.elim


end
/-- the members, each once -/
def Mem (ns : List Int) (c : Nat) : Prop := ∃ ks : List Int, ks.Nodup ∧ (∀ k, k ∈ ks ↔ k ∈ ns) ∧ ks.length = c
theorem mem_of {w : World} {h : Heap} {a : Addr} {ns : List Int} {c : Nat} (R : SetR w h a (fun j => decide (j ∈ ns)) c) : Mem ns c := by
  obtain ⟨o, es, ep, t, ho, hex, hdt, g, nd, hm2, hb, hf, hn, hr, hl2⟩ := R
  exact ⟨es.toList.map keyOf, nd, fun k => by rw [← hm2 k, decide_eq_true_eq], by rw [List.length_map, Array.length_toList, hn]⟩
section
variable {X : Cx} {W : Wd} {pos p p2 q : Pos} {e : Expr} {w : WE}
/-- set(l) -/
def rSetI (K : PySem.W.Frag) (w : World) : List V → Hp → VK → Prop := fun xs H Q => ∃ (l : Addr) (ns : List Int), xs = [.ref l] ∧ (SqL K H l (ns.map V.int) ∨ SqT K H l (ns.map V.int)) ∧ ns.length + 1 < scanBound ∧
  ∀ p c, H p = none → Mem ns c → c ≤ ns.length → Q (.ref p) (upd H p (SetO w p (fun j => decide (j ∈ ns)) c))
theorem cr_setI (hc : X.calm = true) : CallR X (.type "set") (rSetI X.K X.w) := by
  intro pins s σ H xs us Q I r h
  obtain ⟨l, ns, rfl, hq, hb, hQ⟩ := h
  rw [Vals.ref1 r]
  have hd := I.ok.hd hc
  have fin : ∀ (h' : Heap) (tk c : Nat), SetR X.w h' s.heap.objs.size (fun j => decide (j ∈ ns)) c → c ≤ ns.length → (∀ b o, s.heap.get? b = some o → h'.get? b = some o) → EP X pins σ Q (.ref s.heap.objs.size) { s with heap := h', toks := tk } := fun h' tk c R hcn k =>
    ⟨.ref _, upd H s.heap.objs.size (SetO X.w s.heap.objs.size (fun j => decide (j ∈ ns)) c), I.laid (t' := tk) k (Nat.le_refl _) (setO_new R), rfl, hQ _ _ (I.hok.fresh (Nat.le_refl _)) (mem_of R) hcn⟩
  rcases hq with hq | hq
  · obtain ⟨its, rv, pl, hz⟩ := I.list hq
    exact call_set_lstI ns hd pl.isList (by simpa using ints_of_vals rv) hb fin
  · obtain ⟨its, rv, pl, hz⟩ := I.tuple hq
    exact call_set_tupI ns hd pl (by simpa using ints_of_vals rv) hb fin
def rLenSetO (w : World) : List V → Hp → VK → Prop := fun xs H Q => ∃ (a : Addr) (S : Int → Bool) (n : Nat), xs = [.ref a] ∧ H a = some (SetO w a S n) ∧ Q (.int n) H
theorem cr_lenSet : CallR X (.builtin "len") (rLenSetO X.w) := by
  intro pins s σ H xs us Q I r h
  obtain ⟨a, S, n, rfl, ha, q⟩ := h
  rw [Vals.ref1 r]
  obtain ⟨o, es, ep, t, ho, hex, hdt, g, nd, hm2, hb, hf, hn, hr, hl2⟩ := setO_get I ha
  refine call_len_set ho hex hdt hf (by unfold scanBound at hb; omega) ⟨.int n, H, I.tok _, ⟨_, by rw [hn]⟩, q⟩
/-- the ints of a list or tuple -/
def seqI (O : OS) : D → Option (List Int)
  | .tup l => intsD l
  | d => (asR O d).bind intsD
/-- len(set(e)) -/
def wLenSet (w : WE) : WE := fun η O Q => w η O fun d O1 => match seqI O1 d with
  | some ns => ns.length + 1 < scanBound ∧ ∀ c, Mem ns c → Q (.int (c : Nat)) O1
  | none => False
/-- sorted(set(e)) -/
def wSortSet (w : WE) : WE := fun η O Q => w η O fun d O1 => match seqI O1 d with
  | some ns => ns.length < 64 ∧ ∀ ks : List Int, ks.Pairwise (· < ·) → (∀ k, k ∈ ks ↔ k ∈ ns) → Q (.lst (ks.map .int)) O1
  | none => False
theorem repL_ints {K : PySem.W.Frag} {F : Hp} : ∀ {vs : List V} {ns : List Int}, RepL K F vs (ns.map D.int) → vs = ns.map V.int
  | _, [], .nil => rfl
  | _, n :: ns, .cons h r => by
    rw [rep_int h, repL_ints r]
    rfl
theorem repL_of_ints {K : PySem.W.Frag} {F : Hp} : ∀ (ns : List Int), RepL K F (ns.map V.int) (ns.map D.int)
  | [] => .nil
  | n :: ns => .cons (.int n) (repL_of_ints ns)
theorem seqI_at {K : PySem.W.Frag} {O : OS} {F H : Hp} {v : V} {d : D} {ns : List Int} (hH : Hold K W O F H) (r : Rep K F v d) (e : seqI O d = some ns) : ∃ l, v = .ref l ∧ (SqL K H l (ns.map V.int) ∨ SqT K H l (ns.map V.int)) := by
  by_cases ht : ∃ l, d = .tup l
  · obtain ⟨l, rfl⟩ := ht
    obtain ⟨a, xs, rfl, h1, h2⟩ := tup_at hH r
    have e2 := intsD_eq (show intsD l = some ns from e)
    subst e2
    rw [repL_ints h2] at h1
    exact ⟨a, rfl, .inr h1⟩
  · have e' : (asR O d).bind intsD = some ns := by
      cases d <;> first | exact e | exact absurd ⟨_, rfl⟩ ht
    obtain ⟨l, h1, h2⟩ := Option.bind_eq_some_iff.mp e'
    obtain ⟨a, xs, rfl, h3, h4⟩ := asR_at hH r h1
    have e2 := intsD_eq h2
    subst e2
    rw [repL_ints h4] at h3
    exact ⟨a, rfl, .inl h3⟩
theorem x_lenSet (hc : X.calm = true) (hm : X.mg "len" = none) (hm2 : X.mg "set" = none) (h : Pe X W e w) (hg : Gl X "len" := by rfl) (hg2 : Gl X "set" := by rfl)
    (na : starEach [e] X.env = (false, eval e X.env) :: starEach [] X.env := by rfl)
    (nb : starEach [Expr.Call (.Name "set" p2) [e] [] q] X.env = (false, eval (.Call (.Name "set" p2) [e] [] q) X.env) :: starEach [] X.env := by rfl) : Pe X W (.Call (.Name "len" p) [.Call (.Name "set" p2) [e] [] q] [] pos) (wLenSet w) :=
  PE.imp (pe_callB cr_lenSet hg hm boot_len (pa_cons (pe_callTy (cr_setI hc) hg2 hm2 boot_set (pa_cons h pa_nil na) (by decide) (by decide) na) pa_nil nb) (by decide) (by decide) nb) fun σ H Q q => by
  obtain ⟨F, O, η, Q0, hH, hη, hw, hQ⟩ := q
  refine ⟨F, O, η, _, hH, hη, hw, fun d O1 h1 v F1 H1 s1 r1 => ?_⟩
  have h1 : (match seqI O1 d with
    | some ns => ns.length + 1 < scanBound ∧ ∀ c, Mem ns c → Q0 (.int (c : Nat)) O1
    | none => False) := h1
  cases e : seqI O1 d with
  | none =>
    rw [e] at h1
    exact h1.elim
  | some ns =>
    rw [e] at h1
    obtain ⟨h2, h3⟩ := h1
    obtain ⟨l, rfl, hq⟩ := seqI_at s1.hold r1 e
    refine ⟨l, ns, rfl, hq, h2, fun p c hp hm hcn => ⟨p, _, c, rfl, upd_same, ?_⟩⟩
    exact hQ _ _ (h3 c hm) _ _ _ (s1.trans (Step.newH s1.hold hp)) (.int _)
theorem x_sortSet (hc : X.calm = true) (hm : X.mg "sorted" = none) (hm2 : X.mg "set" = none) (h : Pe X W e w) (hg : Gl X "sorted" := by rfl) (hg2 : Gl X "set" := by rfl)
    (na : starEach [e] X.env = (false, eval e X.env) :: starEach [] X.env := by rfl)
    (nb : starEach [Expr.Call (.Name "set" p2) [e] [] q] X.env = (false, eval (.Call (.Name "set" p2) [e] [] q) X.env) :: starEach [] X.env := by rfl) : Pe X W (.Call (.Name "sorted" p) [.Call (.Name "set" p2) [e] [] q] [] pos) (wSortSet w) :=
  PE.imp (pe_callB (cr_sortedSet hc) hg hm boot_sorted (pa_cons (pe_callTy (cr_setI hc) hg2 hm2 boot_set (pa_cons h pa_nil na) (by decide) (by decide) na) pa_nil nb) (by decide) (by decide) nb) fun σ H Q q => by
  obtain ⟨F, O, η, Q0, hH, hη, hw, hQ⟩ := q
  refine ⟨F, O, η, _, hH, hη, hw, fun d O1 h1 v F1 H1 s1 r1 => ?_⟩
  have h1 : (match seqI O1 d with
    | some ns => ns.length < 64 ∧ ∀ ks : List Int, ks.Pairwise (· < ·) → (∀ k, k ∈ ks ↔ k ∈ ns) → Q0 (.lst (ks.map .int)) O1
    | none => False) := h1
  cases e : seqI O1 d with
  | none =>
    rw [e] at h1
    exact h1.elim
  | some ns =>
    rw [e] at h1
    obtain ⟨h2, h3⟩ := h1
    obtain ⟨l, rfl, hq⟩ := seqI_at s1.hold r1 e
    refine ⟨l, ns, rfl, hq, by unfold scanBound; omega, fun p c hp hm hcn => ⟨p, _, c, rfl, upd_same, by omega, fun ks p2 hs hk hl hp2 => ?_⟩⟩
    have t1 := Step.newH (u := SetO X.w p (fun j => decide (j ∈ ns)) c) s1.hold hp
    have t2 := Step.newF (u := .lst (ks.map V.int)) t1.hold hp2
    refine hQ _ _ (h3 ks hs fun k => by rw [hk k, decide_eq_true_eq]) _ _ _ ((s1.trans t1).trans t2) (.lst upd_same (repL_of_ints ks))
end
end Sw

set_option maxRecDepth 100000
set_option maxHeartbeats 4000000
namespace Sw
open PySem PySem.Spec PyProof.Rows L2
/-! ### methods of lists -/
abbrev RM := D → List D → (O : OS) → (Q : QD) → PKp (O, Q)
def lM (K : PySem.W.Frag) (W : Wd) (rd : RM) : V → List V → Hp → VK → Prop := fun x xs H Q => ∃ F O d ds Q0, Hold K W O F H ∧ Rep K F x d ∧ RepL K F xs ds ∧ rd d ds O Q0 ∧ ∀ z O', Q0 z O' → Go K W O F H Q z O'
/-- o.m(..), o a list -/
def wMl (rd : RM) (wo : WE) (wa : WA) : WE := fun η O Q => wo η O fun x O1 => (asR O1 x).isSome = true ∧ wa η O1 fun ds O2 => rd x ds O2 Q
section
variable {X : Cx} {W : Wd} {o e : Expr} {es : List Expr} {wo : WE} {wa : WA} {rd : RM} {name : Str} {apos cpos : Pos} {id : String}
theorem ml_chase {K : PySem.W.Frag} {t : TA} {σ : L2.St} {H : Hp} {Q : VK} (ht : ∀ σ H Q, lA K W wa σ H Q → t σ H Q) (q : lE K W (wMl rd wo wa) σ H Q) : tBM K "list" (lM K W rd) (lE K W wo) t σ H Q := by
  obtain ⟨F, O, η, Q0, hH, hη, hw, hQ⟩ := q
  refine ⟨F, O, η, _, hH, hη, hw, fun d O1 h1 v F1 H1 s1 r1 => ?_⟩
  obtain ⟨h1, h2⟩ := h1
  cases e : asR O1 d with
  | none =>
    rw [e] at h1
    cases h1
  | some l =>
    obtain ⟨a, xs, rfl, h3, _⟩ := asR_at s1.hold r1 e
    refine ⟨.inl ⟨rfl, xs, h3⟩, ht _ _ _ ⟨F1, O1, η, _, s1.hold, hη.mono s1.sub, h2, fun ds O2 h4 vs F2 H2 s2 r2 => ?_⟩⟩
    exact ⟨F2, O2, d, ds, Q0, s2.hold, r1.mono s2.sub, r2, h4, fun z O' h => (hQ z O' h).mono (s1.trans s2)⟩
theorem x_ml (slot : Slot "list" name id) (hty : typeOf (.builtin id) = pure (.type "method_descriptor")) (hm : MtR X id (lM X.K W rd)) (ho : Pe X W o wo) (ha : Pa X W (e :: es) wa)
    (hbase : attributeBase o name X.env (eval o X.env) = eval o X.env := by rfl)
    (hfew : ((backTo cpos (starEach (e :: es) X.env)).all (fun x => !x.1) && (backToKw cpos (keywordEach [] X.env)).all (fun x => x.1.isSome)
      && decide ((e :: es).length + ([] : List Keyword).length + (if ([] : List Keyword).isEmpty then 0 else 1) < 30)) = true := by rfl)
    (hline : (apos.endLine == cpos.line) = true := by rfl) (hs : starEach (e :: es) X.env = (false, eval e X.env) :: starEach es X.env := by rfl) (hplain : (backTo cpos (starEach es X.env)).any (·.1) = false := by rfl) :
    Pe X W (.Call (.Attribute o name apos) (e :: es) [] cpos) (wMl rd wo wa) :=
  PE.imp (pe_bm PySem.F.plainAttrs_list slot hty hm ho ha hbase hfew hline hs hplain) fun _ _ _ q => ml_chase (fun _ _ _ z => z) q
theorem x_ml0 (slot : Slot "list" name id) (hty : typeOf (.builtin id) = pure (.type "method_descriptor")) (hm : MtR X id (lM X.K W rd)) (ho : Pe X W o wo)
    (hbase : attributeBase o name X.env (eval o X.env) = eval o X.env := by rfl) (hline : (apos.endLine == cpos.line) = true := by rfl) : Pe X W (.Call (.Attribute o name apos) [] [] cpos) (wMl rd wo wNil) :=
  PE.imp (pe_bm0 PySem.F.plainAttrs_list slot hty hm ho hbase hline) fun σ H Q q => by
  obtain ⟨F, O, η, Q0, hH, hη, hw, hQ⟩ := q
  refine ⟨F, O, η, _, hH, hη, hw, fun d O1 h1 v F1 H1 s1 r1 => ?_⟩
  obtain ⟨h1, h2⟩ := h1
  cases e : asR O1 d with
  | none =>
    rw [e] at h1
    cases h1
  | some l =>
    obtain ⟨a, xs, rfl, h3, _⟩ := asR_at s1.hold r1 e
    exact ⟨.inl ⟨rfl, xs, h3⟩, F1, O1, d, [], Q0, s1.hold, r1, .nil, h2, fun z O' h => (hQ z O' h).mono s1⟩
end
/-- a list that may change -/
def onMl (O : OS) (d : D) (k : Addr → List D → Prop) : PKp (O, k) := match d with
  | .ref p => (match O p with
    | some (.ml l) => k p l
    | _ => False)
  | _ => False
theorem onMl_at {O : OS} {d : D} {k : Addr → List D → Prop} (h : onMl O d k) : ∃ p l, d = .ref p ∧ O p = some (.ml l) ∧ k p l := by
  cases d <;> first | exact h.elim | skip
  rename_i p
  have h : (match O p with
    | some (.ml l) => k p l
    | _ => False) := h
  cases e : O p with
  | none =>
    rw [e] at h
    exact h.elim
  | some o =>
    rw [e] at h
    cases o <;> first | exact h.elim | exact ⟨p, _, rfl, e, h⟩
def rApp : RM := fun x ds O Q => match ds with
  | [y] => onMl O x fun p l => l.length < sizeLine ∧ Q .non (put O p (.ml (l ++ [y])))
  | _ => False
def rExt : RM := fun x ds O Q => match ds with
  | [y] => onMl O x fun p l => (match asL O y with
    | some m => l.length + m.length ≤ sizeLine ∧ Q .non (put O p (.ml (l ++ m)))
    | none => False)
  | _ => False
def rPop0 : RM := fun x ds O Q => match ds with
  | [] => onMl O x fun p l => (match l[l.length - 1]? with
    | some y => Q y (put O p (.ml l.dropLast))
    | none => False)
  | _ => False
def rPop1 : RM := fun x ds O Q => match ds with
  | [.int i] => onMl O x fun p l => (-(2 ^ 63) ≤ i ∧ i < 2 ^ 63) ∧ (match seqIndex? i l.length with
    | some k => (match l[k]? with
      | some y => Q y (put O p (.ml (l.eraseIdx k)))
      | none => False)
    | none => False)
  | _ => False
def rRevM : RM := fun x ds O Q => match ds with
  | [] => onMl O x fun p l => Q .non (put O p (.ml l.reverse))
  | _ => False
section
variable {X : Cx} {W : Wd}
theorem set_ml {K : PySem.W.Frag} {O : OS} {F H : Hp} {p : Addr} {l l' : List D} {vs : List V} (hH : Hold K W O F H) (e : O p = some (.ml l)) (r : RepL K F vs l') : Step K W O F H (put O p (.ml l')) F (upd H p (.lst vs)) := Step.set hH e (.ml r)
theorem RepL.dropLast {K : PySem.W.Frag} {F : Hp} {vs : List V} {ds : List D} (r : RepL K F vs ds) : RepL K F vs.dropLast ds.dropLast := by
  rw [List.dropLast_eq_take, List.dropLast_eq_take, r.length]
  exact r.take _
theorem m_app : MtR X "list.append" (lM X.K W rApp) := by
  intro pins s σ H x xs v us Q I rx rxs q
  obtain ⟨F, O, d, ds, Q0, hH, r1, r2, w, k⟩ := q
  unfold rApp at w
  split at w
  · rename_i y
    obtain ⟨p, l, rfl, e, hz, hq⟩ := onMl_at w
    cases r1
    obtain ⟨zs, h1, h2⟩ := ml_at hH e
    cases r2 with
    | cons ry rr =>
      cases rr
      refine mt_append pins s σ H _ _ v us Q I rx rxs ⟨p, zs, _, rfl, rfl, h1, by rw [h2.length]; exact hz, ?_⟩
      exact k _ _ hq _ _ _ (set_ml hH e (h2.snoc ry)) .non
  · exact w.elim
theorem m_ext : MtR X "list.extend" (lM X.K W rExt) := by
  intro pins s σ H x xs v us Q I rx rxs q
  obtain ⟨F, O, d, ds, Q0, hH, r1, r2, w, k⟩ := q
  unfold rExt at w
  split at w
  · rename_i y
    obtain ⟨p, l, rfl, e, hq⟩ := onMl_at w
    cases r1
    obtain ⟨zs, h1, h2⟩ := ml_at hH e
    cases r2 with
    | cons ry rr =>
      cases rr
      split at hq
      · rename_i m em
        obtain ⟨hz, hq⟩ := hq
        obtain ⟨b, ws, rfl, h3, h4⟩ := asL_at hH ry em
        refine mt_extend pins s σ H _ _ v us Q I rx rxs ⟨p, b, zs, ws, rfl, rfl, h1, h3, by rw [h2.length, h4.length]; exact hz, ?_⟩
        exact k _ _ hq _ _ _ (set_ml hH e (h2.append h4)) .non
      · exact hq.elim
  · exact w.elim
theorem m_pop0 : MtR X "list.pop" (lM X.K W rPop0) := by
  intro pins s σ H x xs v us Q I rx rxs q
  obtain ⟨F, O, d, ds, Q0, hH, r1, r2, w, k⟩ := q
  unfold rPop0 at w
  split at w
  · obtain ⟨p, l, rfl, e, hq⟩ := onMl_at w
    cases r1
    cases r2
    obtain ⟨zs, h1, h2⟩ := ml_at hH e
    split at hq
    · rename_i y ey
      obtain ⟨z, h3, h4⟩ := h2.get ey
      refine mt_pop pins s σ H _ _ v us Q I rx rxs ⟨p, zs, z, rfl, rfl, h1, by rw [h2.length]; exact h3, ?_⟩
      exact k _ _ hq _ _ _ (set_ml hH e h2.dropLast) h4
    · exact hq.elim
  · exact w.elim
theorem m_pop1 : MtR X "list.pop" (lM X.K W rPop1) := by
  intro pins s σ H x xs v us Q I rx rxs q
  obtain ⟨F, O, d, ds, Q0, hH, r1, r2, w, k⟩ := q
  unfold rPop1 at w
  split at w
  · rename_i i
    obtain ⟨p, l, rfl, e, ⟨hi1, hi2⟩, hq⟩ := onMl_at w
    cases r1
    obtain ⟨zs, h1, h2⟩ := ml_at hH e
    cases r2 with
    | cons ry rr =>
      cases rr
      cases ry
      split at hq
      · rename_i j ej
        split at hq
        · rename_i y ey
          obtain ⟨z, h3, h4⟩ := h2.get ey
          refine mt_popAt pins s σ H _ _ v us Q I rx rxs ⟨p, zs, i, j, z, rfl, rfl, h1, hi1, hi2, by rw [h2.length]; exact ej, h3, ?_⟩
          exact k _ _ hq _ _ _ (set_ml hH e (h2.eraseIdx j)) h4
        · exact hq.elim
      · exact hq.elim
  · exact w.elim
theorem m_rev : MtR X "list.reverse" (lM X.K W rRevM) := by
  intro pins s σ H x xs v us Q I rx rxs q
  obtain ⟨F, O, d, ds, Q0, hH, r1, r2, w, k⟩ := q
  unfold rRevM at w
  split at w
  · obtain ⟨p, l, rfl, e, hq⟩ := onMl_at w
    cases r1
    cases r2
    obtain ⟨zs, h1, h2⟩ := ml_at hH e
    refine mt_reverse pins s σ H _ _ v us Q I rx rxs ⟨p, zs, rfl, rfl, h1, ?_⟩
    exact k _ _ hq _ _ _ (set_ml hH e h2.reverse) .non
  · exact w.elim
end
/-! ### list(range(..)), tuple(range(..)) -/
def wRg1 (w : WE) : Sl → OS → (Int → Int → OS → Prop) → Prop := fun η O Q => w η O fun d O1 => match d with
  | .int n => Q 0 n O1
  | _ => False
def wRg2 (w u : WE) : Sl → OS → (Int → Int → OS → Prop) → Prop := fun η O Q => w η O fun d O1 => u η O1 fun e O2 => match d, e with
  | .int i, .int j => Q i j O2
  | _, _ => False
def lRg (K : PySem.W.Frag) (W : Wd) (w : Sl → OS → (Int → Int → OS → Prop) → Prop) : L2.St → Hp → (Int → Int → Hp → Prop) → Prop := fun σ H Q => ∃ F O η Q0, Hold K W O F H ∧ EnvR K F σ η ∧ w η O Q0 ∧ ∀ i j O', Q0 i j O' → ∀ F' H', Step K W O F H O' F' H' → Q i j H'
def wLRg (w : Sl → OS → (Int → Int → OS → Prop) → Prop) : WE := fun η O Q => w η O fun i j O1 => RgOk i j ∧ Q (.lst (rgD i j)) O1
def wLRgM (w : Sl → OS → (Int → Int → OS → Prop) → Prop) : WE := fun η O Q => w η O fun i j O1 => RgOk i j ∧ ∀ p, O1 p = none → Q (.ref p) (put O1 p (.ml (rgD i j)))
def wTRg (w : Sl → OS → (Int → Int → OS → Prop) → Prop) : WE := fun η O Q => w η O fun i j O1 => RgOk i j ∧ Q (.tup (rgD i j)) O1
section
variable {X : Cx} {W : Wd} {pos p : Pos} {a b e : Expr} {wa wb : WE} {w : Sl → OS → (Int → Int → OS → Prop) → Prop}
theorem PRg.imp {t t' : L2.St → Hp → (Int → Int → Hp → Prop) → Prop} (h : PRg X e t) (i : ∀ σ H Q, t' σ H Q → t σ H Q) : PRg X e t' := fun pins s σ H Q I q => h pins s σ H Q I (i σ H Q q)
theorem rg_1 (hm : X.mg "range" = none) (ha : Pe X W a wa) (hg : Gl X "range" := by rfl) (na : starEach [a] X.env = (false, eval a X.env) :: starEach [] X.env := by rfl) : PRg X (.Call (.Name "range" p) [a] [] pos) (lRg X.K W (wRg1 wa)) := PRg.imp (prg_1 hg hm ha na) fun σ H Q q => by
  obtain ⟨F, O, η, Q0, hH, hη, hw, hQ⟩ := q
  refine ⟨F, O, η, _, hH, hη, hw, fun d O1 h1 v F1 H1 s1 r1 => ?_⟩
  cases d <;> first | exact h1.elim | skip
  cases r1
  exact ⟨_, rfl, hQ _ _ _ h1 F1 H1 s1⟩
theorem rg_2 (hm : X.mg "range" = none) (ha : Pe X W a wa) (hb : Pe X W b wb) (hg : Gl X "range" := by rfl) (na : starEach [a, b] X.env = (false, eval a X.env) :: starEach [b] X.env := by rfl)
    (nb : starEach [b] X.env = (false, eval b X.env) :: starEach [] X.env := by rfl) (hp : (backTo pos (starEach [b] X.env)).any (·.1) = false := by rfl) : PRg X (.Call (.Name "range" p) [a, b] [] pos) (lRg X.K W (wRg2 wa wb)) := PRg.imp (prg_2 hg hm ha hb na nb hp) fun σ H Q q => by
  obtain ⟨F, O, η, Q0, hH, hη, hw, hQ⟩ := q
  refine ⟨F, O, η, _, hH, hη, hw, fun d O1 h1 v F1 H1 s1 r1 => ?_⟩
  refine ⟨F1, O1, η, _, s1.hold, hη.mono s1.sub, h1, fun d2 O2 h2 v2 F2 H2 s2 r2 => ?_⟩
  cases d <;> first | exact h2.elim | skip
  cases d2 <;> first | exact h2.elim | skip
  cases r1
  cases r2
  exact ⟨_, _, rfl, rfl, hQ _ _ _ h2 F2 H2 (s1.trans s2)⟩
theorem repL_rg {K : PySem.W.Frag} {F : Hp} {i j : Int} : RepL K F (rgV i j) (rgD i j) := by
  unfold rgV rgD
  generalize List.range (j - i).toNat = l
  induction l with
  | nil => exact .nil
  | cons n l ih => exact .cons (.int _) ih
theorem x_lrg (hc : X.calm = true) (hm : X.mg "list" = none) (he : PRg X e (lRg X.K W w)) (hg : Gl X "list" := by rfl) (na : starEach [e] X.env = (false, eval e X.env) :: starEach [] X.env := by rfl) : Pe X W (.Call (.Name "list" p) [e] [] pos) (wLRg w) := PE.imp (pe_listRg hc hg hm he na) fun σ H Q q => by
  obtain ⟨F, O, η, Q0, hH, hη, hw, hQ⟩ := q
  refine ⟨F, O, η, _, hH, hη, hw, fun i j O1 h1 F1 H1 s1 => ⟨h1.1, fun q hq => ?_⟩⟩
  exact hQ _ _ h1.2 _ _ _ (s1.trans (Step.newF s1.hold hq)) (.lst upd_same repL_rg)
theorem x_lrgM (hc : X.calm = true) (hm : X.mg "list" = none) (he : PRg X e (lRg X.K W w)) (hg : Gl X "list" := by rfl) (na : starEach [e] X.env = (false, eval e X.env) :: starEach [] X.env := by rfl) : Pe X W (.Call (.Name "list" p) [e] [] pos) (wLRgM w) := PE.imp (pe_listRg hc hg hm he na) fun σ H Q q => by
  obtain ⟨F, O, η, Q0, hH, hη, hw, hQ⟩ := q
  refine ⟨F, O, η, _, hH, hη, hw, fun i j O1 h1 F1 H1 s1 => ⟨h1.1, fun q hq => ?_⟩⟩
  exact hQ _ _ (h1.2 q (s1.hold.toHoldC.freshO hq)) _ _ _ (s1.trans (Step.newO s1.hold hq (.ml repL_rg))) (.ref q)
theorem x_trg (hc : X.calm = true) (hm : X.mg "tuple" = none) (he : PRg X e (lRg X.K W w)) (hg : Gl X "tuple" := by rfl) (na : starEach [e] X.env = (false, eval e X.env) :: starEach [] X.env := by rfl) : Pe X W (.Call (.Name "tuple" p) [e] [] pos) (wTRg w) := PE.imp (pe_tupRg hc hg hm he na) fun σ H Q q => by
  obtain ⟨F, O, η, Q0, hH, hη, hw, hQ⟩ := q
  refine ⟨F, O, η, _, hH, hη, hw, fun i j O1 h1 F1 H1 s1 => ⟨h1.1, fun q hq => ?_⟩⟩
  exact hQ _ _ h1.2 _ _ _ (s1.trans (Step.newF s1.hold hq)) (.tup (.inl (.inl upd_same)) repL_rg)
end
end Sw

set_option maxRecDepth 100000
set_option maxHeartbeats 4000000
/-! try with several clauses, with and without names: the layer's two rules in one -/
namespace Sw
open PySem PySem.Spec PyProof.Rows L2
/-- what the clauses wish of an exception of the body, one after the other -/
def wManyN (K : PySem.W.Frag) (Wout : WX) (D : Ends) : List (Value × Option Nat × (Addr → Value → Option Addr → TS)) → WX
  | [] => Wout
  | (c, none, ts) :: r => fun cls d σ H => ∃ b, PySem.W.exmOne K cls c = some b ∧ (b = true → ∀ a, H a = none → ts a cls d D σ H) ∧ (b = false → wManyN K Wout D r cls d σ H)
  | (c, some i, ts) :: r => fun cls d σ H => ∃ b, PySem.W.exmOne K cls c = some b ∧ (b = true → ∀ a, H a = none → ts a cls d { nx := fun σ' H' => D.nx (σ'.set i none) H', rt := D.rt, bk := fun σ' H' => D.bk (σ'.set i none) H', ct := fun σ' H' => D.ct (σ'.set i none) H' } (σ.set i (some (.ref a))) H) ∧
    (b = false → wManyN K Wout D r cls d σ H)
inductive HdsN (X : Cx) : List ExceptHandler → List (Value × Option Nat × (Addr → Value → Option Addr → TS)) → Prop
  | nil : HdsN X [] []
  | cons {x : Str} {c : Value} {ts : Addr → Value → Option Addr → TS} {b₀ : Stmt} {suite : List Stmt} {np pos' : Pos} {hds : List ExceptHandler} {l : List (Value × Option Nat × (Addr → Value → Option Addr → TS))} (hc : Names X x c)
      (hsu : ∀ (a : Addr) (oe : Obj) (cls : Value) (d : Option Addr) (pn : List (Addr × Obj)), Zc cls d oe → (∃ vs, oe.data = .fields vs) → PSs (X.suite a ((a, oe) :: pn)) (b₀ :: suite) (ts a cls d)) (r : HdsN X hds l) :
      HdsN X (.ExceptHandler (some (.Name x np)) none (b₀ :: suite) pos' :: hds) ((c, none, ts) :: l)
  | consN {x n : Str} {i : Nat} {c : Value} {ts : Addr → Value → Option Addr → TS} {b₀ : Stmt} {suite : List Stmt} {np pos' : Pos} {hds : List ExceptHandler} {l : List (Value × Option Nat × (Addr → Value → Option Addr → TS))} (hc : Names X x c) (hi : X.N[i]? = some n) (hln : X.env.kindOf n = some .local)
      (hsu : ∀ (a : Addr) (oe : Obj) (cls : Value) (d : Option Addr) (pn : List (Addr × Obj)), Zc cls d oe → (∃ vs, oe.data = .fields vs) → PSs (X.suite a ((a, oe) :: pn)) (b₀ :: suite) (ts a cls d)) (r : HdsN X hds l) :
      HdsN X (.ExceptHandler (some (.Name x np)) (some n) (b₀ :: suite) pos' :: hds) ((c, some i, ts) :: l)
section
variable {X : Cx} {body : List Stmt} {h₀ : ExceptHandler} {hds : List ExceptHandler} {l : List (Value × Option Nat × (Addr → Value → Option Addr → TS))} {pos : Pos} {tb : WX → TS} {Wout : WX}
theorem ps_try_manyN (hs : X.stack = X.env :: X.outer) (hf : X.env.frame = some X.env.locals) (hN : X.N.Nodup) (tk : Takes X Wout)
    (hb : ∀ (W : WX) (pn : List (Addr × Obj)) (xe : Value → Shared → Prop), Takes (X.tr pn xe) W → PassesOwn (model X.prog X.w) X.A X.env xe → PSs (X.tr pn xe) body (tb W))
    (hh : HdsN X (h₀ :: hds) l) : PS X (.Try body (h₀ :: hds) [] [] pos) (fun D σ H => tb (wManyN X.K Wout D l) D σ H) := by
  refine ⟨fun pins s σ H D I h => ?_⟩
  have ok := I.ok
  have hfr : X.A.frames = some (X.env :: X.outer) := by rw [ok.frames, hs]
  refine wpAny_Try_except ?_
  refine wpAny_mono ((hb (wManyN X.K Wout D l) (X.pn ++ pins) (fun e s₁ => wpAny (model X.prog X.w) X.A (noteFrame e X.env) (fun _ s₂ => wpAny (model X.prog X.w) X.A (setFlight e none) (fun _ s₃ =>
    wpAny (model X.prog X.w) X.A (handleBy e X.env (h₀ :: hds)) (SP X pins D) X.xe s₃) X.xe s₂) X.xe s₁) (fun u s' xx => ?_) PassesOwn.looking).run [] s σ H D (I.toTry _) h) (fun f s1 hsp => ?_) (fun e s1 he => he)
  · -- the catch
    obtain ⟨a, B, sI, pins', σ', H', cls, d, rfl, J', nb, up, sky, na, os, ag, w⟩ := xx
    have J : Inv X pins σ' H' sI := J'.ofTry ok
    have sky' : Sky B (X.env :: X.outer) a (Zc cls d) X.env.locals s'.heap := by rw [← hs]; exact sky
    show wpAny (model X.prog X.w) X.A (noteFrame (.ref a) X.env) _ _ _
    refine Sky.land Zc.steady hfr hf sky' fun h3 fl3 up3 => ?_
    have J3 : Inv X pins σ' H' { s' with heap := h3 } := J.landed nb fl3.1 (up.trans up3) os ag
    obtain ⟨oe3, vs3, he3, hz3, hd3⟩ := fl3.there
    have notFr : ∀ {h : Heap} {o : Obj} {vs : Array Value}, h.FunFrames B (X.env :: X.outer) → h.get? a = some o → o.data = .fields vs → a ∉ frs (X.env :: X.outer) := fun {h o vs} ff e dd hm => by
      obtain ⟨_, o', e', hnf⟩ := ff.mem hm
      rw [e] at e'; cases e'
      exact hnf _ dd
    have nfr := notFr fl3.2.2.1 he3 hd3
    have nL : a ≠ X.env.locals := fun z => nfr (List.mem_filterMap.mpr ⟨X.env, List.mem_cons_self, by rw [hf, z]⟩)
    have nF : a ∉ X.fs := fun hm => by
      obtain ⟨e, he, q⟩ := List.mem_filterMap.mp hm
      exact nfr (List.mem_filterMap.mpr ⟨e, List.mem_cons_of_mem _ he, q⟩)
    have S3 := J3.suite he3 hd3 na nL nF
    have go : ∀ {hds' : List ExceptHandler} {l' : List (Value × Option Nat × (Addr → Value → Option Addr → TS))}, HdsN X hds' l' → wManyN X.K Wout D l' cls d σ' H' →
        wpAny (model X.prog X.w) X.A (handleBy (.ref a) X.env hds') (SP X pins D) X.xe { s' with heap := h3 } := by
      intro hds' l' hk
      induction hk with
      | nil =>
        intro w
        refine wpAny_handleBy_nil ?_
        obtain ⟨k1, k2, k3, oe, vs, T, oT, ts', he, hz, hd, h1, hr⟩ := id fl3
        unfold PySem.passOn
        refine wpAny_bind (wpAny_field he hd h1 ?_)
        rw [if_neg (show ¬ ((Value.ref T == Value.none) = true) from by simp)]
        have fin : wpAny (model X.prog X.w) X.A (setFlight (.ref a) X.env.frame) (fun _ s4 => wpAny (model X.prog X.w) X.A (throw (.ref a) : Sem Flow) (SP X pins D) X.xe s4) X.xe { s' with heap := h3 } := by
          rw [hf]
          refine HandSPX.setFlight_upZ fl3 fun h4 hh4 up4 => wpAny_throw (tk _ _ ?_)
          exact ⟨a, B, sI, pins, σ', H', cls, d, rfl, J, nb, (up.trans up3).trans up4, .inr (.inr (by rw [hs]; exact hh4)), na, os, ag, w⟩
        first
          | exact wpAny_bind (wpAny_pure (wpAny_bind fin))
          | exact wpAny_bind fin
      | @cons x c ts b₀ suite np pos' hds2 l2 hc hsu r ih =>
        intro w
        obtain ⟨b, hb1, hyes, hno⟩ := w
        refine wpAny_handleBy_cons (codeAny_handlers_test ?_) (by intro q; cases q)
        have LT : PySem.W.Looks (model X.prog X.w) h3 (typeOf (.ref a)) cls := fun A Q E s k q => wpAny_typeOf_ref (k _ _ he3) (by rw [hz3.1]; exact q)
        have LM := PySem.W.exm_one (M := model X.prog X.w) (J3.kIn) LT hb1
        have test : ∀ {Q : Value → Shared → Prop} {E : Value → Shared → Prop}, Q c { s' with heap := h3 } → wpAny (model X.prog X.w) (X.A.mark (some (.ref a))) (eval (.Name x np) X.env) Q E { s' with heap := h3 } := fun {Q E} q => by
          obtain ⟨hg, hdbg, hm | ⟨hm, hv, hnn⟩⟩ := hc
          · exact ld_glob (X := X.suite a ((a, oe3) :: (X.pn ++ pins))) S3 hg hm q hdbg
          · exact ld_blt (X := X.suite a ((a, oe3) :: (X.pn ++ pins))) S3 hg hm hv q hnn hdbg
        refine test (LM.here ?_)
        cases b with
        | true =>
          refine codeAny_handlers_suite ?_
          refine HandSPX.lands_againZ fl3 fun h4 fl4 up4 => ?_
          have J4 : Inv X pins σ' H' { s' with heap := h4 } := J.landed nb fl4.1 ((up.trans up3).trans up4) os ag
          obtain ⟨oe4, vs4, he4, hz4, hd4⟩ := fl4.there
          have S4 := J4.suite he4 hd4 na nL nF
          refine wpAny_mono ((hsu a oe4 cls d (X.pn ++ pins) hz4 ⟨_, hd4⟩).run [] _ _ H' _ S4 (hyes rfl a na)) (fun f s6 hsp => ?_) (fun _ _ z => False.elim z)
          cases f with
          | next =>
            obtain ⟨σ6, H6, S6, q6⟩ := hsp
            exact ⟨_, _, S6.unsuite ok, q6⟩
          | brk =>
            obtain ⟨σ6, H6, S6, q6⟩ := hsp
            exact ⟨_, _, S6.unsuite ok, q6⟩
          | cont =>
            obtain ⟨σ6, H6, S6, q6⟩ := hsp
            exact ⟨_, _, S6.unsuite ok, q6⟩
          | ret u =>
            obtain ⟨v6, σ6, H6, S6, r6, q6⟩ := hsp
            exact ⟨_, _, _, S6.unsuite ok, r6, q6⟩
        | false =>
          show wpAny _ X.A (handleBy (.ref a) X.env hds2) _ _ _
          exact ih (hno rfl)
      | @consN x n i c ts b₀ suite np pos' hds2 l2 hc hi hln hsu r ih =>
        intro w
        obtain ⟨b, hb1, hyes, hno⟩ := w
        refine wpAny_handleBy_cons (codeAny_handlers_test ?_) (by intro q; cases q)
        have LT : PySem.W.Looks (model X.prog X.w) h3 (typeOf (.ref a)) cls := fun A Q E s k q => wpAny_typeOf_ref (k _ _ he3) (by rw [hz3.1]; exact q)
        have LM := PySem.W.exm_one (M := model X.prog X.w) (J3.kIn) LT hb1
        have test : ∀ {Q : Value → Shared → Prop} {E : Value → Shared → Prop}, Q c { s' with heap := h3 } → wpAny (model X.prog X.w) (X.A.mark (some (.ref a))) (eval (.Name x np) X.env) Q E { s' with heap := h3 } := fun {Q E} q => by
          obtain ⟨hg, hdbg, hm | ⟨hm, hv, hnn⟩⟩ := hc
          · exact ld_glob (X := X.suite a ((a, oe3) :: (X.pn ++ pins))) S3 hg hm q hdbg
          · exact ld_blt (X := X.suite a ((a, oe3) :: (X.pn ++ pins))) S3 hg hm hv q hnn hdbg
        refine test (LM.here ?_)
        cases b with
        | true =>
          have hloc : Loc X.env.scope n := .inl hln
          refine codeAny_handlers_suite_as ?_
          refine HandSPX.lands_againZ fl3 fun h4 fl4 up4 => ?_
          have J4 : Inv X pins σ' H' { s' with heap := h4 } := J.landed nb fl4.1 ((up.trans up3).trans up4) os ag
          obtain ⟨oe4, vs4, he4, hz4, hd4⟩ := fl4.there
          have S4 := J4.suite he4 hd4 na nL nF
          refine store_ok (X := X.suite a ((a, oe4) :: (X.pn ++ pins))) (v := .ref a) S4 hN hi hloc rfl (fun s5 S5 => ?_) (.inr hln)
          refine wpAny_mono ((hsu a oe4 cls d (X.pn ++ pins) hz4 ⟨_, hd4⟩).run [] s5 _ H' _ S5 (hyes rfl a na)) (fun f s6 hsp => ?_) (fun _ _ z => False.elim z)
          have end_ : ∀ {σ6 : L2.St} {H6 : Hp} {Q : Shared → Prop}, Inv (X.suite a ((a, oe4) :: (X.pn ++ pins))) [] σ6 H6 s6 → (∀ s7, Inv X pins (σ6.set i none) H6 s7 → Q s7) →
              wpAny (model X.prog X.w) X.A (do bindName X.env n .none; unbindBehindTheSuite X.env n pos') (fun _ s7 => Q s7) X.xe s6 := fun {σ6 H6 Q} S6 hq => gone_ok (S6.unsuite ok) hN hi hln hq
          cases f with
          | next =>
            obtain ⟨σ6, H6, S6, q6⟩ := hsp
            exact end_ S6 fun s7 J7 => ⟨_, _, J7, q6⟩
          | brk =>
            obtain ⟨σ6, H6, S6, q6⟩ := hsp
            exact end_ S6 fun s7 J7 => ⟨_, _, J7, q6⟩
          | cont =>
            obtain ⟨σ6, H6, S6, q6⟩ := hsp
            exact end_ S6 fun s7 J7 => ⟨_, _, J7, q6⟩
          | ret u =>
            obtain ⟨v6, σ6, H6, S6, r6, q6⟩ := hsp
            exact end_ S6 fun s7 J7 => ⟨_, _, _, J7, r6, q6⟩
        | false =>
          show wpAny _ X.A (handleBy (.ref a) X.env hds2) _ _ _
          exact ih (hno rfl)
    exact go hh w
  · cases f with
    | next =>
      obtain ⟨σ', H', J', q⟩ := hsp
      exact wpAny_execs_nil ⟨σ', H', J'.ofTry ok, q⟩
    | brk =>
      obtain ⟨σ', H', J', q⟩ := hsp
      exact ⟨σ', H', J'.ofTry ok, q⟩
    | cont =>
      obtain ⟨σ', H', J', q⟩ := hsp
      exact ⟨σ', H', J'.ofTry ok, q⟩
    | ret u =>
      obtain ⟨v, σ', H', J', r, q⟩ := hsp
      exact ⟨v, σ', H', J'.ofTry ok, r, q⟩
end

/-! ### over data -/
abbrev WH := Str → List D → Addr → WS
def sWish (sub : Str → Str → Option Bool) (f : Fin) (EX : XS) : List (Str × Option Nat × WH) → XS
  | [] => EX
  | (c, none, wh) :: r => fun c' xs η O => match sub c' c with
    | some true => ∀ a, O a = none → wh c' xs a f η O
    | some false => sWish sub f EX r c' xs η O
    | none => False
  | (c, some i, wh) :: r => fun c' xs η O => match sub c' c with
    | some true => ∀ a, O a = none → wh c' xs a { nx := fun η' O' => f.nx (η'.set i none) O', rt := f.rt, bk := fun η' O' => f.bk (η'.set i none) O', ct := fun η' O' => f.ct (η'.set i none) O' } (η.set i (some (.ref a))) O
    | some false => sWish sub f EX r c' xs η O
    | none => False
def sTry (sub : Str → Str → Option Bool) (l : List (Str × Option Nat × WH)) (wb : XS → WS) (EX : XS) : WS := fun f η O => wb (sWish sub f EX l) f η O
/-- the class's except clause asks rightly -/
def SubF (K : PySem.W.Frag) (W : Wc) (sub : Str → Str → Option Bool) : Prop := ∀ c' c b, sub c' c = some b → PySem.W.exmOne K (.ref (W.cA c')) (.ref (W.cA c)) = some b
/-- what a suite knows of the exception -/
structure ExH (K : PySem.W.Frag) (W : Wd) (cls : Value) (d : Option Addr) (c : Str) (xs : List D) : Prop where
  cls : cls = .ref (W.cA c)
  fs : (d = none ∧ xs = []) ∨ ∃ dx f v y, d = some dx ∧ xs = [y] ∧ W.lay c = [f] ∧ ∀ O F H, W.R O F H → H dx = some (.xd [(f, v)]) ∧ Rep K F v y
/-- the clauses -/
inductive HdD (X : Cx) (W : Wc) : List ExceptHandler → List (Str × Option Nat × WH) → Prop
  | nil : HdD X W [] []
  | cons {x : Str} {c : Str} {wh : WH} {b₀ : Stmt} {suite : List Stmt} {np pos' : Pos} {hds : List ExceptHandler} {l : List (Str × Option Nat × WH)} (hc : Names X x (.ref (W.cA c)))
      (hsu : ∀ (R : OS → Hp → Hp → Prop) (cl : ∀ {O : OS} {F H : Hp} {O' : OS} {F' H' : Hp}, R O F H → Way O F H O' F' H' → R O' F' H') (a : Addr) (oe : Obj) (cls : Value) (d : Option Addr) (pn : List (Addr × Obj)) (c' : Str) (xs : List D), Zc cls d oe → (∃ vs, oe.data = .fields vs) →
        ExH X.K ⟨W, R, cl⟩ cls d c' xs → Pss (X.suite a ((a, oe) :: pn)) ⟨W, R, cl⟩ (b₀ :: suite) (wh c' xs a)) (r : HdD X W hds l) : HdD X W (.ExceptHandler (some (.Name x np)) none (b₀ :: suite) pos' :: hds) ((c, none, wh) :: l)
  | consN {x n : Str} {i : Nat} {c : Str} {wh : WH} {b₀ : Stmt} {suite : List Stmt} {np pos' : Pos} {hds : List ExceptHandler} {l : List (Str × Option Nat × WH)} (hc : Names X x (.ref (W.cA c))) (hi : X.N[i]? = some n) (hln : X.env.kindOf n = some .local)
      (hsu : ∀ (R : OS → Hp → Hp → Prop) (cl : ∀ {O : OS} {F H : Hp} {O' : OS} {F' H' : Hp}, R O F H → Way O F H O' F' H' → R O' F' H') (a : Addr) (oe : Obj) (cls : Value) (d : Option Addr) (pn : List (Addr × Obj)) (c' : Str) (xs : List D), Zc cls d oe → (∃ vs, oe.data = .fields vs) →
        ExH X.K ⟨W, R, cl⟩ cls d c' xs → Pss (X.suite a ((a, oe) :: pn)) ⟨W, R, cl⟩ (b₀ :: suite) (wh c' xs a)) (r : HdD X W hds l) : HdD X W (.ExceptHandler (some (.Name x np)) (some n) (b₀ :: suite) pos' :: hds) ((c, some i, wh) :: l)
/-- a suite's reading, from the catch -/
def tsOf (K : PySem.W.Frag) (W : Wc) (wh : WH) (a : Addr) (cls : Value) (d : Option Addr) : TS := fun E σ H => ∃ (R : OS → Hp → Hp → Prop) (cl : ∀ {O : OS} {F H : Hp} {O' : OS} {F' H' : Hp}, R O F H → Way O F H O' F' H' → R O' F' H') (c : Str) (xs : List D),
  ExH K ⟨W, R, cl⟩ cls d c xs ∧ lS K ⟨W, R, cl⟩ (wh c xs a) E σ H
def tsAll (K : PySem.W.Frag) (W : Wc) : List (Str × Option Nat × WH) → List (Value × Option Nat × (Addr → Value → Option Addr → TS))
  | [] => []
  | (c, o, wh) :: r => (.ref (W.cA c), o, tsOf K W wh) :: tsAll K W r
theorem hdN_of {X : Cx} {W : Wc} : ∀ {hds : List ExceptHandler} {l : List (Str × Option Nat × WH)}, HdD X W hds l → HdsN X hds (tsAll X.K W l)
  | _, _, .nil => .nil
  | _, _, .cons hc hsu r => .cons hc (fun a oe cls d pn hz hf => ⟨fun pins s σ H D I ⟨R, cl, c, xs, h1, h2⟩ => (hsu R cl a oe cls d pn c xs hz hf h1).run pins s σ H D I h2⟩) (hdN_of r)
  | _, _, .consN hc hi hln hsu r => .consN hc hi hln (fun a oe cls d pn hz hf => ⟨fun pins s σ H D I ⟨R, cl, c, xs, h1, h2⟩ => (hsu R cl a oe cls d pn c xs hz hf h1).run pins s σ H D I h2⟩) (hdN_of r)
section
variable {X : Cx} {W : Wd} {body : List Stmt} {h₀ : ExceptHandler} {hds : List ExceptHandler} {l : List (Str × Option Nat × WH)} {pos : Pos} {wb : XS → WS} {EX : XS} {sub : Str → Str → Option Bool}
/-- what is known from the catch on -/
def Wfrom (K : PySem.W.Frag) (W : Wd) (O : OS) (F H : Hp) : Wd := ⟨W.toWc, fun O' F' H' => Way O F H O' F' H' ∧ W.R O' F' H', fun a b => ⟨a.1.trans b, W.cl a.2 b⟩⟩
theorem exH_of {K : PySem.W.Frag} {O : OS} {F H : Hp} {cls : Value} {d : Option Addr} {c : Str} {xs : List D} (x : XR K W.toWc O F H cls d c xs) : ExH K (Wfrom K W O F H) cls d c xs := by
  cases x with
  | bare c => exact ⟨rfl, .inl ⟨rfl, rfl⟩⟩
  | @fld c f dx v y h1 h2 h3 h4 h5 =>
    exact ⟨rfl, .inr ⟨dx, f, v, y, rfl, rfl, h1, fun O' F' H' r => ⟨(r.1.stays h2 h3 h4).1, h5.mono r.1.sub⟩⟩⟩
theorem wish_many {K : PySem.W.Frag} {E : Ends} {f : Fin} {O : OS} {F H : Hp} (hs : SubF K W.toWc sub) (g : GoF K W O F H E f) : ∀ {l : List (Str × Option Nat × WH)} {cls : Value} {d : Option Addr} {σ' : L2.St} {O' : OS} {F' H' : Hp} {η' : Sl} {c : Str} {xs : List D},
    Step K W O F H O' F' H' → EnvR K F' σ' η' → XR K W.toWc O' F' H' cls d c xs → sWish sub f EX l c xs η' O' → wManyN K (wX K W EX) E (tsAll K W.toWc l) cls d σ' H'
  | [], cls, d, σ', O', F', H', η', c, xs, s, r, x, q => ⟨O', F', η', c, xs, s.hold, r, x, q⟩
  | (c0, none, wh) :: rest, cls, d, σ', O', F', H', η', c, xs, s, r, x, q => by
    have q : (match sub c c0 with
      | some true => ∀ a, O' a = none → wh c xs a f η' O'
      | some false => sWish sub f EX rest c xs η' O'
      | none => False) := q
    have ecl : cls = .ref (W.cA c) := by cases x <;> rfl
    cases e : sub c c0 with
    | none =>
      rw [e] at q
      exact q.elim
    | some b =>
      rw [e] at q
      refine ⟨b, by rw [ecl]; exact hs c c0 b e, fun hb a na => ?_, fun hb => ?_⟩
      · subst hb
        have g2 := g.mono s
        refine ⟨_, (Wfrom K W O' F' H').cl, c, xs, exH_of x, F', O', η', f, ⟨s.hold.toHoldC, Way.refl _ _ _, s.hold.rel⟩, r, q a (s.hold.toHoldC.freshO na), ?_⟩
        exact ⟨fun η O h σ F2 H2 t => g2.nx η O h σ F2 H2 ⟨t.toWay, ⟨t.hold.toHoldC, t.hold.rel.2⟩⟩, fun y O h v F2 H2 t => g2.rt y O h v F2 H2 ⟨t.toWay, ⟨t.hold.toHoldC, t.hold.rel.2⟩⟩,
          fun η O h σ F2 H2 t => g2.bk η O h σ F2 H2 ⟨t.toWay, ⟨t.hold.toHoldC, t.hold.rel.2⟩⟩, fun η O h σ F2 H2 t => g2.ct η O h σ F2 H2 ⟨t.toWay, ⟨t.hold.toHoldC, t.hold.rel.2⟩⟩⟩
      · subst hb
        exact wish_many hs g s r x q
  | (c0, some i, wh) :: rest, cls, d, σ', O', F', H', η', c, xs, s, r, x, q => by
    have q : (match sub c c0 with
      | some true => ∀ a, O' a = none → wh c xs a { nx := fun η' O' => f.nx (η'.set i none) O', rt := f.rt, bk := fun η' O' => f.bk (η'.set i none) O', ct := fun η' O' => f.ct (η'.set i none) O' } (η'.set i (some (.ref a))) O'
      | some false => sWish sub f EX rest c xs η' O'
      | none => False) := q
    have ecl : cls = .ref (W.cA c) := by cases x <;> rfl
    cases e : sub c c0 with
    | none =>
      rw [e] at q
      exact q.elim
    | some b =>
      rw [e] at q
      refine ⟨b, by rw [ecl]; exact hs c c0 b e, fun hb a na => ?_, fun hb => ?_⟩
      · subst hb
        have g2 := g.mono s
        refine ⟨_, (Wfrom K W O' F' H').cl, c, xs, exH_of x, F', O', _, { nx := fun η' O' => f.nx (η'.set i none) O', rt := f.rt, bk := fun η' O' => f.bk (η'.set i none) O', ct := fun η' O' => f.ct (η'.set i none) O' }, ⟨s.hold.toHoldC, Way.refl _ _ _, s.hold.rel⟩, r.set (.ref a), q a (s.hold.toHoldC.freshO na), ?_⟩
        exact ⟨fun η O h σ F2 H2 t t2 => g2.nx _ O h _ F2 H2 ⟨t.toWay, ⟨t.hold.toHoldC, t.hold.rel.2⟩⟩ t2.drop, fun y O h v F2 H2 t => g2.rt y O h v F2 H2 ⟨t.toWay, ⟨t.hold.toHoldC, t.hold.rel.2⟩⟩,
          fun η O h σ F2 H2 t t2 => g2.bk _ O h _ F2 H2 ⟨t.toWay, ⟨t.hold.toHoldC, t.hold.rel.2⟩⟩ t2.drop, fun η O h σ F2 H2 t t2 => g2.ct _ O h _ F2 H2 ⟨t.toWay, ⟨t.hold.toHoldC, t.hold.rel.2⟩⟩ t2.drop⟩
      · subst hb
        exact wish_many hs g s r x q
theorem s_try (sf : SubF X.K W.toWc sub) (tk : TkD X W EX) (hN : X.N.Nodup)
    (hb : ∀ (R : OS → Hp → Hp → Prop) (cl : ∀ {O : OS} {F H : Hp} {O' : OS} {F' H' : Hp}, R O F H → Way O F H O' F' H' → R O' F' H') (EX' : XS) (pn : List (Addr × Obj)) (xe : Value → Shared → Prop), TkD (X.tr pn xe) ⟨W.toWc, R, cl⟩ EX' → PassesOwn (model X.prog X.w) X.A X.env xe → Pss (X.tr pn xe) ⟨W.toWc, R, cl⟩ body (wb EX'))
    (hh : HdD X W.toWc (h₀ :: hds) l) (hs : X.stack = X.env :: X.outer := by rfl) (hf : X.env.frame = some X.env.locals := by rfl) : Ps X W (.Try body (h₀ :: hds) [] [] pos) (sTry sub l wb EX) := by
  refine PS.imp (ps_try_manyN (tb := fun W' D σ H => ∃ (R : OS → Hp → Hp → Prop) (cl : ∀ {O : OS} {F H : Hp} {O' : OS} {F' H' : Hp}, R O F H → Way O F H O' F' H' → R O' F' H') (EX' : XS), (∀ cls d σ H, wX X.K ⟨W.toWc, R, cl⟩ EX' cls d σ H → W' cls d σ H) ∧ lS X.K ⟨W.toWc, R, cl⟩ (wb EX') D σ H)
    hs hf hN tk (fun W' pn xe tk' hp => ⟨fun pins s σ H D I ⟨R, cl, EX', h1, h2⟩ => (hb R cl EX' pn xe (Takes.imp tk' h1) hp).run pins s σ H D I h2⟩) (hdN_of hh)) fun E σ H q => ?_
  obtain ⟨F, O, η, f, hH, hη, hw, g⟩ := q
  refine ⟨_, (Wfrom X.K W O F H).cl, sWish sub f EX l, fun cls d σ' H' q => ?_, F, O, η, f, ⟨hH.toHoldC, Way.refl _ _ _, hH.rel⟩, hη, hw, ?_⟩
  · obtain ⟨O', F', η', c, xs, h1, h2, h3, h4⟩ := q
    exact wish_many sf g ⟨h1.rel.1, h1.toHoldC, h1.rel.2⟩ h2 h3 h4
  · exact ⟨fun η O h σ F2 H2 t => g.nx η O h σ F2 H2 ⟨t.toWay, ⟨t.hold.toHoldC, t.hold.rel.2⟩⟩, fun y O h v F2 H2 t => g.rt y O h v F2 H2 ⟨t.toWay, ⟨t.hold.toHoldC, t.hold.rel.2⟩⟩,
      fun η O h σ F2 H2 t => g.bk η O h σ F2 H2 ⟨t.toWay, ⟨t.hold.toHoldC, t.hold.rel.2⟩⟩, fun η O h σ F2 H2 t => g.ct η O h σ F2 H2 ⟨t.toWay, ⟨t.hold.toHoldC, t.hold.rel.2⟩⟩⟩
end
/-! ### the exception that a suite holds -/
/-- isinstance(e, C): known of the class -/
def wIsE (sub : Str → Str → Option Bool) (c' c : Str) (a : Addr) (w : WE) : WE := fun η O Q => w η O fun d O1 => d = .ref a ∧ (match sub c' c with
  | some b => Q (.bl b) O1
  | none => False)
def SubI (K : PySem.W.Frag) (W : Wc) (sub : Str → Str → Option Bool) (c : Str) : Prop := ∀ c' b, sub c' c = some b → PySem.W.kitOne K (.ref (W.cA c')) (.ref (W.cA c)) = some b ∧ ExcC K (W.cA c') ∧ W.lay c' = []
section
variable {X : Cx} {W : Wd} {a : Addr} {oe : Obj} {cls : Value} {d : Option Addr} {pn : List (Addr × Obj)} {c' c x : Str} {xs : List D} {e : Expr} {w : WE} {pos p p2 : Pos} {sub : Str → Str → Option Bool}
theorem x_isE (hz : Zc cls d oe) (hf : ∃ vs, oe.data = .fields vs) (hx : ExH X.K W cls d c' xs) (si : SubI X.K W.toWc sub c) (hm : X.mg "isinstance" = none) (hC : X.mg x = some (.ref (W.cA c))) (h : Pe (X.suite a ((a, oe) :: pn)) W e w) (hg : Gl X "isinstance" := by rfl) (hg2 : Gl X x := by rfl)
    (hd2 : (x == ("__debug__" : Str)) = false := by decide)
    (na : starEach [e, .Name x p2] X.env = (false, eval e X.env) :: starEach [.Name x p2] X.env := by rfl) (nb : starEach [Expr.Name x p2] X.env = (false, eval (.Name x p2) X.env) :: starEach [] X.env := by rfl) (hp : (backTo pos (starEach [Expr.Name x p2] X.env)).any (·.1) = false := by rfl) :
    Pe (X.suite a ((a, oe) :: pn)) W (.Call (.Name "isinstance" p) [e, .Name x p2] [] pos) (wIsE sub c' c a w) := by
  have hc : CallR (X.suite a ((a, oe) :: pn)) (.builtin "isinstance") (fun zs H Q => ∃ b, sub c' c = some b ∧ rIsE X.K (W.cA c') a zs H Q) := by
    intro pins s σ H zs us Q I r h
    obtain ⟨b, e1, q⟩ := h
    obtain ⟨k1, k2, k3⟩ := si c' b e1
    obtain ⟨rfl, hd⟩ := hx
    rcases hd with ⟨rfl, _⟩ | ⟨dx, f, v, y, _, _, h3, _⟩
    · exact call_isE k2 hz hf pins s σ H zs us Q I r q
    · rw [k3] at h3
      cases h3
  refine PE.imp (pe_callB (X := X.suite a ((a, oe) :: pn)) hc hg hm boot_isinstance (pa_cons h (pa_cons (pe_glob (X := X.suite a ((a, oe) :: pn)) (v := .ref (W.cA c)) hg2 hC rfl hd2) pa_nil nb) na) (by decide) (by decide) na hp) fun σ H Q q => ?_
  obtain ⟨F, O, η, Q0, hH, hη, hw, hQ⟩ := q
  refine ⟨F, O, η, _, hH, hη, hw, fun y O1 h1 v F1 H1 s1 r1 => ?_⟩
  obtain ⟨rfl, h2⟩ := h1
  cases r1
  cases es : sub c' c with
  | none =>
    rw [es] at h2
    exact h2.elim
  | some b =>
    rw [es] at h2
    exact ⟨b, rfl, .ref (W.cA c), .ref (W.cA c), b, rfl, fun u hu => hu, (si c' b es).1, hQ _ _ h2 _ _ _ s1 (.bl b)⟩
end
end Sw

set_option maxRecDepth 100000
set_option maxHeartbeats 4000000
namespace Sw
open PySem PySem.Spec PyProof.Rows L2
/-! ### short names -/
abbrev oLt : R2D := rJ2 fun i j => .bl (decide (i < j))
abbrev oLe : R2D := rJ2 fun i j => .bl (decide (i ≤ j))
abbrev oGt : R2D := rJ2 fun i j => .bl (decide (j < i))
abbrev oGe : R2D := rJ2 fun i j => .bl (decide (j ≤ i))
abbrev oEq : R2D := rEqq false
abbrev oNe : R2D := rEqq true
abbrev oIs : R2D := rIs false
abbrev oIsn : R2D := rIs true
abbrev oIn : R2D := rInn false
abbrev oNin : R2D := rInn true
abbrev oAdd : R2D := rAdd
abbrev oSub : R2D := rJ2 fun i j => .int (i - j)
abbrev oMul : R2D := rMul
abbrev oDiv : R2D := rI2 CDiv fun i j => .int (i / j)
abbrev oMod : R2D := rI2 (fun _ j => 0 < j) fun i j => .int (i % j)
abbrev oPow : R2D := rI2 CPow fun i j => .int (i ^ j.toNat)
abbrev oShl : R2D := rI2 CPow fun i j => .int (i * 2 ^ j.toNat)
abbrev oShr : R2D := rI2 (fun _ j => 0 ≤ j) fun i j => .int (i / 2 ^ j.toNat)
abbrev oBan : R2D := rJ2 fun i j => .int (Builtin.bitAnd i j)
abbrev oBor : R2D := rJ2 fun i j => .int (Builtin.bitOr i j)
abbrev oBxo : R2D := rJ2 fun i j => .int (Builtin.bitXor i j)
abbrev oIad : R2D := rJ2 fun i j => .int (i + j)
abbrev oIsu : R2D := rJ2 fun i j => .int (i - j)
abbrev oIx : R2D := rIdx
abbrev oNeg : D → OS → QD → Prop := fun d O Q => match d with
  | .int i => Q (.int (-i)) O
  | _ => False
/-! ### facts of the text's heap -/
inductive Fy where
  | tup (x : Str) (vs : List He.Dv)
  | oex (x f : Str)
  | isE (x y : Str) (b : Bool)
  | cls (x : Str) (fs : List Str)
  | exms (l : List (Str × Str × Bool))
  | isEs (l : List (Str × Str × Bool))
def oexB (K : PySem.W.Frag) (C : Addr) : Bool := match K.lookup C with
  | some ⟨.type "type", _, .cls cd, sl⟩ => (match cd.mro, sl.toList with
    | .ref C' :: bm, [_, _, _, _, some (.builtin n), _] => C' == C && n == "ValueError.__new__" && !cd.hasDel && cd.hasDict && HandSPX.refsVE bm
    | _, _ => false)
  | _ => false
def isEB (K : PySem.W.Frag) (x y : Str) (b : Bool) : Bool := decide (PySem.W.kitOne K (.ref (He.ga K x)) (.ref (He.ga K y)) = some b) && (He.eqO (PySem.W.findIn K (.ref (He.ga K x)) "__getattribute__") (some (some (.builtin "BaseException.__getattribute__"))) && (He.eqO (PySem.W.findIn K (.ref (He.ga K x)) "__getattr__") (some none) &&
      (decide (PySem.W.subIn K (.ref (He.ga K x)) (.type "BaseException") = some true) && (PySem.W.hasDictIn K (He.ga K x) && (He.eqO (PySem.W.findIn K (.ref (He.ga K x)) "__class__") (some (some (.builtin "object.__class__"))) &&
      (He.eqO (PySem.W.specialIn K (.builtin "object.__class__") "__get__") (some (some (.builtin "getset_descriptor.__get__"))) && (decide (PySem.W.takesIn K (.builtin "object.__class__") = some true) && decide (PySem.W.mroIn K (He.ga K x) (.type "object") = some true))))))))
def Fy.ok (K : PySem.W.Frag) : Fy → Bool
  | .tup x vs => He.tupB K x vs
  | .oex x f => oexB K (He.ga K x) && (He.eqO (PySem.W.findIn K (.ref (He.ga K x)) "__setattr__") (some (some (.builtin "object.__setattr__"))) && (decide (PySem.W.subIn K (.ref (He.ga K x)) (.type "BaseException") = some true) &&
      (decide (PySem.W.typeIn K (.ref (He.ga K x)) = some (.type "type")) && (PySem.W.keepIn K (.ref (He.ga K x)) && (He.eqO (PySem.W.findIn K (.ref (He.ga K x)) "__init__") (some (some (.ref (He.ma K (He.ga K x) "__init__")))) &&
      (decide (PySem.W.typeIn K (.ref (He.ma K (He.ga K x) "__init__")) = some (.type "function")) && He.eqO (PySem.W.findIn K (.ref (He.ga K x)) f) (some none)))))))
  | .cls x fs => (He.Fa.cls x).ok K && fs.all fun f => (He.Fa.noat x f).ok K
  | .exms l => l.all fun t => (He.Fa.exm t.1 t.2.1 t.2.2).ok K
  | .isEs l => l.all fun t => isEB K t.1 t.2.1 t.2.2
  | .isE x y b => isEB K x y b
section
variable {K : PySem.W.Frag}
theorem oexB_ok {C : Addr} (q : oexB K C = true) : ∃ nm q N bs bm sn sub ab col dd k0 k1 k2 k3 k5, K.lookup C = some (excClassObj nm q C N bs bm true sn sub ab col dd k0 k1 k2 k3 k5 "ValueError.__new__") ∧ PySem.HandSPX.refsVE bm = true := by
  unfold oexB at q
  split at q
  · rename_i dd cd sl ho
    split at q
    · rename_i C' bm k0 k1 k2 k3 n k5 hm hs
      simp only [Bool.and_eq_true, beq_iff_eq, Bool.not_eq_true'] at q
      obtain ⟨⟨⟨⟨rfl, rfl⟩, hdel⟩, hdc⟩, ht⟩ := q
      obtain ⟨nm, bs, mro, ns, qn, hd, sn, sub, ab, col, del⟩ := cd
      dsimp only at hm hdel hdc
      subst hm hdel hdc
      have hsl : sl = #[k0, k1, k2, k3, some (.builtin "ValueError.__new__"), k5] := by
        obtain ⟨l⟩ := sl
        simp only at hs
        rw [hs]
      subst hsl
      exact ⟨nm, qn, ns, bs, bm, sn, sub, ab, col, dd, k0, k1, k2, k3, k5, ho, ht⟩
    · cases q
  · cases q
theorem oex_ok {x f : Str} (c : (Fy.oex x f).ok K = true) : OexC K (He.ga K x) ∧ PySem.W.findIn K (.ref (He.ga K x)) "__init__" = some (some (.ref (He.ma K (He.ga K x) "__init__"))) ∧ PySem.W.typeIn K (.ref (He.ma K (He.ga K x) "__init__")) = some (.type "function") ∧ PySem.W.findIn K (.ref (He.ga K x)) f = some none := by
  obtain ⟨c1, c⟩ := He.ba c
  obtain ⟨c2, c⟩ := He.ba c
  obtain ⟨c3, c⟩ := He.ba c
  obtain ⟨c4, c⟩ := He.ba c
  obtain ⟨c5, c⟩ := He.ba c
  obtain ⟨c6, c⟩ := He.ba c
  obtain ⟨c7, c8⟩ := He.ba c
  exact ⟨⟨oexB_ok c1, He.eqO_ok c2, of_decide_eq_true c3, of_decide_eq_true c4, c5⟩, He.eqO_ok c6, of_decide_eq_true c7, He.eqO_ok c8⟩
theorem isE_ok {x y : Str} {b : Bool} (c : isEB K x y b = true) : PySem.W.kitOne K (.ref (He.ga K x)) (.ref (He.ga K y)) = some b ∧ ExcC K (He.ga K x) := by
  obtain ⟨c1, c⟩ := He.ba c
  obtain ⟨c2, c⟩ := He.ba c
  obtain ⟨c3, c⟩ := He.ba c
  obtain ⟨c4, c⟩ := He.ba c
  obtain ⟨c5, c⟩ := He.ba c
  obtain ⟨c6, c⟩ := He.ba c
  obtain ⟨c7, c⟩ := He.ba c
  obtain ⟨c8, c9⟩ := He.ba c
  exact ⟨of_decide_eq_true c1, ⟨He.eqO_ok c2, He.eqO_ok c3, of_decide_eq_true c4, c5, He.eqO_ok c6, He.eqO_ok c7, of_decide_eq_true c8, of_decide_eq_true c9⟩⟩
end
/-! ### the Hook -/
abbrev AlS : Type := He.AlD × Bool
def obsS (fa : List He.Fa) (fn : List He.DefD) (fy : List Fy) (K : PySem.W.Frag) : AlS := (He.obsD fa fn K, fy.all fun f => f.ok K)
def valS (fn : List He.DefD) : AlS := (He.valD fn, true)
def SaysS (fa : List He.Fa) (fn : List He.DefD) (fy : List Fy) (K : PySem.W.Frag) : Prop := obsS fa fn fy K = valS fn
def obsSG (n : Nat) (fa : List He.Fa) (fn : List He.DefD) (fy : List Fy) (g : Addr → Option Obj) : AlS := obsS fa fn fy (He.frG g (He.asD g n))
def hookS (n : Nat) (fa : List He.Fa) (fn : List He.DefD) (fy : List Fy) : PySem.W.Hook where
  α := AlS
  obs := fun s => obsSG n fa fn fy s.heap.get?
  val := fun _ => valS fn
  says := fun _ h => ∃ K : PySem.W.Frag, K.In h ∧ SaysS fa fn fy K
  of := fun _ _ e => ⟨_, He.frG_in, e⟩
  keeps := fun _ _ _ ⟨K, hK, c⟩ k => ⟨K, PySem.W.Frag.In.keeps hK k, c⟩
theorem obsSG_eq {n : Nat} {fa : List He.Fa} {fn : List He.DefD} {fy : List Fy} {g : Addr → Option Obj} {s : Shared} (h : ∀ a, g a = s.heap.get? a) : obsSG n fa fn fy g = (hookS n fa fn fy).obs s := by
  have e : g = s.heap.get? := funext h
  rw [e] <;> rfl
/-- the facts, with the module's names -/
structure Fx (fa : List He.Fa) (fn : List He.DefD) (fy : List Fy) (K : PySem.W.Frag) (mg : Str → Option Value) : Prop where
  h : ∃ h : Heap, K.In h ∧ h.Ns mainGlobals mg
  c : SaysS fa fn fy K
section
variable {fa : List He.Fa} {fn : List He.DefD} {fy : List Fy} {K : PySem.W.Frag} {mg : Str → Option Value} (fx : Fx fa fn fy K mg)
include fx
theorem Fx.d : He.SaysD fa fn K := congrArg (fun z : AlS => z.1) fx.c
theorem Fx.fact (i : Nat) {f : He.Fa} (h : fa[i]? = some f) : f.ok K = true := fx.d.fact i h
theorem Fx.def_ (i : Nat) {d : He.DefD} (h : fn[i]? = some d) : ∃ fd, FunD K d.name d.qual d.params d.body d.scope (d.dvs K) (d.kws K) (He.fAd K d.at_) fd := fx.d.def_ i h
theorem Fx.y (i : Nat) {f : Fy} (h : fy[i]? = some f) : f.ok K = true := by
  have c1 : (fy.all fun f => f.ok K) = true := congrArg (fun z : AlS => z.2) fx.c
  exact List.all_eq_true.mp c1 f (List.mem_of_getElem? h)
theorem Fx.free (i : Nat) {x : Str} (e : fa[i]? = some (.free x)) : mg x = none := by
  obtain ⟨h, X, G⟩ := fx.h
  exact He.free_ok X G (fx.fact i e)
theorem Fx.glo (i : Nat) {x : Str} (e : fa[i]? = some (.glo x)) : mg x = some (.ref (He.ga K x)) := by
  obtain ⟨h, X, G⟩ := fx.h
  exact He.glo_ok X G (fx.fact i e)
theorem Fx.int (i : Nat) {x : Str} {n : Int} (e : fa[i]? = some (.int x n)) : ∃ t, mg x = some (.int n t) := by
  obtain ⟨h, X, G⟩ := fx.h
  exact He.int_ok X G (fx.fact i e)
theorem Fx.str (i : Nat) {x z : Str} (e : fa[i]? = some (.str x z)) : ∃ t, mg x = some (.str z t) := by
  obtain ⟨h, X, G⟩ := fx.h
  exact He.str_ok X G (fx.fact i e)
end
/-! ### classes -/
def subOf (l : List (Str × Str × Bool)) (c' c : Str) : Option Bool := (l.find? fun t => t.1 == c' && t.2.1 == c).map (·.2.2)
theorem subOf_mem {l : List (Str × Str × Bool)} {c' c : Str} {b : Bool} (h : subOf l c' c = some b) : (c', c, b) ∈ l := by
  obtain ⟨t, h1, h2⟩ := Option.map_eq_some_iff.mp h
  have h3 := List.find?_some h1
  have h4 := List.mem_of_find?_eq_some h1
  obtain ⟨e1, e2⟩ := Bool.and_eq_true_iff.mp h3
  have e1 := eq_of_beq e1
  have e2 := eq_of_beq e2
  subst e1 e2 h2
  exact h4
theorem exms_ok {K : PySem.W.Frag} {W : Wc} {l : List (Str × Str × Bool)} (hW : W.cA = fun c => He.ga K c) (c : (Fy.exms l).ok K = true) : SubF K W (subOf l) := fun c' c0 b h => by
  rw [hW]
  exact He.exm_ok (List.all_eq_true.mp c _ (subOf_mem h))
theorem isEs_ok {K : PySem.W.Frag} {W : Wc} {l : List (Str × Str × Bool)} (hW : W.cA = fun c => He.ga K c) (c : (Fy.isEs l).ok K = true) (hl : ∀ t ∈ l, W.lay t.1 = []) (c0 : Str) : SubI K W (subOf l) c0 := fun c' b h => by
  rw [hW]
  have m := subOf_mem h
  obtain ⟨h1, h2⟩ := isE_ok (List.all_eq_true.mp c _ m)
  exact ⟨h1, h2, hl _ m⟩
theorem cls_okF {K : PySem.W.Frag} {W : Wc} {x : Str} {fs : List Str} (hW : W.cA x = He.ga K x) (hl : W.lay x = fs) (c : (Fy.cls x fs).ok K = true) (nd : fs.Nodup) (sz : fs.length < 900) : ClsF K W x := by
  obtain ⟨c1, c2⟩ := He.ba c
  exact ⟨by rw [hW]; exact He.cls_ok c1, by rw [hl]; exact nd, fun f hf => by
    rw [hW]
    rw [hl] at hf
    exact He.noat_ok (List.all_eq_true.mp c2 f hf), by rw [hl]; exact sz⟩
/-! ### binding -/
theorem kbAll {K : PySem.W.Frag} {x qual : Str} {params : Arguments} {body : List Stmt} {scope : Scope} {kws : List (Str × V)} {f : Addr} {fd : FuncData} {ps ks : List Str} {n : Nat} (F : FunD K x qual params body scope [] kws f fd)
    (h : ∀ (kV doc pm : Value) (an : Option Addr) (cdv ct : Value) (us ws : List Value), us.length = n → ws.length = ks.length → bindArgs (PySem.W.fnOf x qual params body scope .none kV doc pm an cdv ct) ⟨us, ks.zip ws⟩ = pure (ps.zip (us ++ ws))) :
    KBn K fd ps n ks (fun us ws => us ++ ws) (fun vs zs => vs ++ zs) := by
  obtain ⟨oc, od, dV, kV, doc, pm, an, cdv, ct, osl, rfl, lk, hcd, hD, hK⟩ := F.ex
  rcases hD with ⟨_, rfl⟩ | ⟨e, _⟩
  · exact ⟨fun s us ws _ l1 l2 => .of_eq (h kV doc pm an cdv ct us ws l1 l2), fun r1 r2 => r1.append r2⟩
  · exact absurd rfl e
/-! ### a module's tuple -/
def dvD : He.Dv → Option D
  | .non => some .non
  | .bl b => some (.bl b)
  | .int i => some (.int i)
  | .str x => some (.str x)
  | _ => none
def dvsD : List He.Dv → Option (List D)
  | [] => some []
  | v :: vs => (dvD v).bind fun d => (dvsD vs).map fun ds => d :: ds
theorem dvD_rep {K : PySem.W.Frag} {F : Hp} {v : He.Dv} {d : D} (h : dvD v = some d) : Rep K F (v.v K) d := by
  cases v <;> cases h
  · exact .non
  · exact .bl _
  · exact .int _
  · exact .str _
theorem dvsD_rep {K : PySem.W.Frag} {F : Hp} : ∀ {vs : List He.Dv} {ds : List D}, dvsD vs = some ds → RepL K F (vs.map (He.Dv.v K)) ds
  | [], _, h => by
    cases h
    exact .nil
  | v :: vs, _, h => by
    obtain ⟨d, h1, h2⟩ := Option.bind_eq_some_iff.mp h
    obtain ⟨e, h3, h4⟩ := Option.map_eq_some_iff.mp h2
    subst h4
    exact .cons (dvD_rep h1) (dvsD_rep h3)
theorem tup_rep {K : PySem.W.Frag} {x : Str} {vs : List He.Dv} {l : List D} (c : (Fy.tup x vs).ok K = true) (h : dvsD vs = some l) (F : Hp) : Rep K F (.ref (He.ga K x)) (.tup l) := .tup (He.tupB_ok c F) (dvsD_rep h)
end Sw

set_option maxRecDepth 100000
set_option maxHeartbeats 4000000
namespace Sw
open PySem PySem.Spec PyProof.Rows L2
/-! ### a list or a tuple, walked -/
def iSq (K : PySem.W.Frag) (tl : TE) : TI := fun σ H R => tl σ H fun x H1 => ∃ a, x = .ref a ∧ (((∃ xs, SqL K H1 a xs) ∧ R (Itl K a) H1) ∨ ((∃ xs, SqT K H1 a xs) ∧ R (Itt K a) H1))
section
variable {X : Cx} {W : Wd} {tg e : Expr}
theorem pi_sq {tl : TE} (hl : PE X e tl) : PI X tg e (iSq X.K tl) := by
  refine ⟨fun pins s σ H R I h => ?_⟩
  refine thn (hl.run pins s σ H _ I h) fun v s1 ⟨x, H1, I1, r1, q1⟩ => ?_
  obtain ⟨a, e, q1⟩ := q1
  subst e
  cases r1
  rcases q1 with ⟨⟨xs, hq⟩, q⟩ | ⟨⟨xs, hq⟩, q⟩
  · obtain ⟨its, rv, p, hz⟩ := I1.list hq
    refine wpAny_pyIter_list p.isList ?_
    refine ⟨s1.heap.objs.size, [s1.heap.objs.size], _, _, H1, rfl, I1.kept (t' := s1.toks) fun b o e => Heap.get?_push_of_some _ e, turn_list a _, ⟨_, Heap.get?_push_size _ rfl, rfl, rfl⟩, fun b hb => ?_, q⟩
    have e : b = s1.heap.objs.size := by simpa using hb
    subst e
    exact I1.fpOk (Nat.le_refl _) (I1.hok.fresh (Nat.le_refl _))
  · obtain ⟨its, rv, p, hz⟩ := I1.tuple hq
    refine wpAny_pyIter_tuple (show s1.heap.IsTuple a its.toArray from p) ?_
    refine ⟨s1.heap.objs.size, [s1.heap.objs.size], _, _, H1, rfl, I1.kept (t' := s1.toks) fun b o e => Heap.get?_push_of_some _ e, turn_tuple a _, ⟨_, Heap.get?_push_size _ rfl, rfl, rfl⟩, fun b hb => ?_, q⟩
    have e : b = s1.heap.objs.size := by simpa using hb
    subst e
    exact I1.fpOk (Nat.le_refl _) (I1.hok.fresh (Nat.le_refl _))
theorem i_sq {w : WE} (h : Pe X W e w) : Pi X W tg e (wiL w) := PI.imp (pi_sq h) fun σ H R q => by
  obtain ⟨F, O, η, Q0, hH, hη, hw, hQ⟩ := q
  refine ⟨F, O, η, _, hH, hη, hw, fun d O1 h1 v F1 H1 s1 r1 => ?_⟩
  have val : (∀ p, d ≠ .ref p) → (match asR O1 d with
      | some l => Q0 l anySt O1
      | none => False) → ∃ a, v = .ref a ∧ (((∃ xs, SqL X.K H1 a xs) ∧ R (Itl X.K a) H1) ∨ ((∃ xs, SqT X.K H1 a xs) ∧ R (Itt X.K a) H1)) := fun hn w => by
    cases e : asR O1 d with
    | none =>
      rw [e] at w
      exact w.elim
    | some l =>
      rw [e] at w
      obtain ⟨a, xs, rfl, h2, h3⟩ := rep_fz s1.hold r1 hn e
      exact ⟨a, rfl, .inl ⟨⟨xs, s1.hold.fz.sqL h2⟩, hQ _ _ _ w _ _ _ s1 (itR_list fun O' F' H' s hH' _ => ⟨xs, hH'.fz.sqL (s.sqL h2), h3.mono s⟩)⟩⟩
  cases d with
  | tup l =>
    cases r1 with
    | tup h2 h3 => exact ⟨_, rfl, .inr ⟨⟨_, s1.hold.fz.sqT h2⟩, hQ _ _ _ h1 _ _ _ s1 (itR_tup h2 h3)⟩⟩
  | ref p =>
    cases r1
    have h1 : (match O1 p with
      | some (.ml l) => Q0 l (fun O' => O' p = some (.ml l)) O1
      | _ => False) := h1
    cases e : O1 p with
    | none =>
      rw [e] at h1
      exact h1.elim
    | some o =>
      rw [e] at h1
      cases o <;> first | exact h1.elim | skip
      obtain ⟨xs, h2, h3⟩ := ml_at s1.hold e
      refine ⟨p, rfl, .inl ⟨⟨xs, SqL.of h2⟩, hQ _ _ _ h1 _ _ _ s1 (itR_list fun O' F' H' s hH' st => ?_)⟩⟩
      obtain ⟨ys, h4, h5⟩ := ml_at hH' st
      exact ⟨ys, SqL.of h4, h5⟩
  | _ => exact val (fun _ z => nomatch z) h1
end
/-! ### the end -/
theorem cx_none {P : Program} {w : World} {H : Hp} {s : Shared} {e : Value} {s' : Shared} (c : L2.CX P w [] H s (fun _ _ _ => False) e s') : False := by
  obtain ⟨_, _, _, _, _, _, _, _, _, _, _, _, h⟩ := c
  exact h
/-- the law's def, of scripts of at most n ints: what it must answer -/
def LawD (fs : FS) (n : Nat) : Prop := ∀ (ns : List Int), ns.length ≤ n → (∀ z ∈ ns, Builtin.Int.intBits z ≤ 1048576) → fs [.scr (ns.map .int)] (fun _ => none) (fun d _ => d = .bl true) fun _ _ _ => False
theorem walk_ofD {l : PySem.W.OpenLaw} {n k : Nat} {q : Program} {loose : List Str} {XP : (Str → Option Value) → Heap → Prop} {YP : World → Heap → Prop} {d : DefRec} {x : Str} {fs : FS} {W0 : PySem.W.Frag → Wc}
    (hn : l.most = some n) (hn2 : n ≤ sizeLine) (hdf : d.params.defaults = []) (hr : Room k callerA)
    (F : ∀ (w : World) (mg : Str → Option Value) (fa : Addr) (h : Heap), YP w h → h.Ns mainGlobals mg → mg d.name = some (.ref fa) →
      ∃ (K : PySem.W.Frag) (fd : FuncData), K.In h ∧ (∀ (s : Shared) (u : Value), BindsTo s fd ⟨[u], []⟩ [(x, u)]) ∧
        ∀ base : Heap, K.In base → base.Ns mainGlobals mg → FnOk l.prog w K mg base (L2.CX l.prog w) k fa fd [x] (spD K (W0 K) 1 fs))
    (law : LawD fs n) : PySem.W.WalkO q loose XP YP l.row.toRowW d [] (fun f vs => PySem.call f vs) := by
  refine Att.attach_callB hn hdf fun w s₀ s₁ mg mb fa o pm cd doc a vs ns G Y ho hd hcd hmg hobj hints hlen hbits hg => ?_
  obtain ⟨K, fd, KX, hb, hF⟩ := F w mg fa _ Y G.T.g hmg
  refine law_call KX G.T.g G.T.b G.T.builtins G.T.nolimit hg hobj hints (Nat.le_trans hlen hn2) hr hF hb (fun H hO hS => ?_) fun H e s' c => cx_none c
  refine ⟨H, fun _ => none, [.scr (ns.map .int)], _, _, ⟨Sub.refl H, fun _ _ e => nomatch e⟩, .cons (.scr hS (repL_of_ints ns)) .nil, rfl, law ns hlen hbits, fun d O' h v F' H' _ _ r => ?_, fun _ _ _ h => h.elim⟩
  subst h
  cases r
  rfl
end Sw

set_option maxRecDepth 100000
set_option maxHeartbeats 4000000
namespace Sw
open PySem PySem.Spec PyProof.Rows L2
/-! ### readings, step by step -/
def onBl (d : D) (k : Bool → Prop) : PKp k := match d with
  | .bl b => k b
  | _ => False
def onInt (d : D) (k : Int → Prop) : PKp k := match d with
  | .int b => k b
  | _ => False
def onTF (b : Bool) (t f : Prop) : PKp (t, f) := match b with
  | true => t
  | false => f
def onO {α : Type} (o : Option α) (k : α → Prop) : PKp k := match o with
  | some x => k x
  | none => False
def mlO : Option OV → Option (List D)
  | some (.ml l) => some l
  | _ => none
def insO : Option OV → Option (Str × List D)
  | some (.ins c l) => some (c, l)
  | _ => none
def lenO : Option OV → Option Nat
  | some (.ml l) => some l.length
  | some (.md l) => some l.length
  | _ => none
def onIns (O : OS) (c : Str) (x : D) (k : Addr → List D → Prop) : PKp (O, c, k) := match x with
  | .ref a => (match O a with
    | some (.ins c' ds) => c' = c ∧ k a ds
    | _ => False)
  | _ => False
def slotAt (η : Sl) (i : Nat) : Option D := match η[i]? with
  | some (some d) => some d
  | _ => none
@[simp ↓] theorem onBl_bl {b : Bool} {k : Bool → Prop} : onBl (.bl b) k = k b := propext Iff.rfl
@[simp ↓] theorem onInt_int {b : Int} {k : Int → Prop} : onInt (.int b) k = k b := propext Iff.rfl
@[simp ↓] theorem onTF_t {t f : Prop} : onTF true t f = t := propext Iff.rfl
@[simp ↓] theorem onTF_f {t f : Prop} : onTF false t f = f := propext Iff.rfl
@[simp ↓] theorem onO_some {α : Type} {x : α} {k : α → Prop} : onO (some x) k = k x := propext Iff.rfl
@[simp ↓] theorem onO_none {α : Type} {k : α → Prop} : onO none k = False := propext Iff.rfl
@[simp] theorem mlO_ml {l : List D} : mlO (some (.ml l)) = some l := rfl
@[simp] theorem mlO_ins {c : Str} {l : List D} : mlO (some (.ins c l)) = none := rfl
@[simp] theorem mlO_none : mlO none = none := rfl
@[simp] theorem lenO_ml {l : List D} : lenO (some (.ml l)) = some l.length := rfl
@[simp] theorem insO_ins {c : Str} {l : List D} : insO (some (.ins c l)) = some (c, l) := rfl
@[simp] theorem insO_ml {l : List D} : insO (some (.ml l)) = none := rfl
@[simp ↓] theorem onIns_ref {O : OS} {c : Str} {p : Addr} {k : Addr → List D → Prop} : onIns O c (.ref p) k = onO (insO (O p)) fun q => q.1 = c ∧ k p q.2 := by
  show (match O p with
    | some (.ins c' ds) => c' = c ∧ k p ds
    | _ => False) = _
  cases O p with
  | none => rfl
  | some o => cases o <;> rfl
@[simp ↓] theorem onMl_ref {O : OS} {p : Addr} {k : Addr → List D → Prop} : onMl O (.ref p) k = onO (mlO (O p)) (k p) := by
  show (match O p with
    | some (.ml l) => k p l
    | _ => False) = _
  cases O p with
  | none => rfl
  | some o => cases o <;> rfl
@[simp] theorem asR_scr {O : OS} {l : List D} : asR O (.scr l) = some l := rfl
@[simp] theorem asR_lst {O : OS} {l : List D} : asR O (.lst l) = some l := rfl
@[simp] theorem asR_tup {O : OS} {l : List D} : asR O (.tup l) = none := rfl
@[simp] theorem asL_lst {O : OS} {l : List D} : asL O (.lst l) = some l := rfl
@[simp] theorem asL_ref {O : OS} {p : Addr} : asL O (.ref p) = mlO (O p) := by
  show (match O p with
    | some (.ml l) => some l
    | _ => none) = _
  cases O p with
  | none => rfl
  | some o => cases o <;> rfl
@[simp] theorem asR_ref {O : OS} {p : Addr} : asR O (.ref p) = mlO (O p) := asL_ref
@[simp] theorem slotAt_z {o : Option D} {l : Sl} : slotAt (o :: l) 0 = o := by cases o <;> rfl
@[simp] theorem slotAt_s {o : Option D} {l : Sl} {i : Nat} : slotAt (o :: l) (i + 1) = slotAt l i := rfl

@[simp] theorem slotAt_1 {o : Option D} {l : Sl} : slotAt (o :: l) 1 = slotAt l 0 := rfl
@[simp] theorem slotAt_2 {o : Option D} {l : Sl} : slotAt (o :: l) 2 = slotAt l 1 := rfl
@[simp] theorem slotAt_3 {o : Option D} {l : Sl} : slotAt (o :: l) 3 = slotAt l 2 := rfl
@[simp] theorem slotAt_4 {o : Option D} {l : Sl} : slotAt (o :: l) 4 = slotAt l 3 := rfl
@[simp] theorem slotAt_5 {o : Option D} {l : Sl} : slotAt (o :: l) 5 = slotAt l 4 := rfl
@[simp] theorem slotAt_6 {o : Option D} {l : Sl} : slotAt (o :: l) 6 = slotAt l 5 := rfl
@[simp] theorem slotAt_7 {o : Option D} {l : Sl} : slotAt (o :: l) 7 = slotAt l 6 := rfl
@[simp] theorem slotAt_8 {o : Option D} {l : Sl} : slotAt (o :: l) 8 = slotAt l 7 := rfl
@[simp] theorem slotAt_9 {o : Option D} {l : Sl} : slotAt (o :: l) 9 = slotAt l 8 := rfl
@[simp] theorem slotAt_10 {o : Option D} {l : Sl} : slotAt (o :: l) 10 = slotAt l 9 := rfl
@[simp] theorem slotAt_11 {o : Option D} {l : Sl} : slotAt (o :: l) 11 = slotAt l 10 := rfl
@[simp] theorem slotAt_12 {o : Option D} {l : Sl} : slotAt (o :: l) 12 = slotAt l 11 := rfl
@[simp] theorem slotAt_13 {o : Option D} {l : Sl} : slotAt (o :: l) 13 = slotAt l 12 := rfl
@[simp] theorem slotAt_14 {o : Option D} {l : Sl} : slotAt (o :: l) 14 = slotAt l 13 := rfl
@[simp] theorem slotAt_15 {o : Option D} {l : Sl} : slotAt (o :: l) 15 = slotAt l 14 := rfl
@[simp] theorem slotAt_16 {o : Option D} {l : Sl} : slotAt (o :: l) 16 = slotAt l 15 := rfl
@[simp] theorem slotAt_17 {o : Option D} {l : Sl} : slotAt (o :: l) 17 = slotAt l 16 := rfl
@[simp] theorem slotAt_18 {o : Option D} {l : Sl} : slotAt (o :: l) 18 = slotAt l 17 := rfl
@[simp] theorem slotAt_19 {o : Option D} {l : Sl} : slotAt (o :: l) 19 = slotAt l 18 := rfl
@[simp] theorem slotAt_20 {o : Option D} {l : Sl} : slotAt (o :: l) 20 = slotAt l 19 := rfl
@[simp] theorem slotAt_21 {o : Option D} {l : Sl} : slotAt (o :: l) 21 = slotAt l 20 := rfl
@[simp] theorem slotAt_22 {o : Option D} {l : Sl} : slotAt (o :: l) 22 = slotAt l 21 := rfl
@[simp] theorem slotAt_23 {o : Option D} {l : Sl} : slotAt (o :: l) 23 = slotAt l 22 := rfl
@[simp] theorem slotAt_24 {o : Option D} {l : Sl} : slotAt (o :: l) 24 = slotAt l 23 := rfl
@[simp] theorem slotAt_25 {o : Option D} {l : Sl} : slotAt (o :: l) 25 = slotAt l 24 := rfl
@[simp] theorem slotAt_26 {o : Option D} {l : Sl} : slotAt (o :: l) 26 = slotAt l 25 := rfl
@[simp] theorem slotAt_27 {o : Option D} {l : Sl} : slotAt (o :: l) 27 = slotAt l 26 := rfl
@[simp] theorem slotAt_28 {o : Option D} {l : Sl} : slotAt (o :: l) 28 = slotAt l 27 := rfl
@[simp] theorem slotAt_29 {o : Option D} {l : Sl} : slotAt (o :: l) 29 = slotAt l 28 := rfl
@[simp] theorem slotAt_30 {o : Option D} {l : Sl} : slotAt (o :: l) 30 = slotAt l 29 := rfl
@[simp] theorem slotAt_31 {o : Option D} {l : Sl} : slotAt (o :: l) 31 = slotAt l 30 := rfl
@[simp] theorem slotAt_32 {o : Option D} {l : Sl} : slotAt (o :: l) 32 = slotAt l 31 := rfl
@[simp] theorem slotAt_33 {o : Option D} {l : Sl} : slotAt (o :: l) 33 = slotAt l 32 := rfl
@[simp] theorem slotAt_34 {o : Option D} {l : Sl} : slotAt (o :: l) 34 = slotAt l 33 := rfl
@[simp] theorem slotAt_35 {o : Option D} {l : Sl} : slotAt (o :: l) 35 = slotAt l 34 := rfl
@[simp] theorem slotAt_36 {o : Option D} {l : Sl} : slotAt (o :: l) 36 = slotAt l 35 := rfl
@[simp] theorem slotAt_37 {o : Option D} {l : Sl} : slotAt (o :: l) 37 = slotAt l 36 := rfl
@[simp] theorem slotAt_38 {o : Option D} {l : Sl} : slotAt (o :: l) 38 = slotAt l 37 := rfl
@[simp] theorem slotAt_39 {o : Option D} {l : Sl} : slotAt (o :: l) 39 = slotAt l 38 := rfl
@[simp ↓] theorem wVar_s {i : Nat} {η : Sl} {O : OS} {Q : QD} : wVar i η O Q = (onO (slotAt η i) fun d => Q d O) := by
  unfold wVar slotAt
  cases η[i]? with
  | none => rfl
  | some o => cases o <;> rfl
@[simp ↓] theorem wC_s {d : D} {η : Sl} {O : OS} {Q : QD} : wC d η O Q = (Q d O) := propext Iff.rfl
@[simp ↓] theorem wBin_s {rd : R2D} {wa wb : WE} {η : Sl} {O : OS} {Q : QD} : wBin rd wa wb η O Q = (wa η O fun x O1 => wb η O1 fun y O2 => rd x y O2 Q) := propext Iff.rfl
@[simp ↓] theorem wUn_s {rd : D → OS → QD → Prop} {wa : WE} {η : Sl} {O : OS} {Q : QD} : wUn rd wa η O Q = (wa η O fun x O1 => rd x O1 Q) := propext Iff.rfl
@[simp ↓] theorem wB_s {w : WE} {η : Sl} {O : OS} {Q : Bool → OS → Prop} : wB w η O Q = (w η O fun d O1 => onBl d fun b => Q b O1) := propext Iff.rfl
@[simp ↓] theorem wChain_s {rd rd' : R2D} {wa wb wc : WE} {η : Sl} {O : OS} {Q : QD} : wChain rd rd' wa wb wc η O Q = (wa η O fun x O1 => wb η O1 fun y O2 => rd x y O2 fun z O3 => onBl z fun b => onTF b (wc η O3 fun u O4 => rd' y u O4 Q) (Q (.bl false) O3)) := by
  have e : ∀ y : D, (fun (z : D) (O3 : OS) => (match z with
    | .bl true => wc η O3 fun u O4 => rd' y u O4 Q
    | .bl false => Q (.bl false) O3
    | _ => False : Prop)) = fun z O3 => onBl z fun b => onTF b (wc η O3 fun u O4 => rd' y u O4 Q) (Q (.bl false) O3) := fun y => by
    funext z O3
    cases z <;> first | rfl | (rename_i b; cases b <;> rfl)
  show (wa η O fun x O1 => wb η O1 fun y O2 => rd x y O2 fun z O3 => match z with
    | .bl true => wc η O3 fun u O4 => rd' y u O4 Q
    | .bl false => Q (.bl false) O3
    | _ => False) = _
  exact congrArg (wa η O) (funext fun x => funext fun O1 => congrArg (wb η O1) (funext fun y => funext fun O2 => congrArg (β := Prop) (fun q => rd x y O2 q) (e y)))
@[simp ↓] theorem wAnd_s {t u : WT} {η : Sl} {O : OS} {Q : Bool → OS → Prop} : wAnd t u η O Q = (t η O fun b O1 => onTF b (u η O1 Q) (Q false O1)) := propext Iff.rfl
@[simp ↓] theorem wOr_s {t u : WT} {η : Sl} {O : OS} {Q : Bool → OS → Prop} : wOr t u η O Q = (t η O fun b O1 => onTF b (Q true O1) (u η O1 Q)) := propext Iff.rfl
@[simp ↓] theorem wNot_s {t : WT} {η : Sl} {O : OS} {Q : Bool → OS → Prop} : wNot t η O Q = (t η O fun b O1 => Q (!b) O1) := propext Iff.rfl
@[simp ↓] theorem wAndV_s {a b : WE} {η : Sl} {O : OS} {Q : QD} : wAndV a b η O Q = (a η O fun x O1 => onBl x fun c => onTF c (b η O1 Q) (Q (.bl false) O1)) := by
  have e : (fun (x : D) (O1 : OS) => (match x with
    | .bl true => b η O1 Q
    | .bl false => Q (.bl false) O1
    | _ => False : Prop)) = fun x O1 => onBl x fun c => onTF c (b η O1 Q) (Q (.bl false) O1) := by
    funext x O1
    cases x <;> first | rfl | (rename_i c; cases c <;> rfl)
  show (a η O fun x O1 => match x with
    | .bl true => b η O1 Q
    | .bl false => Q (.bl false) O1
    | _ => False) = _
  rw [e]
@[simp ↓] theorem wOrV_s {a b : WE} {η : Sl} {O : OS} {Q : QD} : wOrV a b η O Q = (a η O fun x O1 => onBl x fun c => onTF c (Q (.bl true) O1) (b η O1 Q)) := by
  have e : (fun (x : D) (O1 : OS) => (match x with
    | .bl true => Q (.bl true) O1
    | .bl false => b η O1 Q
    | _ => False : Prop)) = fun x O1 => onBl x fun c => onTF c (Q (.bl true) O1) (b η O1 Q) := by
    funext x O1
    cases x <;> first | rfl | (rename_i c; cases c <;> rfl)
  show (a η O fun x O1 => match x with
    | .bl true => Q (.bl true) O1
    | .bl false => b η O1 Q
    | _ => False) = _
  rw [e]
@[simp ↓] theorem wNotV_s {a : WE} {η : Sl} {O : OS} {Q : QD} : wNotV a η O Q = (a η O fun x O1 => onBl x fun b => Q (.bl (!b)) O1) := propext Iff.rfl
@[simp ↓] theorem wIfE_s {t : WT} {a b : WE} {η : Sl} {O : OS} {Q : QD} : wIfE t a b η O Q = (t η O fun c O1 => onTF c (a η O1 Q) (b η O1 Q)) := propext Iff.rfl
@[simp ↓] theorem wTru_s {w : WE} {η : Sl} {O : OS} {Q : Bool → OS → Prop} : wTru w η O Q = (w η O fun d O1 => onO (truD O1 d) fun b => Q b O1) := by
  have e : (fun (d : D) (O1 : OS) => (match truD O1 d with
    | some b => Q b O1
    | none => False : Prop)) = fun d O1 => onO (truD O1 d) fun b => Q b O1 := by
    funext d O1
    cases truD O1 d <;> rfl
  show (w η O fun d O1 => match truD O1 d with
    | some b => Q b O1
    | none => False) = _
  rw [e]
@[simp ↓] theorem wYes_s  {η : Sl} {O : OS} {Q : Bool → OS → Prop} : wYes  η O Q = (Q true O) := propext Iff.rfl
@[simp ↓] theorem wNil_s  {η : Sl} {O : OS} {Q : List D → OS → Prop} : wNil  η O Q = (Q [] O) := propext Iff.rfl
@[simp ↓] theorem wCons_s {w : WE} {r : WA} {η : Sl} {O : OS} {Q : List D → OS → Prop} : wCons w r η O Q = (w η O fun d O1 => r η O1 fun ds O2 => Q (d :: ds) O2) := propext Iff.rfl
@[simp ↓] theorem wTup_s {w : WA} {η : Sl} {O : OS} {Q : QD} : wTup w η O Q = (w η O fun ds O1 => ds.length ≤ sizeLine ∧ Q (.tup ds) O1) := propext Iff.rfl
@[simp ↓] theorem wLst_s {w : WA} {η : Sl} {O : OS} {Q : QD} : wLst w η O Q = (w η O fun ds O1 => ds.length ≤ sizeLine ∧ Q (.lst ds) O1) := propext Iff.rfl
@[simp ↓] theorem wLstM_s {w : WA} {η : Sl} {O : OS} {Q : QD} : wLstM w η O Q = (w η O fun ds O1 => ds.length ≤ sizeLine ∧ ∀ p, O1 p = none → Q (.ref p) (put O1 p (.ml ds))) := propext Iff.rfl
@[simp ↓] theorem wNo_s  {η : Sl} {O : OS} {Q : Option Int → OS → Prop} : wNo  η O Q = (Q none O) := propext Iff.rfl
@[simp ↓] theorem wPt_s {w : WE} {η : Sl} {O : OS} {Q : Option Int → OS → Prop} : wPt w η O Q = (w η O fun d O1 => onInt d fun i => Q (some i) O1) := propext Iff.rfl
@[simp ↓] theorem wSli_s {w : WE} {lo hi : WO} {η : Sl} {O : OS} {Q : QD} : wSli w lo hi η O Q = (w η O fun x O1 => lo η O1 fun l O2 => hi η O2 fun h O3 => rSli x l h O3 Q) := propext Iff.rfl
@[simp ↓] theorem wCall_s {rd : RD} {wa : WA} {η : Sl} {O : OS} {Q : QD} : wCall rd wa η O Q = (wa η O fun ds O1 => rd ds O1 Q) := propext Iff.rfl
@[simp ↓] theorem wFld_s {c : Str} {i : Nat} {w : WE} {η : Sl} {O : OS} {Q : QD} : wFld c i w η O Q = (w η O fun x O1 => onIns O1 c x fun _ ds => onO ds[i]? fun d => Q d O1) := by
  have e : (fun (x : D) (O1 : OS) => (match x with
    | .ref a => (match O1 a with
      | some (.ins c' ds) => c' = c ∧ (match ds[i]? with
        | some d => Q d O1
        | none => False)
      | _ => False)
    | _ => False : Prop)) = fun x O1 => onIns O1 c x fun _ ds => onO ds[i]? fun d => Q d O1 := by
    funext x O1
    cases x <;> first | rfl | skip
    rename_i a
    show (match O1 a with
      | some (.ins c' ds) => c' = c ∧ (match ds[i]? with
        | some d => Q d O1
        | none => False)
      | _ => False) = (match O1 a with
      | some (.ins c' ds) => c' = c ∧ onO ds[i]? fun d => Q d O1
      | _ => False)
    cases O1 a with
    | none => rfl
    | some o =>
      cases o <;> first | rfl | skip
      rename_i c' ds
      show (c' = c ∧ (match ds[i]? with
        | some d => Q d O1
        | none => False)) = (c' = c ∧ onO ds[i]? fun d => Q d O1)
      cases ds[i]? <;> rfl
  show (w η O fun x O1 => match x with
    | .ref a => (match O1 a with
      | some (.ins c' ds) => c' = c ∧ (match ds[i]? with
        | some d => Q d O1
        | none => False)
      | _ => False)
    | _ => False) = _
  rw [e]
@[simp ↓] theorem wLc_s {wi : WI} {g : WG} {tt : WT} {te : WE} {vs : List Nat} {η : Sl} {O : OS} {Q : QD} : wLc wi g tt te vs η O Q = (wi η O fun items st O1 => lcGo g tt te (wipeD η vs) st items [] O1 Q) := propext Iff.rfl
@[simp ↓] theorem wCallF_s {fs : FS} {n : Nat} {ts : List D} {EX : XS} {wa : WA} {η : Sl} {O : OS} {Q : QD} : wCallF fs n ts EX wa η O Q = (wa η O fun ds O1 => (ds ++ ts).length = n ∧ fs (ds ++ ts) O1 Q fun c xs O' => EX c xs η O') := propext Iff.rfl
@[simp ↓] theorem wMeth_s {c : Str} {fs : FS} {n : Nat} {EX : XS} {wo : WE} {wa : WA} {η : Sl} {O : OS} {Q : QD} : wMeth c fs n EX wo wa η O Q = (wo η O fun x O1 => onIns O1 c x fun a _ => wa η O1 fun ds O2 => (D.ref a :: ds).length = n ∧ fs (.ref a :: ds) O2 Q fun c xs O' => EX c xs η O') := propext Iff.rfl
@[simp ↓] theorem wMake_s {c : Str} {fs : FS} {n : Nat} {EX : XS} {wa : WA} {η : Sl} {O : OS} {Q : QD} : wMake c fs n EX wa η O Q = (wa η O fun ds O1 => ∀ a, O1 a = none → (D.ref a :: ds).length = n ∧ fs (.ref a :: ds) (put O1 a (.ins c [])) (fun d O' => d = .non ∧ Q (.ref a) O') fun c xs O' => EX c xs η O') := propext Iff.rfl
@[simp ↓] theorem wCallK_s {fs : FS} {n m : Nat} {EX : XS} {wa wk : WA} {η : Sl} {O : OS} {Q : QD} : wCallK fs n m EX wa wk η O Q = (wa η O fun ds O1 => wk η O1 fun es O2 => ds.length = n ∧ es.length = m ∧ fs (ds ++ es) O2 Q fun c xs O' => EX c xs η O') := propext Iff.rfl
@[simp ↓] theorem wLenSet_s {w : WE} {η : Sl} {O : OS} {Q : QD} : wLenSet w η O Q = (w η O fun d O1 => onO (seqI O1 d) fun ns => ns.length + 1 < scanBound ∧ ∀ c, Mem ns c → Q (.int (c : Nat)) O1) := by
  have e : (fun (d : D) (O1 : OS) => (match seqI O1 d with
    | some ns => ns.length + 1 < scanBound ∧ ∀ c, Mem ns c → Q (.int (c : Nat)) O1
    | none => False : Prop)) = fun d O1 => onO (seqI O1 d) fun ns => ns.length + 1 < scanBound ∧ ∀ c, Mem ns c → Q (.int (c : Nat)) O1 := by
    funext d O1
    cases seqI O1 d <;> rfl
  show (w η O fun d O1 => match seqI O1 d with
    | some ns => ns.length + 1 < scanBound ∧ ∀ c, Mem ns c → Q (.int (c : Nat)) O1
    | none => False) = _
  rw [e]
@[simp ↓] theorem wSortSet_s {w : WE} {η : Sl} {O : OS} {Q : QD} : wSortSet w η O Q = (w η O fun d O1 => onO (seqI O1 d) fun ns => ns.length < 64 ∧ ∀ ks : List Int, ks.Pairwise (· < ·) → (∀ k, k ∈ ks ↔ k ∈ ns) → Q (.lst (ks.map .int)) O1) := by
  have e : (fun (d : D) (O1 : OS) => (match seqI O1 d with
    | some ns => ns.length < 64 ∧ ∀ ks : List Int, ks.Pairwise (· < ·) → (∀ k, k ∈ ks ↔ k ∈ ns) → Q (.lst (ks.map .int)) O1
    | none => False : Prop)) = fun d O1 => onO (seqI O1 d) fun ns => ns.length < 64 ∧ ∀ ks : List Int, ks.Pairwise (· < ·) → (∀ k, k ∈ ks ↔ k ∈ ns) → Q (.lst (ks.map .int)) O1 := by
    funext d O1
    cases seqI O1 d <;> rfl
  show (w η O fun d O1 => match seqI O1 d with
    | some ns => ns.length < 64 ∧ ∀ ks : List Int, ks.Pairwise (· < ·) → (∀ k, k ∈ ks ↔ k ∈ ns) → Q (.lst (ks.map .int)) O1
    | none => False) = _
  rw [e]
@[simp ↓] theorem wMl_s {rd : RM} {wo : WE} {wa : WA} {η : Sl} {O : OS} {Q : QD} : wMl rd wo wa η O Q = (wo η O fun x O1 => (asR O1 x).isSome = true ∧ wa η O1 fun ds O2 => rd x ds O2 Q) := propext Iff.rfl
@[simp ↓] theorem wRg1_s {w : WE} {η : Sl} {O : OS} {Q : Int → Int → OS → Prop} : wRg1 w η O Q = (w η O fun d O1 => onInt d fun n => Q 0 n O1) := propext Iff.rfl
@[simp ↓] theorem wRg2_s {w u : WE} {η : Sl} {O : OS} {Q : Int → Int → OS → Prop} : wRg2 w u η O Q = (w η O fun d O1 => u η O1 fun e O2 => onInt d fun i => onInt e fun j => Q i j O2) := by
  have e : ∀ d : D, (fun (e : D) (O2 : OS) => (match d, e with
    | .int i, .int j => Q i j O2
    | _, _ => False : Prop)) = fun e O2 => onInt d fun i => onInt e fun j => Q i j O2 := fun d => by
    funext e O2
    cases d <;> first | rfl | (cases e <;> rfl)
  show (w η O fun d O1 => u η O1 fun e O2 => match d, e with
    | .int i, .int j => Q i j O2
    | _, _ => False) = _
  simp only [e]
@[simp ↓] theorem wLRg_s {w : Sl → OS → (Int → Int → OS → Prop) → Prop} {η : Sl} {O : OS} {Q : QD} : wLRg w η O Q = (w η O fun i j O1 => RgOk i j ∧ Q (.lst (rgD i j)) O1) := propext Iff.rfl
@[simp ↓] theorem wLRgM_s {w : Sl → OS → (Int → Int → OS → Prop) → Prop} {η : Sl} {O : OS} {Q : QD} : wLRgM w η O Q = (w η O fun i j O1 => RgOk i j ∧ ∀ p, O1 p = none → Q (.ref p) (put O1 p (.ml (rgD i j)))) := propext Iff.rfl
@[simp ↓] theorem wTRg_s {w : Sl → OS → (Int → Int → OS → Prop) → Prop} {η : Sl} {O : OS} {Q : QD} : wTRg w η O Q = (w η O fun i j O1 => RgOk i j ∧ Q (.tup (rgD i j)) O1) := propext Iff.rfl
@[simp ↓] theorem wIsE_s {sub : Str → Str → Option Bool} {c' c : Str} {a : Addr} {w : WE} {η : Sl} {O : OS} {Q : QD} : wIsE sub c' c a w η O Q = (w η O fun d O1 => d = .ref a ∧ onO (sub c' c) fun b => Q (.bl b) O1) := by
  have e : (fun (d : D) (O1 : OS) => (d = .ref a ∧ (match sub c' c with
    | some b => Q (.bl b) O1
    | none => False) : Prop)) = fun d O1 => d = .ref a ∧ onO (sub c' c) fun b => Q (.bl b) O1 := by
    funext d O1
    cases sub c' c <;> rfl
  show (w η O fun d O1 => d = .ref a ∧ (match sub c' c with
    | some b => Q (.bl b) O1
    | none => False)) = _
  rw [e]
/-! statements -/
section
variable {f : Fin} {η : Sl} {O : OS}
@[simp ↓] theorem sNil_s : sNil f η O = f.nx η O := propext Iff.rfl
@[simp ↓] theorem sSeq_s {a b : WS} : sSeq a b f η O = a { f with nx := b f } η O := propext Iff.rfl
@[simp ↓] theorem sExpr_s {w : WE} : sExpr w f η O = (w η O fun _ O1 => f.nx η O1) := propext Iff.rfl
@[simp ↓] theorem sRet_s {w : WE} : sRet w f η O = w η O f.rt := propext Iff.rfl
@[simp ↓] theorem sRetF_s {w : WE} : sRetF w f η O = (w η O fun d O1 => onMl O1 d fun p l => f.rt (.lst l) (cut O1 p)) := propext Iff.rfl
@[simp ↓] theorem sRetN_s : sRetN f η O = f.rt .non O := propext Iff.rfl
@[simp ↓] theorem sIf_s {t : WT} {a b : WS} : sIf t a b f η O = (t η O fun c O1 => onTF c (a f η O1) (b f η O1)) := propext Iff.rfl
@[simp ↓] theorem sBreak_s : sBreak f η O = f.bk η O := propext Iff.rfl
@[simp ↓] theorem sCont_s : sCont f η O = f.ct η O := propext Iff.rfl
@[simp ↓] theorem sFld_s {c : Str} {i : Nat} {wo wv : WE} : sFld c i wo wv f η O = (wv η O fun y O1 => wo η O1 fun x O2 => onIns O2 c x fun a ds => i ≤ ds.length ∧ f.nx η (put O2 a (.ins c (setF ds i y)))) := propext Iff.rfl
@[simp ↓] theorem sSet_s {i : Nat} {w : WE} : sSet i w f η O = (w η O fun d O1 => f.nx (η.set i (some d)) O1) := propext Iff.rfl
@[simp ↓] theorem sAug_s {i : Nat} {rd : R2D} {w : WE} : sAug i rd w f η O = onO (slotAt η i) fun x => w η O fun y O1 => rd x y O1 fun z O2 => f.nx (η.set i (some z)) O2 := by
  unfold sAug slotAt
  cases η[i]? with
  | none => rfl
  | some o => cases o <;> rfl
@[simp ↓] theorem sAsg_s {g : WG} {w : WE} : sAsg g w f η O = (w η O fun d O1 => g d η O1 f.nx) := propext Iff.rfl
@[simp ↓] theorem sFor_s {wi : WI} {g : WG} {body : WS} : sFor wi g body f η O = (wi η O fun items st O1 => forGo g body st items f η O1) := propext Iff.rfl
@[simp ↓] theorem sRaise_s {c : Str} {EX : XS} : sRaise c EX f η O = EX c [] η O := propext Iff.rfl
@[simp ↓] theorem sRaise1_s {c : Str} {EX : XS} {wa : WA} : sRaise1 c EX wa f η O = (wa η O fun ds O1 => ds.length = 1 ∧ EX c ds η O1) := propext Iff.rfl
@[simp ↓] theorem sTry_s {sub : Str → Str → Option Bool} {l : List (Str × Option Nat × WH)} {wb : XS → WS} {EX : XS} : sTry sub l wb EX f η O = wb (sWish sub f EX l) f η O := propext Iff.rfl
end
/-! targets -/
section
variable {η : Sl} {O : OS} {Q : Sl → OS → Prop}
@[simp ↓] theorem gN_s {i : Nat} {d : D} : gN i d η O Q = Q (η.set i (some d)) O := propext Iff.rfl
@[simp ↓] theorem gZ_s : gZ [] η O Q = Q η O := propext Iff.rfl
@[simp ↓] theorem gC_s {g : WG} {r : WGs} {d : D} {ds : List D} : gC g r (d :: ds) η O Q = (g d η O fun η1 O1 => r ds η1 O1 Q) := propext Iff.rfl
@[simp ↓] theorem gT_s {n : Nat} {g : WGs} {l : List D} : gT n g (.tup l) η O Q = (l.length = n ∧ g l η O Q) := propext Iff.rfl
def gIxP (o i d : D) (η : Sl) (O2 : OS) (Q : Sl → OS → Prop) : Prop := match o, i with
  | .ref p, .int k => (match O2 p with
    | some (.ml l) => (match ixN l.length k with
      | some j => Q η (put O2 p (.ml (l.set j d)))
      | none => False)
    | _ => False)
  | _, _ => False
@[simp ↓] theorem gIx_s {wo wi : WE} {d : D} : gIx wo wi d η O Q = (wo η O fun o O1 => wi η O1 fun i O2 => gIxP o i d η O2 Q) := propext Iff.rfl
@[simp ↓] theorem gIxP_s {p : Addr} {k : Int} {d : D} : gIxP (.ref p) (.int k) d η O Q = onO (mlO (O p)) fun l => onO (ixN l.length k) fun j => Q η (put O p (.ml (l.set j d))) := by
  show (match O p with
    | some (.ml l) => (match ixN l.length k with
      | some j => Q η (put O p (.ml (l.set j d)))
      | none => False)
    | _ => False) = _
  cases O p with
  | none => rfl
  | some o =>
    cases o <;> first | rfl | skip
    rename_i l
    show (match ixN l.length k with
      | some j => Q η (put O p (.ml (l.set j d)))
      | none => False) = onO (ixN l.length k) fun j => Q η (put O p (.ml (l.set j d)))
    cases ixN l.length k <;> rfl
end
/-! iterables -/
section
variable {η : Sl} {O : OS} {Q : List D → (OS → Prop) → OS → Prop}
def itL (d : D) (O1 : OS) (Q : List D → (OS → Prop) → OS → Prop) : PKp (O1, Q) := match d with
  | .tup l => Q l anySt O1
  | .ref p => (match O1 p with
    | some (.ml l) => Q l (fun O' => O' p = some (.ml l)) O1
    | _ => False)
  | d => (match asR O1 d with
    | some l => Q l anySt O1
    | none => False)
@[simp ↓] theorem wiL_s {w : WE} : wiL w η O Q = (w η O fun d O1 => itL d O1 Q) := propext Iff.rfl
@[simp ↓] theorem itL_tup {l : List D} : itL (.tup l) O Q = Q l anySt O := propext Iff.rfl
@[simp ↓] theorem itL_lst {l : List D} : itL (.lst l) O Q = Q l anySt O := propext Iff.rfl
@[simp ↓] theorem itL_scr {l : List D} : itL (.scr l) O Q = Q l anySt O := propext Iff.rfl
@[simp ↓] theorem itL_ref {p : Addr} : itL (.ref p) O Q = onO (mlO (O p)) fun l => Q l (fun O' => O' p = some (OV.ml l)) O := by
  show (match O p with
    | some (OV.ml l) => Q l (fun O' => O' p = some (OV.ml l)) O
    | _ => False) = _
  cases O p with
  | none => rfl
  | some o => cases o <;> rfl
def itR1 (ds : List D) (O1 : OS) (Q : List D → (OS → Prop) → OS → Prop) : PKp (O1, Q) := match ds with
  | [.int j] => -(2 ^ 62) ≤ j ∧ j < 2 ^ 62 ∧ Q (rgD 0 j) anySt O1
  | _ => False
@[simp ↓] theorem wiR1_s {wa : WA} : wiR1 wa η O Q = (wa η O fun ds O1 => itR1 ds O1 Q) := propext Iff.rfl
@[simp ↓] theorem itR1_s {j : Int} : itR1 [.int j] O Q = ((-(2 ^ 62) ≤ j ∧ j < 2 ^ 62) ∧ Q (rgD 0 j) anySt O) := by
  show (-(2 ^ 62) ≤ j ∧ j < 2 ^ 62 ∧ Q (rgD 0 j) anySt O) = _
  rw [and_assoc]
def itR2 (ds : List D) (O1 : OS) (Q : List D → (OS → Prop) → OS → Prop) : PKp (O1, Q) := match ds with
  | [.int i, .int j] => (-(2 ^ 62) ≤ i ∧ i < 2 ^ 62 ∧ -(2 ^ 62) ≤ j ∧ j < 2 ^ 62) ∧ Q (rgD i j) anySt O1
  | _ => False
@[simp ↓] theorem wiR2_s {wa : WA} : wiR2 wa η O Q = (wa η O fun ds O1 => itR2 ds O1 Q) := propext Iff.rfl
@[simp ↓] theorem itR2_s {i j : Int} : itR2 [.int i, .int j] O Q = ((-(2 ^ 62) ≤ i ∧ i < 2 ^ 62 ∧ -(2 ^ 62) ≤ j ∧ j < 2 ^ 62) ∧ Q (rgD i j) anySt O) := propext Iff.rfl
def itE (ds : List D) (O1 : OS) (Q : List D → (OS → Prop) → OS → Prop) : PKp (O1, Q) := match ds with
  | [d] => (match d with
    | .ref p => (match O1 p with
      | some (.ml l) => Q (enD l) (fun O' => O' p = some (.ml l)) O1
      | _ => False)
    | d => (match asR O1 d with
      | some l => Q (enD l) anySt O1
      | none => False))
  | _ => False
@[simp ↓] theorem wiEn_s {wa : WA} : wiEn wa η O Q = (wa η O fun ds O1 => itE ds O1 Q) := propext Iff.rfl
@[simp ↓] theorem itE_lst {l : List D} : itE [.lst l] O Q = Q (enD l) anySt O := propext Iff.rfl
end
/-! operators -/
section
variable {O : OS} {Q : QD} {i j : Int} {l m : List D}
@[simp ↓] theorem rI2_s {C : Int → Int → Prop} {g : Int → Int → D} : rI2 C g (.int i) (.int j) O Q = (C i j ∧ Q (g i j) O) := propext Iff.rfl
@[simp ↓] theorem rJ2_s {g : Int → Int → D} : rJ2 g (.int i) (.int j) O Q = Q (g i j) O := propext Iff.rfl
@[simp ↓] theorem rMul_s : rMul (.int i) (.int j) O Q = (CMul i j ∧ Q (.int (i * j)) O) := propext Iff.rfl
@[simp ↓] theorem rAdd_int : rAdd (.int i) (.int j) O Q = Q (.int (i + j)) O := propext Iff.rfl
@[simp ↓] theorem rAdd_tup : rAdd (.tup l) (.tup m) O Q = (l.length + m.length ≤ sizeLine ∧ Q (.tup (l ++ m)) O) := propext Iff.rfl
@[simp ↓] theorem rAdd_lst : rAdd (.lst l) (.lst m) O Q = (l.length + m.length ≤ sizeLine ∧ Q (.lst (l ++ m)) O) := propext ⟨fun ⟨a, b, h1, h2, h3, h4⟩ => by
  cases h1
  cases h2
  exact ⟨h3, h4⟩, fun ⟨h1, h2⟩ => ⟨l, m, rfl, rfl, h1, h2⟩⟩
@[simp ↓] theorem rEqq_int {neg : Bool} : rEqq neg (.int i) (.int j) O Q = Q (.bl (if neg then !decide (i = j) else decide (i = j))) O := propext Iff.rfl
@[simp ↓] theorem rEqq_str {neg : Bool} {i j : Str} : rEqq neg (.str i) (.str j) O Q = Q (.bl (if neg then !decide (i = j) else decide (i = j))) O := propext Iff.rfl
@[simp ↓] theorem rIs_s {neg : Bool} {x : D} : rIs neg x .non O Q = Q (.bl (if neg then !isNon x else isNon x)) O := propext Iff.rfl
@[simp ↓] theorem rInn_tup {neg : Bool} {x : D} : rInn neg x (.tup l) O Q = ((flatD x = true ∧ l.all flatD = true) ∧ Q (.bl (if neg then !inD x l else inD x l)) O) := by
  show (flatD x = true ∧ l.all flatD = true ∧ Q _ O) = _
  rw [and_assoc]
@[simp ↓] theorem rInn_lst {neg : Bool} {x : D} : rInn neg x (.lst l) O Q = ((flatD x = true ∧ l.all flatD = true) ∧ Q (.bl (if neg then !inD x l else inD x l)) O) := propext ⟨fun ⟨a, h1, h2, h3, h4⟩ => by
  cases h1
  exact ⟨⟨h2, h3⟩, h4⟩, fun ⟨⟨h1, h2⟩, h3⟩ => ⟨l, rfl, h1, h2, h3⟩⟩
@[simp ↓] theorem rInn_ref {neg : Bool} {x : D} {p : Addr} : rInn neg x (.ref p) O Q = onO (mlO (O p)) fun l => (flatD x = true ∧ l.all flatD = true) ∧ Q (.bl (if neg then !inD x l else inD x l)) O := by
  refine propext ⟨fun ⟨a, h1, h2, h3, h4⟩ => ?_, fun h => ?_⟩
  · have h1 : mlO (O p) = some a := by rw [← asR_ref]; exact h1
    rw [h1]
    exact ⟨⟨h2, h3⟩, h4⟩
  · cases e : mlO (O p) with
    | none =>
      rw [e] at h
      exact h.elim
    | some l =>
      rw [e] at h
      exact ⟨l, (by rw [asR_ref]; exact e), h.1.1, h.1.2, h.2⟩
@[simp ↓] theorem rIdx_tup : rIdx (.tup l) (.int i) O Q = onO (atI l i) fun d => Q d O := by
  have e : (match atI l i with
    | some d => Q d O
    | none => False) = onO (atI l i) fun d => Q d O := by cases atI l i <;> rfl
  rw [← e]
  rfl
@[simp ↓] theorem rIdx_lst : rIdx (.lst l) (.int i) O Q = onO (atI l i) fun d => Q d O := by
  have e : (match atI l i with
    | some d => Q d O
    | none => False) = onO (atI l i) fun d => Q d O := by cases atI l i <;> rfl
  rw [← e]
  rfl
@[simp ↓] theorem rIdx_scr : rIdx (.scr l) (.int i) O Q = onO (atI l i) fun d => Q d O := by
  have e : (match atI l i with
    | some d => Q d O
    | none => False) = onO (atI l i) fun d => Q d O := by cases atI l i <;> rfl
  rw [← e]
  rfl
@[simp ↓] theorem rIdx_ref {p : Addr} : rIdx (.ref p) (.int i) O Q = onO (mlO (O p)) fun l => onO (atI l i) fun d => Q d O := by
  show (match asR O (.ref p) with
      | some l => (match atI l i with
        | some d => Q d O
        | none => False)
      | none => False) = _
  rw [asR_ref]
  cases mlO (O p) with
  | none => rfl
  | some l =>
    show (match atI l i with
      | some d => Q d O
      | none => False) = onO (atI l i) fun d => Q d O
    cases atI l i <;> rfl
@[simp ↓] theorem rSli_tup {lo hi : Option Int} : rSli (.tup l) lo hi O Q = Q (.tup (cutD l lo hi)) O := propext Iff.rfl
@[simp ↓] theorem rSli_lst {lo hi : Option Int} : rSli (.lst l) lo hi O Q = Q (.lst (cutD l lo hi)) O := propext Iff.rfl
@[simp ↓] theorem rSli_scr {lo hi : Option Int} : rSli (.scr l) lo hi O Q = Q (.lst (cutD l lo hi)) O := propext Iff.rfl
@[simp ↓] theorem rSli_ref {lo hi : Option Int} {p : Addr} : rSli (.ref p) lo hi O Q = onO (mlO (O p)) fun l => Q (.lst (cutD l lo hi)) O := by
  show (match asR O (.ref p) with
    | some l => Q (.lst (cutD l lo hi)) O
    | none => False) = _
  rw [asR_ref]
  cases mlO (O p) <;> rfl
@[simp ↓] theorem rOne_s {f : D → OS → QD → Prop} {d : D} : rOne f [d] O Q = f d O Q := propext Iff.rfl
@[simp ↓] theorem rTwo_s {f : D → D → OS → QD → Prop} {d e : D} : rTwo f [d, e] O Q = f d e O Q := propext Iff.rfl
@[simp ↓] theorem rLen_tup : rLen1 (.tup l) O Q = Q (.int l.length) O := propext Iff.rfl
@[simp ↓] theorem rLen_lst : rLen1 (.lst l) O Q = Q (.int l.length) O := propext Iff.rfl
@[simp ↓] theorem rLen_scr : rLen1 (.scr l) O Q = Q (.int l.length) O := propext Iff.rfl
@[simp ↓] theorem rLen_str {z : Str} : rLen1 (.str z) O Q = (z.length ≤ sizeLine ∧ Q (.int z.length) O) := propext Iff.rfl
@[simp ↓] theorem rLen_ref {p : Addr} : rLen1 (.ref p) O Q = onO (lenO (O p)) fun n => Q (.int n) O := by
  show (match asR O (.ref p) with
    | some l => Q (.int l.length) O
    | none => (match O p with
        | some (.md l) => Q (.int l.length) O
        | _ => False)) = _
  rw [asR_ref]
  cases O p with
  | none => rfl
  | some o => cases o <;> rfl
@[simp ↓] theorem rAbs_s : rAbs [.int i] O Q = Q (.int (if i < 0 then -i else i)) O := propext Iff.rfl
@[simp ↓] theorem rInt_s : rInt1 [.int i] O Q = Q (.int i) O := propext Iff.rfl
@[simp ↓] theorem rMax2_s : rMax2 [.int i, .int j] O Q = Q (.int (if j > i then j else i)) O := propext Iff.rfl
@[simp ↓] theorem rMin2_s : rMin2 [.int i, .int j] O Q = Q (.int (if j < i then j else i)) O := propext Iff.rfl
@[simp ↓] theorem rTup_tup : rTupD1 (.tup l) O Q = Q (.tup l) O := propext Iff.rfl
@[simp ↓] theorem rTup_lst : rTupD1 (.lst l) O Q = Q (.tup l) O := propext Iff.rfl
@[simp ↓] theorem rTup_scr : rTupD1 (.scr l) O Q = Q (.tup l) O := propext Iff.rfl
@[simp ↓] theorem rTup_ref {p : Addr} : rTupD1 (.ref p) O Q = onO (mlO (O p)) fun l => Q (.tup l) O := by
  show (match asR O (.ref p) with
    | some l => Q (.tup l) O
    | none => False) = _
  rw [asR_ref]
  cases mlO (O p) <;> rfl
@[simp ↓] theorem rList_tup : rListD1 (.tup l) O Q = Q (.lst l) O := propext Iff.rfl
@[simp ↓] theorem rList_lst : rListD1 (.lst l) O Q = Q (.lst l) O := propext Iff.rfl
@[simp ↓] theorem rListM_tup : rListM1 (.tup l) O Q = ∀ p, O p = none → Q (.ref p) (put O p (.ml l)) := propext Iff.rfl
@[simp ↓] theorem rListM_lst : rListM1 (.lst l) O Q = ∀ p, O p = none → Q (.ref p) (put O p (.ml l)) := propext Iff.rfl
@[simp ↓] theorem rApp_s {x y : D} : rApp x [y] O Q = onMl O x fun p l => l.length < sizeLine ∧ Q .non (put O p (.ml (l ++ [y]))) := propext Iff.rfl
@[simp ↓] theorem rPop1_s {x : D} : rPop1 x [.int i] O Q = onMl O x fun p l => (-(2 ^ 63) ≤ i ∧ i < 2 ^ 63) ∧ onO (seqIndex? i l.length) fun k => onO l[k]? fun y => Q y (put O p (.ml (l.eraseIdx k))) := by
  have e : (fun (p : Addr) (l : List D) => ((-(2 ^ 63) ≤ i ∧ i < 2 ^ 63) ∧ (match seqIndex? i l.length with
    | some k => (match l[k]? with
      | some y => Q y (put O p (.ml (l.eraseIdx k)))
      | none => False)
    | none => False) : Prop)) = fun p l => (-(2 ^ 63) ≤ i ∧ i < 2 ^ 63) ∧ onO (seqIndex? i l.length) fun k => onO l[k]? fun y => Q y (put O p (.ml (l.eraseIdx k))) := by
    funext p l
    cases seqIndex? i l.length with
    | none => rfl
    | some k =>
      show ((-(2 ^ 63) ≤ i ∧ i < 2 ^ 63) ∧ (match l[k]? with
        | some y => Q y (put O p (.ml (l.eraseIdx k)))
        | none => False)) = ((-(2 ^ 63) ≤ i ∧ i < 2 ^ 63) ∧ onO l[k]? fun y => Q y (put O p (.ml (l.eraseIdx k))))
      cases l[k]? <;> rfl
  show (onMl O x fun p l => (-(2 ^ 63) ≤ i ∧ i < 2 ^ 63) ∧ (match seqIndex? i l.length with
    | some k => (match l[k]? with
      | some y => Q y (put O p (.ml (l.eraseIdx k)))
      | none => False)
    | none => False)) = _
  rw [e]
@[simp ↓] theorem rPop0_s {x : D} : rPop0 x [] O Q = onMl O x fun p l => onO l[l.length - 1]? fun y => Q y (put O p (.ml l.dropLast)) := by
  have e : (fun (p : Addr) (l : List D) => (match l[l.length - 1]? with
    | some y => Q y (put O p (.ml l.dropLast))
    | none => False : Prop)) = fun p l => onO l[l.length - 1]? fun y => Q y (put O p (.ml l.dropLast)) := by
    funext p l
    cases l[l.length - 1]? <;> rfl
  show (onMl O x fun p l => match l[l.length - 1]? with
    | some y => Q y (put O p (.ml l.dropLast))
    | none => False) = _
  rw [e]
@[simp ↓] theorem rRevM_s {x : D} : rRevM x [] O Q = onMl O x fun p l => Q .non (put O p (.ml l.reverse)) := propext Iff.rfl
@[simp ↓] theorem rExt_s {x y : D} : rExt x [y] O Q = onMl O x fun p l => onO (asL O y) fun m => l.length + m.length ≤ sizeLine ∧ Q .non (put O p (.ml (l ++ m))) := by
  have e : (fun (p : Addr) (l : List D) => (match asL O y with
    | some m => l.length + m.length ≤ sizeLine ∧ Q .non (put O p (.ml (l ++ m)))
    | none => False : Prop)) = fun p l => onO (asL O y) fun m => l.length + m.length ≤ sizeLine ∧ Q .non (put O p (.ml (l ++ m))) := by
    funext p l
    cases asL O y <;> rfl
  show (onMl O x fun p l => match asL O y with
    | some m => l.length + m.length ≤ sizeLine ∧ Q .non (put O p (.ml (l ++ m)))
    | none => False) = _
  rw [e]
end
/-! what waits for its data: only the data are worked at -/
section
variable {O : OS} {Q : QD} {x x' y y' : D} {ds ds' : List D}
end
theorem startD_eq (n : Nat) (ds : List D) : startD n ds = ds.map some ++ List.replicate (n - ds.length) none := rfl
theorem rtL_of {Q : QD} {d : D} {O : OS} (h : Q d O) : rtL Q d O := ⟨O, fun _ _ e => e, h⟩
theorem fsOf_eq (n : Nat) (w : XS → WS) (ds : List D) (O : OS) (Q : QD) (E : XW) : fsOf n w ds O Q E = w (fun c xs _ O' => E c xs O') { nx := fun _ O' => rtL Q .non O', rt := rtL Q } (startD n ds) O := propext Iff.rfl
@[simp] theorem tyD_non {O : OS} : tyD O .non = some "NoneType" := rfl
@[simp] theorem tyD_bl {O : OS} {b} : tyD O (.bl b) = some "bool" := rfl
@[simp] theorem tyD_int {O : OS} {b} : tyD O (.int b) = some "int" := rfl
@[simp] theorem tyD_str {O : OS} {b} : tyD O (.str b) = some "str" := rfl
@[simp] theorem tyD_tup {O : OS} {b} : tyD O (.tup b) = some "tuple" := rfl
@[simp] theorem tyD_lst {O : OS} {b} : tyD O (.lst b) = some "list" := rfl
theorem tyD_ref {O : OS} {p : Addr} {l : List D} (h : O p = some (.ml l)) : tyD O (.ref p) = some "list" := by
  show (match O p with
    | some (.ml _) => some "list"
    | some (.md _) => some "dict"
    | some (.mt _) => some "dict"
    | _ => none) = _
  rw [h]
def tyNames : List String := ["NoneType", "bool", "int", "str", "tuple", "list"]
def tyAsk : List String := ["int", "bool", "str", "tuple", "list"]
def isiT (t n : String) : Bool := t == n || (t == "bool" && n == "int")
theorem isi_all : ∀ t ∈ tyNames, ∀ n ∈ tyAsk, (kitB t n).isSome = true ∧ isiB t n = isiT t n := by decide +kernel
theorem rIsi_of {x : D} {n t : String} {O : OS} {Q : QD} (h : tyD O x = some t) (ht : t ∈ tyNames) (hn : n ∈ tyAsk) (hQ : Q (.bl (isiT t n)) O) : rIsi2 x (.ty n) O Q := by
  show (match tyD O x with
    | some t => (kitB t n).isSome = true ∧ Q (.bl (isiB t n)) O
    | none => False)
  rw [h]
  obtain ⟨h1, h2⟩ := isi_all t ht n hn
  refine ⟨h1, ?_⟩
  rw [h2]
  exact hQ
/-- simp: isinstance of a value whose kind is known -/
theorem rIsi_eq {x : D} {n t : String} {O : OS} {Q : QD} (h : tyD O x = some t) (ht : t ∈ tyNames := by decide) (hn : n ∈ tyAsk := by decide) : rIsi2 x (.ty n) O Q = Q (.bl (isiT t n)) O := by
  show (match tyD O x with
    | some t => (kitB t n).isSome = true ∧ Q (.bl (isiB t n)) O
    | none => False) = _
  rw [h]
  obtain ⟨h1, h2⟩ := isi_all t ht n hn
  rw [← h2]
  exact propext ⟨fun z => z.2, fun z => ⟨h1, z⟩⟩
@[simp ↓] theorem isi_non_int {O : OS} {Q : QD} : rIsi2 .non (.ty "int") O Q = Q (.bl false) O := rIsi_eq (t := "NoneType") (n := "int") rfl (by decide) (by decide)
@[simp ↓] theorem isi_non_bool {O : OS} {Q : QD} : rIsi2 .non (.ty "bool") O Q = Q (.bl false) O := rIsi_eq (t := "NoneType") (n := "bool") rfl (by decide) (by decide)
@[simp ↓] theorem isi_non_str {O : OS} {Q : QD} : rIsi2 .non (.ty "str") O Q = Q (.bl false) O := rIsi_eq (t := "NoneType") (n := "str") rfl (by decide) (by decide)
@[simp ↓] theorem isi_non_tuple {O : OS} {Q : QD} : rIsi2 .non (.ty "tuple") O Q = Q (.bl false) O := rIsi_eq (t := "NoneType") (n := "tuple") rfl (by decide) (by decide)
@[simp ↓] theorem isi_non_list {O : OS} {Q : QD} : rIsi2 .non (.ty "list") O Q = Q (.bl false) O := rIsi_eq (t := "NoneType") (n := "list") rfl (by decide) (by decide)
@[simp ↓] theorem isi_bl_int {O : OS} {Q : QD} {b : _} : rIsi2 (.bl b) (.ty "int") O Q = Q (.bl true) O := rIsi_eq (t := "bool") (n := "int") rfl (by decide) (by decide)
@[simp ↓] theorem isi_bl_bool {O : OS} {Q : QD} {b : _} : rIsi2 (.bl b) (.ty "bool") O Q = Q (.bl true) O := rIsi_eq (t := "bool") (n := "bool") rfl (by decide) (by decide)
@[simp ↓] theorem isi_bl_str {O : OS} {Q : QD} {b : _} : rIsi2 (.bl b) (.ty "str") O Q = Q (.bl false) O := rIsi_eq (t := "bool") (n := "str") rfl (by decide) (by decide)
@[simp ↓] theorem isi_bl_tuple {O : OS} {Q : QD} {b : _} : rIsi2 (.bl b) (.ty "tuple") O Q = Q (.bl false) O := rIsi_eq (t := "bool") (n := "tuple") rfl (by decide) (by decide)
@[simp ↓] theorem isi_bl_list {O : OS} {Q : QD} {b : _} : rIsi2 (.bl b) (.ty "list") O Q = Q (.bl false) O := rIsi_eq (t := "bool") (n := "list") rfl (by decide) (by decide)
@[simp ↓] theorem isi_int_int {O : OS} {Q : QD} {b : _} : rIsi2 (.int b) (.ty "int") O Q = Q (.bl true) O := rIsi_eq (t := "int") (n := "int") rfl (by decide) (by decide)
@[simp ↓] theorem isi_int_bool {O : OS} {Q : QD} {b : _} : rIsi2 (.int b) (.ty "bool") O Q = Q (.bl false) O := rIsi_eq (t := "int") (n := "bool") rfl (by decide) (by decide)
@[simp ↓] theorem isi_int_str {O : OS} {Q : QD} {b : _} : rIsi2 (.int b) (.ty "str") O Q = Q (.bl false) O := rIsi_eq (t := "int") (n := "str") rfl (by decide) (by decide)
@[simp ↓] theorem isi_int_tuple {O : OS} {Q : QD} {b : _} : rIsi2 (.int b) (.ty "tuple") O Q = Q (.bl false) O := rIsi_eq (t := "int") (n := "tuple") rfl (by decide) (by decide)
@[simp ↓] theorem isi_int_list {O : OS} {Q : QD} {b : _} : rIsi2 (.int b) (.ty "list") O Q = Q (.bl false) O := rIsi_eq (t := "int") (n := "list") rfl (by decide) (by decide)
@[simp ↓] theorem isi_str_int {O : OS} {Q : QD} {b : _} : rIsi2 (.str b) (.ty "int") O Q = Q (.bl false) O := rIsi_eq (t := "str") (n := "int") rfl (by decide) (by decide)
@[simp ↓] theorem isi_str_bool {O : OS} {Q : QD} {b : _} : rIsi2 (.str b) (.ty "bool") O Q = Q (.bl false) O := rIsi_eq (t := "str") (n := "bool") rfl (by decide) (by decide)
@[simp ↓] theorem isi_str_str {O : OS} {Q : QD} {b : _} : rIsi2 (.str b) (.ty "str") O Q = Q (.bl true) O := rIsi_eq (t := "str") (n := "str") rfl (by decide) (by decide)
@[simp ↓] theorem isi_str_tuple {O : OS} {Q : QD} {b : _} : rIsi2 (.str b) (.ty "tuple") O Q = Q (.bl false) O := rIsi_eq (t := "str") (n := "tuple") rfl (by decide) (by decide)
@[simp ↓] theorem isi_str_list {O : OS} {Q : QD} {b : _} : rIsi2 (.str b) (.ty "list") O Q = Q (.bl false) O := rIsi_eq (t := "str") (n := "list") rfl (by decide) (by decide)
@[simp ↓] theorem isi_tup_int {O : OS} {Q : QD} {b : _} : rIsi2 (.tup b) (.ty "int") O Q = Q (.bl false) O := rIsi_eq (t := "tuple") (n := "int") rfl (by decide) (by decide)
@[simp ↓] theorem isi_tup_bool {O : OS} {Q : QD} {b : _} : rIsi2 (.tup b) (.ty "bool") O Q = Q (.bl false) O := rIsi_eq (t := "tuple") (n := "bool") rfl (by decide) (by decide)
@[simp ↓] theorem isi_tup_str {O : OS} {Q : QD} {b : _} : rIsi2 (.tup b) (.ty "str") O Q = Q (.bl false) O := rIsi_eq (t := "tuple") (n := "str") rfl (by decide) (by decide)
@[simp ↓] theorem isi_tup_tuple {O : OS} {Q : QD} {b : _} : rIsi2 (.tup b) (.ty "tuple") O Q = Q (.bl true) O := rIsi_eq (t := "tuple") (n := "tuple") rfl (by decide) (by decide)
@[simp ↓] theorem isi_tup_list {O : OS} {Q : QD} {b : _} : rIsi2 (.tup b) (.ty "list") O Q = Q (.bl false) O := rIsi_eq (t := "tuple") (n := "list") rfl (by decide) (by decide)
@[simp ↓] theorem isi_lst_int {O : OS} {Q : QD} {b : _} : rIsi2 (.lst b) (.ty "int") O Q = Q (.bl false) O := rIsi_eq (t := "list") (n := "int") rfl (by decide) (by decide)
@[simp ↓] theorem isi_lst_bool {O : OS} {Q : QD} {b : _} : rIsi2 (.lst b) (.ty "bool") O Q = Q (.bl false) O := rIsi_eq (t := "list") (n := "bool") rfl (by decide) (by decide)
@[simp ↓] theorem isi_lst_str {O : OS} {Q : QD} {b : _} : rIsi2 (.lst b) (.ty "str") O Q = Q (.bl false) O := rIsi_eq (t := "list") (n := "str") rfl (by decide) (by decide)
@[simp ↓] theorem isi_lst_tuple {O : OS} {Q : QD} {b : _} : rIsi2 (.lst b) (.ty "tuple") O Q = Q (.bl false) O := rIsi_eq (t := "list") (n := "tuple") rfl (by decide) (by decide)
@[simp ↓] theorem isi_lst_list {O : OS} {Q : QD} {b : _} : rIsi2 (.lst b) (.ty "list") O Q = Q (.bl true) O := rIsi_eq (t := "list") (n := "list") rfl (by decide) (by decide)

@[simp] theorem truD_ref {O : OS} {p : Addr} : truD O (.ref p) = (match O p with
    | some (.ml l) => some (!l.isEmpty)
    | some (.md l) => some (!l.isEmpty)
    | _ => none) := rfl
@[simp] theorem truD_non {O : OS} : truD O .non = some false := rfl
@[simp] theorem truD_bl {O : OS} {b} : truD O (.bl b) = some b := rfl
@[simp] theorem truD_int {O : OS} {i} : truD O (.int i) = some (i != 0) := rfl
@[simp] theorem truD_tup {O : OS} {l} : truD O (.tup l) = some (!l.isEmpty) := rfl
@[simp] theorem truD_lst {O : OS} {l} : truD O (.lst l) = some (!l.isEmpty) := rfl
@[simp] theorem isNon_non : isNon .non = true := rfl
@[simp] theorem isNon_bl {b} : isNon (.bl b) = false := rfl
@[simp] theorem isNon_int {b} : isNon (.int b) = false := rfl
@[simp] theorem isNon_str {b} : isNon (.str b) = false := rfl
@[simp] theorem isNon_tup {b} : isNon (.tup b) = false := rfl
@[simp] theorem isNon_lst {b} : isNon (.lst b) = false := rfl
@[simp] theorem isNon_ref {b} : isNon (.ref b) = false := rfl
@[simp] theorem put_same_s {O : OS} {a : Addr} {o : OV} : put O a o a = some o := put_same
@[simp] theorem startD_eq_s (n : Nat) (ds : List D) : startD n ds = ds.map some ++ List.replicate (n - ds.length) none := startD_eq n ds
@[simp ↓] theorem fsOf_eq_s (n : Nat) (w : XS → WS) (ds : List D) (O : OS) (Q : QD) (E : XW) : fsOf n w ds O Q E = w (fun c xs _ O' => E c xs O') { nx := fun _ O' => rtL Q .non O', rt := rtL Q } (startD n ds) O := fsOf_eq n w ds O Q E
@[simp] theorem put_put {O : OS} {p : Addr} {a b : OV} : put (put O p a) p b = put O p b := by
  funext x
  unfold put
  split <;> rfl
theorem cut_put {O : OS} {p : Addr} {a : OV} (h : O p = none) : cut (put O p a) p = O := by
  funext x
  unfold cut put
  split
  · rename_i e
    rw [e, h]
  · rfl
theorem rtL_put {Q : QD} {d : D} {O : OS} {p : Addr} {a : OV} (h : O p = none) (hQ : Q d O) : rtL Q d (put O p a) := ⟨O, fun x o e => by
  rw [put_ne fun z => by
    rw [z, h] at e
    cases e]
  exact e, hQ⟩
@[simp] theorem sl_lit1 : 1 ≤ sizeLine := by rw [sizeLine_eq]; decide
@[simp] theorem sl_lit2 : 2 ≤ sizeLine := by rw [sizeLine_eq]; decide
@[simp] theorem sl_lit3 : 3 ≤ sizeLine := by rw [sizeLine_eq]; decide
@[simp] theorem sl_lit4 : 4 ≤ sizeLine := by rw [sizeLine_eq]; decide
@[simp] theorem sl_lit5 : 5 ≤ sizeLine := by rw [sizeLine_eq]; decide
@[simp] theorem sl_lit6 : 6 ≤ sizeLine := by rw [sizeLine_eq]; decide
@[simp] theorem sl_lit7 : 7 ≤ sizeLine := by rw [sizeLine_eq]; decide
@[simp] theorem sl_lit8 : 8 ≤ sizeLine := by rw [sizeLine_eq]; decide
@[simp] theorem sl_lit9 : 9 ≤ sizeLine := by rw [sizeLine_eq]; decide
@[simp] theorem sl_lit10 : 10 ≤ sizeLine := by rw [sizeLine_eq]; decide
@[simp] theorem sl_lit11 : 11 ≤ sizeLine := by rw [sizeLine_eq]; decide
@[simp] theorem sl_lit12 : 12 ≤ sizeLine := by rw [sizeLine_eq]; decide
/-! ### places -/
theorem atI_at {α : Type} {l : List α} {i : Int} {x : α} (n : Nat) (hi : i = (n : Int)) (h : l[n]? = some x) : atI l i = some x := by
  rw [hi]
  exact atI_nat h
@[simp] theorem atI_0 {α : Type} {x : α} {l : List α} : atI (x :: l) 0 = some x := atI_at 0 rfl rfl
@[simp] theorem atI_1 {α : Type} {x y : α} {l : List α} : atI (x :: y :: l) 1 = some y := atI_at 1 rfl rfl
@[simp] theorem atI_2 {α : Type} {x y z : α} {l : List α} : atI (x :: y :: z :: l) 2 = some z := atI_at 2 rfl rfl
@[simp] theorem atI_3 {α : Type} {x y z u : α} {l : List α} : atI (x :: y :: z :: u :: l) 3 = some u := atI_at 3 rfl rfl
@[simp] theorem atI_4 {α : Type} {x y z u v : α} {l : List α} : atI (x :: y :: z :: u :: v :: l) 4 = some v := atI_at 4 rfl rfl
@[simp] theorem atI_5 {α : Type} {x y z u v w : α} {l : List α} : atI (x :: y :: z :: u :: v :: w :: l) 5 = some w := atI_at 5 rfl rfl
/-! ### loops -/
theorem lc_map {g : WG} {te : WE} {η : Sl} {st : OS → Prop} {f : D → D} {O : OS} {Q : QD} : ∀ (items acc : List D), (∀ d ∈ items, ∀ P : QD, P (f d) O → g d η O fun η1 O1 => te η1 O1 P) → st O → acc.length + items.length ≤ sizeLine →
    Q (.lst (acc ++ items.map f)) O → lcGo g wYes te η st items acc O Q
  | [], acc, _, hst, _, hQ => ⟨hst, by simpa using hQ⟩
  | d :: r, acc, h, hst, hl, hQ => by
    refine ⟨hst, ?_⟩
    refine h d (List.mem_cons_self ..) _ ?_
    have hl : acc.length + (r.length + 1) ≤ sizeLine := hl
    refine ⟨by omega, lc_map r (acc ++ [f d]) (fun x hx => h x (List.mem_cons_of_mem _ hx)) hst ?_ ?_⟩
    · rw [List.length_append, List.length_singleton]
      omega
    · rw [List.append_assoc]
      exact hQ
theorem lc_fil {g : WG} {tt : WT} {te : WE} {η : Sl} {st : OS → Prop} {b : D → Bool} {f : D → D} {O : OS} {Q : QD} : ∀ (items acc : List D),
    (∀ d ∈ items, ∀ (P : QD) (N : OS → Prop), (b d = true → P (f d) O) → (b d = false → N O) → g d η O fun η1 O1 => tt η1 O1 fun c O2 => match c with
      | true => te η1 O2 P
      | false => N O2) → st O → acc.length + items.length ≤ sizeLine → Q (.lst (acc ++ (items.filter b).map f)) O → lcGo g tt te η st items acc O Q
  | [], acc, _, hst, _, hQ => ⟨hst, by simpa using hQ⟩
  | d :: r, acc, h, hst, hl, hQ => by
    have hl : acc.length + (r.length + 1) ≤ sizeLine := hl
    refine ⟨hst, h d (List.mem_cons_self ..) _ _ (fun e => ⟨by omega, ?_⟩) fun e => ?_⟩
    · refine lc_fil r (acc ++ [f d]) (fun x hx => h x (List.mem_cons_of_mem _ hx)) hst ?_ ?_
      · rw [List.length_append, List.length_singleton]
        omega
      · rw [List.filter_cons_of_pos e] at hQ
        rw [List.append_assoc]
        exact hQ
    · refine lc_fil r acc (fun x hx => h x (List.mem_cons_of_mem _ hx)) hst (by omega) ?_
      rw [List.filter_cons_of_neg (by rw [e]; exact Bool.false_ne_true)] at hQ
      exact hQ
theorem for_inv {g : WG} {body : WS} {st : OS → Prop} {f : Fin} {I : Nat → Sl → OS → Prop} (items : List D) (hst : ∀ i η O, I i η O → st O)
    (step : ∀ i d η O, items[i]? = some d → I i η O → ∀ N : Sl → OS → Prop, (∀ η' O', I (i + 1) η' O' → N η' O') → g d η O fun η1 O1 => body { nx := N, ct := N, bk := f.nx, rt := f.rt } η1 O1)
    {η : Sl} {O : OS} (h0 : I 0 η O) (hend : ∀ η O, I items.length η O → f.nx η O) : forGo g body st items f η O := by
  have key : ∀ (r : List D) (i : Nat) (η : Sl) (O : OS), items.drop i = r → i ≤ items.length → I i η O → forGo g body st r f η O := by
    intro r
    induction r with
    | nil =>
      intro i η O e hi h
      have hl : items.length ≤ i := by
        have := congrArg List.length e
        rw [List.length_drop] at this
        simpa using Nat.sub_eq_zero_iff_le.mp this
      have e2 : i = items.length := by omega
      subst e2
      exact ⟨hst _ _ _ h, hend _ _ h⟩
    | cons d r ih =>
      intro i η O e hi h
      obtain ⟨hx, hr⟩ := get_drop e
      have hlt := (List.getElem?_eq_some_iff.mp hx).1
      refine ⟨hst _ _ _ h, step i d η O hx h _ fun η' O' h' => ih (i + 1) η' O' hr hlt h'⟩
  exact key items 0 η O rfl (Nat.zero_le _) h0

def isIntD : D → Bool
  | .int _ => true
  | _ => false
end Sw

set_option maxRecDepth 100000
set_option maxHeartbeats 4000000
namespace Sw
open PySem PySem.Spec PyProof.Rows L2
/-! ### == of data of any depth -/
mutual
def eqT : D → D → Bool
  | .non, .non => true
  | .bl a, .bl b => a == b
  | .bl a, .int b => (if a then 1 else 0) == b
  | .int a, .bl b => a == (if b then 1 else 0)
  | .int a, .int b => a == b
  | .str a, .str b => a == b
  | .tup a, .tup b => eqTs a b
  | .lst a, .lst b => eqTs a b
  | _, _ => false
def eqTs : List D → List D → Bool
  | [], [] => true
  | a :: r, b :: q => eqT a b && eqTs r q
  | _, _ => false
end
mutual
def plD : D → Bool
  | .non => true
  | .bl _ => true
  | .int _ => true
  | .str z => PyData.canLay0 (.str z)
  | .tup l => plDs l
  | .lst l => plDs l
  | _ => false
def plDs : List D → Bool
  | [] => true
  | d :: r => plD d && plDs r
end
mutual
def dpD : D → Nat
  | .tup l => dpDs l + 1
  | .lst l => dpDs l + 1
  | _ => 0
def dpDs : List D → Nat
  | [] => 0
  | d :: r => max (dpD d) (dpDs r)
end
mutual
theorem toP_pl : ∀ {d : D}, plD d = true → ∃ p, toP d = some p ∧ p.canLay0 = true ∧ p.depth = dpD d
  | .non, _ => ⟨.none, rfl, rfl, rfl⟩
  | .bl b, _ => ⟨.bool b, rfl, rfl, rfl⟩
  | .int i, _ => ⟨.int i, rfl, rfl, rfl⟩
  | .str z, h => ⟨.str z, rfl, h, rfl⟩
  | .tup l, h => by
    obtain ⟨ps, h1, h2, h3⟩ := toPs_pl (ds := l) h
    exact ⟨.tuple ps, by show (toPs l).map PyData.tuple = _; rw [h1]; rfl, by rw [PyData.canLay0]; exact h2, by rw [PyData.depth, dpD, h3]⟩
  | .lst l, h => by
    obtain ⟨ps, h1, h2, h3⟩ := toPs_pl (ds := l) h
    exact ⟨.list ps, by show (toPs l).map PyData.list = _; rw [h1]; rfl, by rw [PyData.canLay0]; exact h2, by rw [PyData.depth, dpD, h3]⟩
  | .scr _, h => nomatch h
  | .dk _, h => nomatch h
  | .ty _, h => nomatch h
  | .ref _, h => nomatch h
theorem toPs_pl : ∀ {ds : List D}, plDs ds = true → ∃ ps, toPs ds = some ps ∧ PyData.canLayAll0 ps = true ∧ PyData.depthAll ps = dpDs ds
  | [], _ => ⟨[], rfl, rfl, rfl⟩
  | d :: r, h => by
    obtain ⟨ha, hb⟩ := Bool.and_eq_true_iff.mp (show (plD d && plDs r) = true from h)
    obtain ⟨p, h1, h2, h3⟩ := toP_pl ha
    obtain ⟨ps, h4, h5, h6⟩ := toPs_pl hb
    exact ⟨p :: ps, by show (toP d).bind (fun p => (toPs r).map fun q => p :: q) = _; rw [h1, h4]; rfl, by rw [PyData.canLayAll0, h2, h5]; rfl, by rw [PyData.depthAll, dpDs, h3, h6]⟩
end
theorem toPO_pl {O : OS} {d : D} (h : plD d = true) : toPO O d = toP d := by
  cases d <;> first | rfl | cases h
mutual
theorem eqv_T : ∀ {d e : D} {p q : PyData}, toP d = some p → toP e = some q → PyData.eqv p q = eqT d e
  | .non, e, _, _, h1, h2 => by
    cases h1
    cases e <;> first | (cases h2; rfl) | cases h2 | (obtain ⟨_, _, rfl⟩ := Option.map_eq_some_iff.mp (show Option.map _ _ = _ from h2); rfl)
  | .bl b, e, _, _, h1, h2 => by
    cases h1
    cases e <;> first | (cases h2; rfl) | cases h2 | (obtain ⟨_, _, rfl⟩ := Option.map_eq_some_iff.mp (show Option.map _ _ = _ from h2); rfl)
  | .int b, e, _, _, h1, h2 => by
    cases h1
    cases e <;> first | (cases h2; rfl) | cases h2 | (obtain ⟨_, _, rfl⟩ := Option.map_eq_some_iff.mp (show Option.map _ _ = _ from h2); rfl)
  | .str b, e, _, _, h1, h2 => by
    cases h1
    cases e <;> first | (cases h2; rfl) | cases h2 | (obtain ⟨_, _, rfl⟩ := Option.map_eq_some_iff.mp (show Option.map _ _ = _ from h2); rfl)
  | .tup l, e, _, _, h1, h2 => by
    obtain ⟨ps, h3, rfl⟩ := Option.map_eq_some_iff.mp (show (toPs l).map PyData.tuple = _ from h1)
    cases e with
    | tup m =>
      obtain ⟨qs, h4, rfl⟩ := Option.map_eq_some_iff.mp (show (toPs m).map PyData.tuple = _ from h2)
      rw [PyData.eqv, eqT]
      exact eqvs_T h3 h4
    | lst m =>
      obtain ⟨qs, h4, rfl⟩ := Option.map_eq_some_iff.mp (show (toPs m).map PyData.list = _ from h2)
      rfl
    | _ => first | (cases h2; rfl) | cases h2
  | .lst l, e, _, _, h1, h2 => by
    obtain ⟨ps, h3, rfl⟩ := Option.map_eq_some_iff.mp (show (toPs l).map PyData.list = _ from h1)
    cases e with
    | lst m =>
      obtain ⟨qs, h4, rfl⟩ := Option.map_eq_some_iff.mp (show (toPs m).map PyData.list = _ from h2)
      rw [PyData.eqv, eqT]
      exact eqvs_T h3 h4
    | tup m =>
      obtain ⟨qs, h4, rfl⟩ := Option.map_eq_some_iff.mp (show (toPs m).map PyData.tuple = _ from h2)
      rfl
    | _ => first | (cases h2; rfl) | cases h2
  | .scr _, _, _, _, h1, _ => by cases h1
  | .dk _, _, _, _, h1, _ => by cases h1
  | .ty _, _, _, _, h1, _ => by cases h1
  | .ref _, _, _, _, h1, _ => by cases h1
theorem eqvs_T : ∀ {d e : List D} {p q : List PyData}, toPs d = some p → toPs e = some q → PyData.eqvAll p q = eqTs d e
  | [], [], _, _, h1, h2 => by
    cases h1
    cases h2
    rfl
  | [], b :: e, _, _, h1, h2 => by
    cases h1
    obtain ⟨x, h3, h4⟩ := Option.bind_eq_some_iff.mp (show (toP b).bind (fun p => (toPs e).map fun q => p :: q) = some _ from h2)
    obtain ⟨y, h5, rfl⟩ := Option.map_eq_some_iff.mp h4
    rfl
  | a :: d, [], _, _, h1, h2 => by
    cases h2
    obtain ⟨x, h3, h4⟩ := Option.bind_eq_some_iff.mp (show (toP a).bind (fun p => (toPs d).map fun q => p :: q) = some _ from h1)
    obtain ⟨y, h5, rfl⟩ := Option.map_eq_some_iff.mp h4
    rfl
  | a :: d, b :: e, _, _, h1, h2 => by
    obtain ⟨x, h3, h4⟩ := Option.bind_eq_some_iff.mp (show (toP a).bind (fun p => (toPs d).map fun q => p :: q) = some _ from h1)
    obtain ⟨y, h5, rfl⟩ := Option.map_eq_some_iff.mp h4
    obtain ⟨z, h6, h7⟩ := Option.bind_eq_some_iff.mp (show (toP b).bind (fun p => (toPs e).map fun q => p :: q) = some _ from h2)
    obtain ⟨u, h8, rfl⟩ := Option.map_eq_some_iff.mp h7
    rw [PyData.eqvAll, eqTs, eqv_T h3 h6, eqvs_T h5 h8]
end
theorem shaped_pl {d : D} {p : PyData} (h : plD d = true) (h2 : dpD d ≤ 64) (e : toP d = some p) : SeqAt.shaped p = true := by
  obtain ⟨q, h3, h4, h5⟩ := toP_pl h
  rw [e] at h3
  cases h3
  unfold SeqAt.shaped
  rw [Bool.and_eq_true_iff]
  exact ⟨h4, decide_eq_true (by rw [h5]; exact h2)⟩
theorem beq_dec {α : Type} [BEq α] [LawfulBEq α] [DecidableEq α] (a b : α) : (a == b) = decide (a = b) := by
  by_cases h : a = b
  · subst h
    simp
  · simp [h]
theorem eqT_int {a b : Int} : eqT (.int a) (.int b) = decide (a = b) := by
  rw [eqT, beq_dec]
theorem eqT_str {a b : Str} : eqT (.str a) (.str b) = decide (a = b) := by
  rw [eqT, beq_dec]
/-- == of plain data -/
theorem rEqq_pl {O : OS} {Q : QD} {neg : Bool} {d e : D} (h1 : plD d = true) (h2 : plD e = true) (h3 : dpD d ≤ 64) (h4 : dpD e ≤ 64) : rEqq neg d e O Q = Q (.bl (if neg then !eqT d e else eqT d e)) O := by
  obtain ⟨p, h5, _, _⟩ := toP_pl h1
  obtain ⟨q, h6, _, _⟩ := toP_pl h2
  have gen : (∃ p q, toPO O d = some p ∧ toPO O e = some q ∧ SeqAt.shaped p = true ∧ SeqAt.shaped q = true ∧ Q (.bl (if neg then !PyData.eqv p q else PyData.eqv p q)) O) = Q (.bl (if neg then !eqT d e else eqT d e)) O := by
    refine propext ⟨?_, fun z => ⟨p, q, (toPO_pl h1).trans h5, (toPO_pl h2).trans h6, shaped_pl h1 h3 h5, shaped_pl h2 h4 h6, by rw [eqv_T h5 h6]; exact z⟩⟩
    rintro ⟨p', q', e1, e2, _, _, z⟩
    rw [toPO_pl h1, h5] at e1
    rw [toPO_pl h2, h6] at e2
    cases e1
    cases e2
    rw [eqv_T h5 h6] at z
    exact z
  cases d <;> cases e <;> first | exact gen | rw [rEqq_int, eqT_int] | rw [rEqq_str, eqT_str]
/-! of lists -/
theorem plDs_all {l : List D} : plDs l = l.all plD := by
  induction l with
  | nil => rfl
  | cons d l ih => rw [plDs, ih, List.all_cons]
theorem dpDs_le {l : List D} {n : Nat} (h : ∀ d ∈ l, dpD d ≤ n) : dpDs l ≤ n := by
  induction l with
  | nil => exact Nat.zero_le _
  | cons d l ih =>
    rw [dpDs]
    exact Nat.max_le.mpr ⟨h d (List.mem_cons_self ..), ih fun e he => h e (List.mem_cons_of_mem _ he)⟩
mutual
theorem eqT_refl : ∀ d : D, plD d = true → eqT d d = true
  | .non, _ => rfl
  | .bl b, _ => by rw [eqT]; exact beq_self_eq_true b
  | .int b, _ => by rw [eqT]; exact beq_self_eq_true b
  | .str b, _ => by rw [eqT]; exact beq_self_eq_true b
  | .tup l, h => by rw [eqT]; exact eqTs_refl l h
  | .lst l, h => by rw [eqT]; exact eqTs_refl l h
  | .scr _, h => nomatch h
  | .dk _, h => nomatch h
  | .ty _, h => nomatch h
  | .ref _, h => nomatch h
theorem eqTs_refl : ∀ l : List D, plDs l = true → eqTs l l = true
  | [], _ => rfl
  | d :: r, h => by
    obtain ⟨ha, hb⟩ := Bool.and_eq_true_iff.mp (show (plD d && plDs r) = true from h)
    rw [eqTs, eqT_refl d ha, eqTs_refl r hb]
    rfl
end
/-- data that may be told apart -/
theorem eqTs_map {α : Type} {f : α → D} (hf : ∀ a b, eqT (f a) (f b) = true ↔ a = b) : ∀ {l m : List α}, eqTs (l.map f) (m.map f) = true ↔ l = m
  | [], [] => by simp [eqTs]
  | [], b :: m => by simp [eqTs]
  | a :: l, [] => by simp [eqTs]
  | a :: l, b :: m => by
    rw [List.map_cons, List.map_cons, eqTs, Bool.and_eq_true_iff, hf, eqTs_map hf, List.cons.injEq]
theorem eqTs_dec {α : Type} [DecidableEq α] {f : α → D} (hf : ∀ a b, eqT (f a) (f b) = decide (a = b)) {l m : List α} : eqTs (l.map f) (m.map f) = decide (l = m) := by
  by_cases h : l = m
  · rw [decide_eq_true h]
    exact (eqTs_map fun a b => by rw [hf, decide_eq_true_eq]).mpr h
  · rw [decide_eq_false h]
    cases e : eqTs (l.map f) (m.map f) with
    | false => rfl
    | true => exact absurd ((eqTs_map fun a b => by rw [hf, decide_eq_true_eq]).mp e) h
@[simp] theorem plD_non : plD .non = true := rfl
@[simp] theorem plD_bl {b : Bool} : plD (.bl b) = true := rfl
@[simp] theorem plD_int {b : Int} : plD (.int b) = true := rfl
@[simp] theorem plD_tup {l : List D} : plD (.tup l) = plDs l := rfl
@[simp] theorem plD_lst {l : List D} : plD (.lst l) = plDs l := rfl
@[simp] theorem plDs_nil : plDs [] = true := rfl
@[simp] theorem plDs_cons {d : D} {l : List D} : plDs (d :: l) = (plD d && plDs l) := rfl
@[simp] theorem plDs_app {l m : List D} : plDs (l ++ m) = (plDs l && plDs m) := by rw [plDs_all, plDs_all, plDs_all, List.all_append]
@[simp] theorem dpD_non : dpD .non = 0 := rfl
@[simp] theorem dpD_bl {b : Bool} : dpD (.bl b) = 0 := rfl
@[simp] theorem dpD_int {b : Int} : dpD (.int b) = 0 := rfl
@[simp] theorem dpD_str {b : Str} : dpD (.str b) = 0 := rfl
@[simp] theorem dpD_tup {l : List D} : dpD (.tup l) = dpDs l + 1 := rfl
@[simp] theorem dpD_lst {l : List D} : dpD (.lst l) = dpDs l + 1 := rfl
@[simp] theorem dpDs_nil : dpDs [] = 0 := rfl
@[simp] theorem dpDs_cons {d : D} {l : List D} : dpDs (d :: l) = max (dpD d) (dpDs l) := rfl
@[simp] theorem plDs_ints {l : List Int} : plDs (l.map .int) = true := by
  rw [plDs_all, List.all_map]
  exact List.all_eq_true.mpr fun _ _ => rfl
@[simp] theorem plDs_bls {l : List Bool} : plDs (l.map .bl) = true := by
  rw [plDs_all, List.all_map]
  exact List.all_eq_true.mpr fun _ _ => rfl
@[simp] theorem dpDs_ints {l : List Int} : dpDs (l.map .int) = 0 := Nat.le_zero.mp (dpDs_le fun d hd => by
  obtain ⟨_, _, rfl⟩ := List.mem_map.mp hd
  exact Nat.le_refl _)
@[simp] theorem dpDs_bls {l : List Bool} : dpDs (l.map .bl) = 0 := Nat.le_zero.mp (dpDs_le fun d hd => by
  obtain ⟨_, _, rfl⟩ := List.mem_map.mp hd
  exact Nat.le_refl _)
@[simp] theorem eqTs_ints {l m : List Int} : eqTs (l.map .int) (m.map .int) = decide (l = m) := eqTs_dec fun _ _ => eqT_int
end Sw

set_option maxRecDepth 100000
set_option maxHeartbeats 4000000
/-! min(xs) of a list of pairs of ints -/
namespace Sw
open PySem PySem.Spec PyProof.Rows L2
section
variable {P : Program} {w : World} {A : Around} {RR : Result → Shared → Prop} {I : Addr} {fp wr : List Addr} {n : Nat} {PV : Nat → Value → Prop} {ST : Nat → Heap → Prop}
/-- a comparison that is known while the heap is so -/
def CmpH (P : Program) (w : World) (A : Around) (G : Heap → Prop) (PV : Nat → Value → Prop) (bt : Nat → Nat → Bool) : Prop :=
  ∀ i j x y (s : Shared) (Q : Value → Shared → Prop) (E : Value → Shared → Prop), G s.heap → PV i x → PV j y → Q (.bool (bt i j)) s → wpAny (model P w) A (richCompare .Lt x y) Q E s
abbrev cell (S : Addr) (l : Array Value) (c : Nat) (h : Heap) : Prop := h.get? S = some { cls := .type "list", dict := none, data := .seq l c, slots := #[] }
theorem mm_name : (toString "min" ++ toString ".loop" : String) = "min.loop" := by decide
theorem minH_loop (W : Walks P w A.in1 I fp wr n PV ST) (bt : Nat → Nat → Bool) (G : Heap → Prop) (S : Addr) (sf : S ∉ fp) (gk : ∀ h h', G h → (∀ b o, b ∉ wr → b ≠ S → h.get? b = some o → h'.get? b = some o) → G h') (cmp : CmpH P w A.in1 G PV bt) :
    ∀ (k j : Nat) (s : Shared) (b : Value) (c : Nat), n - (j + 1) = k → j + 1 ≤ n → ST (j + 1) s.heap → G s.heap → PV (argBest bt j) b → cell S #[b, b] c s.heap →
    (∀ v h' tk, PV (argBest bt (n - 1)) v → (∀ b o, b ∉ wr → b ≠ S → s.heap.get? b = some o → h'.get? b = some o) → RR (.ok (.ret v)) { s with heap := h', toks := tk }) →
    codeAny (model P w) A (.builtin "min.loop" ⟨[.ref I, .none, .ref S], []⟩) RR s := by
  have sw : S ∉ wr := fun z => sf (W.sub _ z)
  intro k
  induction k with
  | zero =>
    intro j s b c e1 e2 st g pb cs kk
    have en : j + 1 = n := by omega
    refine codeAny_builtin F.entry_min_loop ?_; rw [Around.under_plainId F.plain_min_loop _]
    refine (show wpAny _ A.in1 (seqItems? (.ref S) >>= _) _ _ s from wpAny_bind (wpAny_seqItems cs rfl ?_))
    refine (show wpAny _ A.in1 (tryCatch (pyNext (.ref I)) _ >>= _) _ _ s from wpAny_bind (wpAny_tryCatch (W.done s _ _ (en ▸ st) fun h1 t1 q1 => ?_)))
    have cs1 := q1 S _ sw cs
    refine (show wpAny _ A.in1 (updateSeq S (fun _ => #[]) >>= _) _ _ _ from wpAny_bind (wpAny_updateSeq cs1 rfl (wpAny_bind (wpAny_letGo (wpAny_pure ?_)))))
    exact kk b _ t1 (by rw [← en]; exact pb) fun x o z1 z2 z3 => (Heap.get?_update_other _ _ (Ne.symm z2)).trans (q1 x o z1 z3)
  | succ k ih =>
    intro j s b c e1 e2 st g pb cs kk
    have lt : j + 1 < n := by omega
    refine codeAny_builtin F.entry_min_loop ?_; rw [Around.under_plainId F.plain_min_loop _]
    refine (show wpAny _ A.in1 (seqItems? (.ref S) >>= _) _ _ s from wpAny_bind (wpAny_seqItems cs rfl ?_))
    refine (show wpAny _ A.in1 (tryCatch (pyNext (.ref I)) _ >>= _) _ _ s from wpAny_bind (wpAny_tryCatch (W.item (j + 1) s _ _ lt st fun v h1 t1 pv st1 q1 => ?_)))
    have cs1 := q1 S _ sw cs
    have g1 : G h1 := gk _ _ g fun x o z1 _ z3 => q1 x o z1 z3
    show wpAny _ A.in1 (tryCatch (holding [v, v] (richCompare .Lt v b >>= _)) _ >>= _) _ _ _
    refine wpAny_bind (wpAny_tryCatch (wpAny_holding (wpAny_bind (cmp (j + 1) (argBest bt j) v b _ _ _ g1 pv pb ?_))))
    refine wpAny_bind (wpAny_holding (wpAny_truthy_bool (wpAny_bind (wpAny_letGo (wpAny_pure ?_)))))
    cases hb : bt (j + 1) (argBest bt j) with
    | true =>
      have f1 : ∀ x, x ∈ fp → S ≠ x := fun x z e => sf (e ▸ z)
      simp only [if_true]
      refine wpAny_bind (wpAny_updateSeq cs1 rfl (wpAny_bind (wpAny_letGo ?_))); rw [mm_name]; refine wpAny_pure ⟨plainId_quiet F.plain_min_loop _, ?_⟩
      refine ih (j + 1) _ v _ (by omega) lt (W.frame _ _ _ st1 fun x z o q => (Heap.get?_update_other _ _ (f1 x z)).trans q) (gk _ _ g1 fun x o _ z2 z3 => (Heap.get?_update_other _ _ (Ne.symm z2)).trans z3) (by simp only [argBest, hb, if_true]; exact pv)
        (Heap.get?_update_self _ cs1 rfl) fun v2 h2 t2 p2 q2 => kk v2 h2 t2 p2 fun x o z1 z2 z3 => q2 x o z1 z2 ((Heap.get?_update_other _ _ (Ne.symm z2)).trans (q1 x o z1 z3))
    | false =>
      simp only [Bool.false_eq_true, if_false]
      refine wpAny_bind (wpAny_letGo ?_); rw [mm_name]; refine wpAny_pure ⟨plainId_quiet F.plain_min_loop _, ?_⟩
      exact ih (j + 1) _ b c (by omega) lt st1 g1 (by simp only [argBest, hb, Bool.false_eq_true, if_false]; exact pb) cs1 fun v2 h2 t2 p2 q2 => kk v2 h2 t2 p2 fun x o z1 z2 z3 => q2 x o z1 z2 (q1 x o z1 z3)
theorem minH_first (W : Walks P w A.in1 I fp wr n PV ST) (bt : Nat → Nat → Bool) (G : Heap → Prop) (S : Addr) (sf : S ∉ fp) (gk : ∀ h h', G h → (∀ b o, b ∉ wr → b ≠ S → h.get? b = some o → h'.get? b = some o) → G h') (cmp : CmpH P w A.in1 G PV bt)
    (h0 : 0 < n) {s : Shared} {c : Nat} (st : ST 0 s.heap) (g : G s.heap) (cs : cell S #[] c s.heap)
    (kk : ∀ v h' tk, PV (argBest bt (n - 1)) v → (∀ b o, b ∉ wr → b ≠ S → s.heap.get? b = some o → h'.get? b = some o) → RR (.ok (.ret v)) { s with heap := h', toks := tk }) :
    codeAny (model P w) A (.builtin "min.loop" ⟨[.ref I, .none, .ref S], []⟩) RR s := by
  have sw : S ∉ wr := fun z => sf (W.sub _ z)
  have f1 : ∀ x, x ∈ fp → S ≠ x := fun x z e => sf (e ▸ z)
  refine codeAny_builtin F.entry_min_loop ?_; rw [Around.under_plainId F.plain_min_loop _]
  refine (show wpAny _ A.in1 (seqItems? (.ref S) >>= _) _ _ s from wpAny_bind (wpAny_seqItems cs rfl ?_))
  refine (show wpAny _ A.in1 (tryCatch (pyNext (.ref I)) _ >>= _) _ _ s from wpAny_bind (wpAny_tryCatch (W.item 0 s _ _ h0 st fun v h1 t1 pv st1 q1 => ?_)))
  have cs1 := q1 S _ sw cs
  have g1 : G h1 := gk _ _ g fun x o z1 _ z3 => q1 x o z1 z3
  refine (show wpAny _ A.in1 (updateSeq S (fun _ => #[v, v]) >>= _) _ _ _ from wpAny_bind (wpAny_updateSeq cs1 rfl ?_)); rw [mm_name]; refine wpAny_pure ⟨plainId_quiet F.plain_min_loop _, ?_⟩
  exact minH_loop W bt G S sf gk cmp _ 0 _ v _ rfl h0 (W.frame _ _ _ st1 fun x z o q => (Heap.get?_update_other _ _ (f1 x z)).trans q) (gk _ _ g1 fun x o _ z2 z3 => (Heap.get?_update_other _ _ (Ne.symm z2)).trans z3) pv (Heap.get?_update_self _ cs1 rfl)
    fun v2 h2 t2 p2 q2 => kk v2 h2 t2 p2 fun x o z1 z2 z3 => q2 x o z1 z2 ((Heap.get?_update_other _ _ (Ne.symm z2)).trans (q1 x o z1 z3))
end
section
variable {P : Program} {w : World} {A : Around} {E : Value → Shared → Prop} {s : Shared}
/-- min of a list, by a comparison that is known of the heap -/
theorem minH_list {l : Addr} {items : Array Value} {Q : Value → Shared → Prop} (hh : A.handled = none) (hl : s.heap.IsList l items) (h0 : 0 < items.size) (bt : Nat → Nat → Bool) (G : Heap → Prop) (g : G s.heap)
    (gk : ∀ h h', G h → (∀ b o, b < s.heap.objs.size → h.get? b = some o → h'.get? b = some o) → G h') (cmp : CmpH P w A.in1 G (fun i v => items[i]? = some v) bt)
    (kk : ∀ v h' tk, items[argBest bt (items.size - 1)]? = some v → (∀ b o, s.heap.get? b = some o → h'.get? b = some o) → Q v { s with heap := h', toks := tk }) :
    wpAny (model P w) A (call (.builtin "min") [.ref l]) Q E s := by
  have ll : l < s.heap.objs.size := by
    obtain ⟨_, e, _⟩ := hl
    exact Heap.lt_size e
  refine call_function_tree F.kind_min F.plain_min F.entry_min (F.args_min1 _) ?_
  refine (show wpAny _ A.in1 (Builtin.Builtins.bindParams "min" ["key", "default"] 0 ⟨[], []⟩ >>= _) _ _ s from wpAny_bind (wpAny_of_eq (show Builtin.Builtins.bindParams "min" ["key", "default"] 0 ⟨[], []⟩ = pure [none, none] from rfl) (wpAny_bind (wpAny_pure ?_))))
  refine wpAny_bind (wpAny_pyIter_list hl ?_)
  have z1 : (s.heap.push { cls := .type "list_iterator", data := .fields #[.ref l, .int 0 0] }).objs.size = s.heap.objs.size + 1 := Heap.size_push ..
  refine wpAny_bind (wpAny_newObj_type ?_); rw [mm_name]; refine wpAny_pure ⟨plainId_quiet F.plain_min_loop _, ?_⟩
  refine minH_first (I := s.heap.objs.size) (Walks.list (A := A.in1) hh _ l (Nat.ne_of_lt ll) items) bt G _ (fun z => ?_) (fun h h' gg q => gk h h' gg fun b o z2 => q b o (fun z3 => ?_) fun z3 => ?_) cmp h0
    ⟨⟨_, Heap.get?_push_of_some _ (Heap.get?_push_size _ rfl), rfl, rfl⟩, (hl.push _).push _⟩ (gk _ _ (gk _ _ g fun b o _ z => Heap.get?_push_of_some _ z) fun b o _ z => Heap.get?_push_of_some _ z) (Heap.get?_push_size _ rfl) fun v h' tk p q => ?_
  · rw [z1] at z
    rcases List.mem_cons.mp z with z | z
    · exact Nat.succ_ne_self _ z
    · rcases List.mem_cons.mp z with z | z
      · exact Nat.lt_irrefl _ (Nat.lt_of_lt_of_le ll (z ▸ Nat.le_succ _))
      · cases z
  · rcases List.mem_cons.mp z3 with z | z
    · exact Nat.lt_irrefl _ (z ▸ z2)
    · cases z
  · rw [z1] at z3
    exact Nat.lt_irrefl _ (Nat.lt_trans (z3 ▸ z2) (Nat.lt_succ_self _))
  · refine kk v h' tk p fun b o z => ?_
    have zb := Heap.lt_size z
    refine q b o (fun z3 => ?_) (fun z3 => ?_) (Heap.get?_push_of_some _ (Heap.get?_push_of_some _ z))
    · rcases List.mem_cons.mp z3 with z | z
      · exact Nat.lt_irrefl _ (z ▸ zb)
      · cases z
    · rw [z1] at z3
      exact Nat.lt_irrefl _ (Nat.lt_trans (z3 ▸ zb) (Nat.lt_succ_self _))
end
end Sw
namespace Sw
open PySem PySem.Spec PyProof.Rows L2
def pairsD : List D → Option (List (Int × Int))
  | [] => some []
  | .tup [.int i, .int j] :: r => (pairsD r).map fun q => (i, j) :: q
  | _ :: _ => none
def pairD (p : Int × Int) : D := .tup [.int p.1, .int p.2]
theorem pairsD_map : ∀ l : List (Int × Int), pairsD (l.map pairD) = some l
  | [] => rfl
  | p :: l => by
    show (pairsD (l.map pairD)).map (fun q => (p.1, p.2) :: q) = _
    rw [pairsD_map l]
    rfl
theorem pairsD_eq : ∀ {ds : List D} {l : List (Int × Int)}, pairsD ds = some l → ds = l.map pairD
  | [], _, e => by
    cases e
    rfl
  | d :: r, l, e => by
    unfold pairsD at e
    split at e
    · cases ‹_ :: _ = []›
    · rename_i i j r' h
      cases h
      obtain ⟨q, h1, rfl⟩ := Option.map_eq_some_iff.mp e
      rw [pairsD_eq h1]
      rfl
    · cases e
/-- the order of pairs -/
def lexLt (p q : Int × Int) : Bool := decide (p.1 < q.1) || (decide (p.1 = q.1) && decide (p.2 < q.2))
def lexLe (p q : Int × Int) : Bool := decide (p.1 < q.1) || (decide (p.1 = q.1) && decide (p.2 ≤ q.2))
def rMinP : RD := fun ds O Q => match ds with
  | [d] => ∃ l ps, asL O d = some l ∧ pairsD l = some ps ∧ 0 < ps.length ∧ ∀ m, m ∈ ps → (∀ y, y ∈ ps → lexLe m y = true) → Q (pairD m) O
  | _ => False
theorem argBest_lex {p : Nat → Int × Int} : ∀ k, argBest (fun i j => lexLt (p i) (p j)) k ≤ k ∧ ∀ j, j ≤ k → lexLe (p (argBest (fun i j => lexLt (p i) (p j)) k)) (p j) = true := by
  intro k
  induction k with
  | zero =>
    refine ⟨Nat.le_refl _, fun j hj => ?_⟩
    have : j = 0 := by omega
    subst this
    simp [argBest, lexLe]
  | succ k ih =>
    obtain ⟨h1, h2⟩ := ih
    rw [argBest]
    generalize argBest (fun i j => lexLt (p i) (p j)) k = b at h1 h2
    by_cases hb : lexLt (p (k + 1)) (p b) = true
    · rw [if_pos hb]
      refine ⟨Nat.le_refl _, fun j hj => ?_⟩
      by_cases e : j = k + 1
      · subst e
        simp [lexLe]
      · have h3 := h2 j (by omega)
        simp [lexLt, lexLe] at hb h3 ⊢
        omega
    · rw [if_neg hb]
      refine ⟨by omega, fun j hj => ?_⟩
      by_cases e : j = k + 1
      · subst e
        simp [lexLt, lexLe] at hb ⊢
        omega
      · exact h2 j (by omega)
def PairAt (h : Heap) (v : Value) (x y : Int) : Prop := ∃ a o t u n, v = .ref a ∧ h.get? a = some o ∧ o.cls = .type "tuple" ∧ o.data = .seq #[.int x t, .int y u] n
theorem cmp_pair {A : Around} {s : Shared} {v u : Value} {x y x' y' : Int} (hu : A.units < cLine) (h : PairAt s.heap v x y) (h' : PairAt s.heap u x' y') : Ob.RcOp .Lt A s v u (lexLt (x, y) (x', y')) := by
  obtain ⟨a, o, t1, t2, n, rfl, ho, hc, hd⟩ := h
  obtain ⟨a', o', t3, t4, n', rfl, ho', hc', hd'⟩ := h'
  have R := Ob.RcOp.tuples_lt (A := A) (s := s) (e := fun j => if j = 0 then decide (x = x') else decide (y = y')) (r := fun j => if j = 0 then decide (x < x') else decide (y < y')) (l := a) (b := a') (items := #[.int x t1, .int y t2]) (items2 := #[.int x' t3, .int y' t4]) ⟨o, ho, hc, n, hd⟩ ⟨o', ho', hc', n', hd'⟩ hu
    (fun j h1 h2 => by
      match j, h1 with
      | 0, _ =>
        show SeqAt.EqAt A.in1 s (.int x t1) (.int x' t3) (decide (x = x'))
        rw [← beq_dec]
        exact SeqAt.EqAt.int_int _ _ _ _
      | 1, _ =>
        show SeqAt.EqAt A.in1 s (.int y t2) (.int y' t4) (decide (y = y'))
        rw [← beq_dec]
        exact SeqAt.EqAt.int_int _ _ _ _)
    (fun j h1 h2 _ => by
      match j, h1 with
      | 0, _ => exact Ob.RcOp.lt_int _ _ _ _
      | 1, _ => exact Ob.RcOp.lt_int _ _ _ _)
  have e : Ob.lexAt (fun j => if j = 0 then decide (x = x') else decide (y = y')) (fun j => if j = 0 then decide (x < x') else decide (y < y')) (decide (2 < 2)) 0 2 = lexLt (x, y) (x', y') := by
    simp only [Ob.lexAt, lexLt, if_pos, decide_eq_true_eq]
    by_cases e1 : x = x'
    · simp [e1]
      by_cases e2 : y = y'
      · simp [e2]
      · simp [e2]
    · simp [e1]
  have R' : Ob.RcOp .Lt A s (.ref a) (.ref a') (Ob.lexAt (fun j => if j = 0 then decide (x = x') else decide (y = y')) (fun j => if j = 0 then decide (x < x') else decide (y < y')) (decide (2 < 2)) 0 2) := R
  rw [e] at R'
  exact R'
section
variable {X : Cx} {W : Wd}
theorem c_minP (hc : X.calm = true) (hu0 : X.A.units + 64 < cLine) : CallR X (.builtin "min") (lC X.K W rMinP) := by
  have hu : X.A.in1.units < cLine := by
    show X.A.units + 1 < cLine
    omega
  intro pins s σ H xs us Q I rx q
  obtain ⟨F, O, ds, Q0, hH, r, w, k⟩ := q
  unfold rMinP at w
  split at w
  · obtain ⟨v, rfl, r1⟩ := one_rep r
    obtain ⟨l, ps, e1, e2, hp, w⟩ := w
    obtain ⟨a, ys, rfl, h1, h2⟩ := asL_at hH r1 e1
    have el := pairsD_eq e2
    subst el
    obtain ⟨its, rv, hl, hz⟩ := I.list (SqL.of h1)
    rw [Vals.ref1 rx]
    have n1 : ys.length = ps.length := by rw [h2.length, List.length_map]
    have n2 : its.length = ps.length := by rw [← rv.length, n1]
    have isz : its.toArray.size = ps.length := by rw [List.size_toArray, n2]
    have at_ : ∀ i v, its.toArray[i]? = some v → ∃ y, ys[i]? = some y ∧ RelV y v ∧ Rep X.K F y (pairD (ps.getD i (0, 0))) := by
      intro i v hv
      have hi : i < ps.length := by
        rw [← isz]
        exact (Array.getElem?_eq_some_iff.mp hv).1
      have hv : its[i]? = some v := by simpa using hv
      have e3 : (ps.map pairD)[i]? = some (pairD (ps.getD i (0, 0))) := by
        rw [List.getElem?_map, List.getD_eq_getElem?_getD, List.getElem?_eq_getElem hi]
        rfl
      obtain ⟨y, h3, h4⟩ := h2.get e3
      obtain ⟨v', h5, h6⟩ := Vals.get rv h3
      rw [hv] at h5
      cases h5
      exact ⟨y, h3, h6, h4⟩
    have pair : ∀ i v, its.toArray[i]? = some v → PairAt s.heap v (ps.getD i (0, 0)).1 (ps.getD i (0, 0)).2 := by
      intro i v hv
      obtain ⟨y, _, h6, h4⟩ := at_ i v hv
      obtain ⟨b, zs, rfl, h7, h8⟩ := tup_at hH h4
      cases h6
      obtain ⟨jts, r9, ⟨o, ho, hc2, n, hd⟩, _⟩ := I.tuple h7
      obtain ⟨u1, u2, rfl, s1, s2⟩ := two_rep h8
      cases rep_int s1
      cases rep_int s2
      obtain ⟨t, u, e9⟩ := Vals.int2 r9
      subst e9
      exact ⟨b, o, t, u, n, rfl, ho, hc2, by simpa using hd⟩
    refine minH_list (I.ok.hd hc) hl.isList (by rw [isz]; exact hp) (fun i j => lexLt (ps.getD i (0, 0)) (ps.getD j (0, 0))) (fun h => ∀ i v, its.toArray[i]? = some v → ∃ b o t u n, v = .ref b ∧ b < s.heap.objs.size ∧ h.get? b = some o ∧ o.cls = .type "tuple" ∧ o.data = .seq #[.int (ps.getD i (0, 0)).1 t, .int (ps.getD i (0, 0)).2 u] n)
      (fun i v hv => ?_) (fun h h' g kk i v hv => ?_) (fun i j x y s' Q' E' g hx hy hq => ?_) fun v h' tk hv kk => ?_
    · obtain ⟨b, o, t, u, n, e3, ho, e4, e5⟩ := pair i v hv
      exact ⟨b, o, t, u, n, e3, Heap.lt_size ho, ho, e4, e5⟩
    · obtain ⟨b, o, t, u, n, e3, lt, ho, e4, e5⟩ := g i v hv
      exact ⟨b, o, t, u, n, e3, lt, kk b o lt ho, e4, e5⟩
    · obtain ⟨b, o, t, u, n, e3, lt, ho, e4, e5⟩ := g i x hx
      obtain ⟨b', o', t', u', n', e3', lt', ho', e4', e5'⟩ := g j y hy
      exact cmp_pair hu ⟨b, o, t, u, n, e3, ho, e4, e5⟩ ⟨b', o', t', u', n', e3', ho', e4', e5'⟩ _ _ _ _ hq
    · obtain ⟨y, h3, h6, h4⟩ := at_ _ v hv
      obtain ⟨g1, g2⟩ := argBest_lex (p := fun i => ps.getD i (0, 0)) (its.toArray.size - 1)
      rw [isz] at g1 g2 h4 h3
      generalize argBest (fun i j => lexLt (ps.getD i (0, 0)) (ps.getD j (0, 0))) (ps.length - 1) = b at g1 g2 h4 h3
      have hb : b < ps.length := by omega
      have em : ps.getD b (0, 0) ∈ ps := by
        rw [List.getD_eq_getElem?_getD, List.getElem?_eq_getElem hb]
        exact List.getElem_mem hb
      refine ⟨y, H, I.kept kk, h6, k _ _ (w _ em fun z hz => ?_) _ F H (Step.refl hH) h4⟩
      obtain ⟨j, hj, rfl⟩ := List.mem_iff_getElem.mp hz
      have := g2 j (by omega)
      rw [List.getD_eq_getElem?_getD (l := ps) (i := j), List.getElem?_eq_getElem hj] at this
      exact this
  · exact w.elim
end
end Sw

set_option maxRecDepth 100000
set_option maxHeartbeats 0
namespace Sw
open PySem PySem.Spec PyProof.Rows L2
def cs_sum : Str := "sum"
def cs_form : Str := "form"
def cs_name : Str := "name"
def cs_sha : Str := "sha"
def cs_kind : Str := "kind"
def cs_size : Str := "size"
def cs_files : Str := "files"
def cs_total : Str := "total"
def cs_root : Str := "root"
def cs_BadDescription : Str := "BadDescription"
def cs_BadPlan : Str := "BadPlan"
def cs_Plan : Str := "Plan"
def cs_BadContent : Str := "BadContent"
def exL : List (Str × Str × Bool) := []
def isL : List (Str × Str × Bool) := [("BadContent", "SwarmError", true), ("BadPlan", "SwarmError", true)]
def layL : List (Str × List Str) := [("Plan", ["_description", "_files", "_window", "_place", "_wanted"]), ("BadDescription", ["reason"])]
def layF (c : Str) : List Str := (layL.lookup c).getD []
/-- _law_draws(_law_script, _law_start, _law_most) -/
def w__law_draws (EX : XS) : WS := (sSeq (sSet 3 (wLstM wNil)) (sSeq (sFor (wiL (wSli (wVar 0) (wPt (wVar 1)) wNo)) (gN 4) (sSeq (sSet 5 (wCall rAbs (wCons (wCall rInt1 (wCons (wVar 4) wNil)) wNil))) (sIf (wB (wBin oLt (wVar 5) (wBin oPow (wC (.int 10)) (wC (.int 18))))) (sSeq (sSet 6 (wBin oMod (wCall rInt1 (wCons (wBin oAdd (wBin oMul (wVar 5) (wC (.int 39373))) (wC (.int 23))) wNil)) (wC (.int 2147483647)))) (sSeq (sExpr (wMl rApp (wVar 3) (wCons (wVar 5) wNil))) (sSeq (sExpr (wMl rApp (wVar 3) (wCons (wBin oDiv (wBin oMod (wCall rInt1 (wCons (wBin oAdd (wBin oAdd (wBin oMul (wVar 6) (wC (.int 16807))) (wBin oDiv (wVar 5) (wC (.int 6)))) (wC (.int 3))) wNil)) (wC (.int 2147483399))) (wC (.int 3))) wNil))) (sExpr (wMl rApp (wVar 3) (wCons (wBin oDiv (wBin oMod (wCall rInt1 (wCons (wBin oAdd (wBin oAdd (wBin oMul (wVar 6) (wC (.int 69621))) (wBin oDiv (wVar 5) (wC (.int 11)))) (wC (.int 8))) wNil)) (wC (.int 2147483629))) (wC (.int 7))) wNil)))))) (sFor (wiR1 (wCons (wC (.int 24)) wNil)) (gN 7) (sSeq (sIf (wB (wBin oGt (wVar 5) (wC (.int 0)))) (sExpr (wMl rApp (wVar 3) (wCons (wBin oMod (wCall rInt1 (wCons (wVar 5) wNil)) (wC (.int 1000000))) wNil))) sNil) (sSet 5 (wBin oDiv (wVar 5) (wC (.int 1000000))))))))) (sRet (wSli (wVar 3) wNo (wPt (wVar 2))))))
def fs__law_draws : FS := fsOf 8 w__law_draws
/-- _law_description(_law_number) -/
def w__law_description (EX : XS) : WS := (sSeq (sSet 1 (wBin oIx (wLst (wCons (wC (.int 4)) (wCons (wC (.int 8)) (wCons (wC (.int 4)) wNil)))) (wBin oMod (wVar 0) (wC (.int 3))))) (sSeq (sSet 2 (wLstM wNil)) (sSeq (sSet 3 (wC (.int 0))) (sSeq (sFor (wiR1 (wCons (wBin oAdd (wC (.int 1)) (wBin oMod (wBin oDiv (wVar 0) (wC (.int 3))) (wC (.int 4)))) wNil)) (gN 4) (sSeq (sSet 5 (wBin oIx (wLst (wCons (wC (.int 0)) (wCons (wC (.int 1)) (wCons (wVar 1) (wCons (wC (.int 3)) (wCons (wBin oAdd (wBin oMul (wC (.int 2)) (wVar 1)) (wC (.int 1))) (wCons (wC (.int 7)) wNil))))))) (wBin oMod (wBin oDiv (wVar 0) (wBin oAdd (wC (.int 12)) (wBin oMul (wC (.int 5)) (wVar 4)))) (wC (.int 6))))) (sSeq (sExpr (wMl rApp (wVar 2) (wCons (wTup (wCons (wTup (wCons (wTup (wCons (wBin oAdd (wC (.int 97)) (wVar 4)) wNil)) wNil)) (wCons (wVar 5) wNil))) wNil))) (sSet 3 (wBin oAdd (wVar 3) (wVar 5)))))) (sSeq (sIf (wB (wBin oEq (wVar 3) (wC (.int 0)))) (sAsg (gIx (wVar 2) (wC (.int 0))) (wTup (wCons (wBin oIx (wBin oIx (wVar 2) (wC (.int 0))) (wC (.int 0))) (wCons (wC (.int 3)) wNil)))) sNil) (sRet (wTup (wCons (wTup (wCons (wC (.int 110)) wNil)) (wCons (wTup (wCons (wC (.str cs_sum)) (wCons (wC (.int 2)) wNil))) (wCons (wVar 1) (wCons (wCall rTupD (wCons (wVar 2) wNil)) (wCons (wTup (wCons (wC (.int 1)) (wCons (wC (.int 2)) wNil))) wNil))))))))))))
def fs__law_description : FS := fsOf 6 w__law_description
/-- _law_files(_law_description_here, _law_number) -/
def w__law_files (EX : XS) : WS := (sSeq (sSet 2 (wLRgM (wRg1 (wCall rLen (wCons (wBin oIx (wVar 0) (wC (.int 3))) wNil))))) (sSeq (sSet 3 (wLstM wNil)) (sSeq (sFor (wiR1 (wCons (wBin oAdd (wC (.int 1)) (wBin oMod (wVar 1) (wCall rLen (wCons (wVar 2) wNil)))) wNil)) (gN 4) (sExpr (wMl rApp (wVar 3) (wCons (wMl rPop1 (wVar 2) (wCons (wBin oMod (wBin oDiv (wVar 1) (wBin oAdd (wC (.int 3)) (wBin oMul (wC (.int 2)) (wVar 4)))) (wCall rLen (wCons (wVar 2) wNil))) wNil)) wNil)))) (sRet (wCall rTupD (wCons (wVar 3) wNil))))))
def fs__law_files : FS := fsOf 5 w__law_files
/-- is_integer(value) -/
def w_is_integer (EX : XS) : WS := (sRet (wAndV (wCall rIsiD (wCons (wVar 0) (wCons (wC (.ty "int")) wNil))) (wNotV (wCall rIsiD (wCons (wVar 0) (wCons (wC (.ty "bool")) wNil))))))
def fs_is_integer : FS := fsOf 1 w_is_integer
/-- is_octet(value) -/
def w_is_octet (EX : XS) : WS := (sRet (wAndV (wCallF fs_is_integer 1 [] EX (wCons (wVar 0) wNil)) (wAndV (wBin oLe (wC (.int 0)) (wVar 0)) (wBin oLe (wVar 0) (wC (.int 255))))))
def fs_is_octet : FS := fsOf 1 w_is_octet
/-- is_octets(value, size) -/
def w_is_octets (EX : XS) : WS := (sSeq (sIf (wOr (wNot (wTru (wCall rIsiD (wCons (wVar 0) (wCons (wC (.ty "tuple")) wNil))))) (wAnd (wB (wBin oIsn (wVar 1) (wC .non))) (wB (wBin oNe (wCall rLen (wCons (wVar 0) wNil)) (wVar 1))))) (sRet (wC (.bl false))) sNil) (sRet (wCall rAllD (wCons (wLc (wiL (wVar 0)) (gN 2) wYes (wCallF fs_is_octet 1 [] noX (wCons (wVar 2) wNil)) [2]) wNil))))
def fs_is_octets : FS := fsOf 3 w_is_octets
/-- is_name_octet(octet) -/
def w_is_name_octet (EX : XS) : WS := (sSeq (sIf (wOr (wAnd (wB (wBin oLe (wC (.int 97)) (wVar 0))) (wB (wBin oLe (wVar 0) (wC (.int 122))))) (wAnd (wB (wBin oLe (wC (.int 48)) (wVar 0))) (wB (wBin oLe (wVar 0) (wC (.int 57)))))) (sRet (wC (.bl true))) sNil) (sRet (wBin oIn (wVar 0) (wC (.tup [.int 45, .int 46, .int 95])))))
def fs_is_name_octet : FS := fsOf 1 w_is_name_octet
/-- is_name(value) -/
def w_is_name (EX : XS) : WS := (sSeq (sIf (wOr (wNot (wTru (wCallF fs_is_octets 2 [.non] EX (wCons (wVar 0) wNil)))) (wOr (wB (wBin oLt (wCall rLen (wCons (wVar 0) wNil)) (wC (.int 1)))) (wB (wBin oGt (wCall rLen (wCons (wVar 0) wNil)) (wC (.int 40)))))) (sRet (wC (.bl false))) sNil) (sSeq (sIf (wNot (wTru (wCall rAllD (wCons (wLc (wiL (wVar 0)) (gN 1) wYes (wCallF fs_is_name_octet 1 [] noX (wCons (wVar 1) wNil)) [1]) wNil)))) (sRet (wC (.bl false))) sNil) (sRet (wCall rAnyD (wCons (wLc (wiL (wVar 0)) (gN 1) wYes (wBin oNe (wVar 1) (wC (.int 46))) [1]) wNil)))))
def fs_is_name : FS := fsOf 2 w_is_name
/-- is_kind(value) -/
def w_is_kind (EX : XS) : WS := (sSeq (sIf (wOr (wNot (wTru (wCall rIsiD (wCons (wVar 0) (wCons (wC (.ty "tuple")) wNil))))) (wOr (wB (wBin oNe (wCall rLen (wCons (wVar 0) wNil)) (wC (.int 2)))) (wOr (wNot (wTru (wCall rIsiD (wCons (wBin oIx (wVar 0) (wC (.int 0))) (wCons (wC (.ty "str")) wNil))))) (wNot (wTru (wCallF fs_is_integer 1 [] EX (wCons (wBin oIx (wVar 0) (wC (.int 1))) wNil))))))) (sRet (wC (.bl false))) sNil) (sSeq (sIf (wB (wBin oEq (wBin oIx (wVar 0) (wC (.int 0))) (wC (.str cs_sha)))) (sRet (wBin oEq (wBin oIx (wVar 0) (wC (.int 1))) (wC (.int 24)))) sNil) (sRet (wAndV (wBin oEq (wBin oIx (wVar 0) (wC (.int 0))) (wC (.str cs_sum))) (wAndV (wBin oLe (wC (.int 1)) (wBin oIx (wVar 0) (wC (.int 1)))) (wBin oLe (wBin oIx (wVar 0) (wC (.int 1))) (wC (.int 8))))))))
def fs_is_kind : FS := fsOf 1 w_is_kind
/-- is_size(value) -/
def w_is_size (EX : XS) : WS := (sRet (wAndV (wCallF fs_is_integer 1 [] EX (wCons (wVar 0) wNil)) (wAndV (wBin oLe (wC (.int 4)) (wVar 0)) (wAndV (wBin oLe (wVar 0) (wC (.int 65536))) (wBin oEq (wBin oBan (wVar 0) (wBin oSub (wVar 0) (wC (.int 1)))) (wC (.int 0)))))))
def fs_is_size : FS := fsOf 1 w_is_size
/-- is_path(value) -/
def w_is_path (EX : XS) : WS := (sSeq (sIf (wOr (wNot (wTru (wCall rIsiD (wCons (wVar 0) (wCons (wC (.ty "tuple")) wNil))))) (wOr (wB (wBin oLt (wCall rLen (wCons (wVar 0) wNil)) (wC (.int 1)))) (wB (wBin oGt (wCall rLen (wCons (wVar 0) wNil)) (wC (.int 8)))))) (sRet (wC (.bl false))) sNil) (sRet (wCall rAllD (wCons (wLc (wiL (wVar 0)) (gN 1) wYes (wCallF fs_is_name 1 [] noX (wCons (wVar 1) wNil)) [1]) wNil))))
def fs_is_path : FS := fsOf 2 w_is_path
/-- is_file(value) -/
def w_is_file (EX : XS) : WS := (sSeq (sIf (wOr (wNot (wTru (wCall rIsiD (wCons (wVar 0) (wCons (wC (.ty "tuple")) wNil))))) (wOr (wB (wBin oNe (wCall rLen (wCons (wVar 0) wNil)) (wC (.int 2)))) (wNot (wTru (wCallF fs_is_path 1 [] EX (wCons (wBin oIx (wVar 0) (wC (.int 0))) wNil)))))) (sRet (wC (.bl false))) sNil) (sRet (wAndV (wCallF fs_is_integer 1 [] EX (wCons (wBin oIx (wVar 0) (wC (.int 1))) wNil)) (wAndV (wBin oLe (wC (.int 0)) (wBin oIx (wVar 0) (wC (.int 1)))) (wBin oLe (wBin oIx (wVar 0) (wC (.int 1))) (wC (.int 4294967296)))))))
def fs_is_file : FS := fsOf 1 w_is_file
/-- are_apart(paths) -/
def w_are_apart (EX : XS) : WS := (sSeq (sFor (wiEn (wCons (wVar 0) wNil)) (gT 2 (gC (gN 1) (gC (gN 2) gZ))) (sFor (wiL (wBin oAdd (wSli (wVar 0) wNo (wPt (wVar 1))) (wSli (wVar 0) (wPt (wBin oAdd (wVar 1) (wC (.int 1)))) wNo))) (gN 3) (sIf (wB (wBin oEq (wSli (wVar 3) wNo (wPt (wCall rLen (wCons (wVar 2) wNil)))) (wVar 2))) (sRet (wC (.bl false))) sNil))) (sRet (wC (.bl true))))
def fs_are_apart : FS := fsOf 4 w_are_apart
/-- are_files_descriptions(value) -/
def w_are_files_descriptions (EX : XS) : WS := (sSeq (sIf (wOr (wNot (wTru (wCall rIsiD (wCons (wVar 0) (wCons (wC (.ty "tuple")) wNil))))) (wOr (wB (wBin oLt (wCall rLen (wCons (wVar 0) wNil)) (wC (.int 1)))) (wB (wBin oGt (wCall rLen (wCons (wVar 0) wNil)) (wC (.int 64)))))) (sRet (wC (.bl false))) sNil) (sRet (wAndV (wCall rAllD (wCons (wLc (wiL (wVar 0)) (gN 1) wYes (wCallF fs_is_file 1 [] noX (wCons (wVar 1) wNil)) [1]) wNil)) (wCallF fs_are_apart 1 [] EX (wCons (wLc (wiL (wVar 0)) (gN 1) wYes (wBin oIx (wVar 1) (wC (.int 0))) [1]) wNil)))))
def fs_are_files_descriptions : FS := fsOf 2 w_are_files_descriptions
/-- fault_of(value) -/
def w_fault_of (EX : XS) : WS := (sSeq (sIf (wOr (wNot (wTru (wCall rIsiD (wCons (wVar 0) (wCons (wC (.ty "tuple")) wNil))))) (wB (wBin oNe (wCall rLen (wCons (wVar 0) wNil)) (wC (.int 5))))) (sRet (wC (.str cs_form))) sNil) (sSeq (sAsg (gT 5 (gC (gN 1) (gC (gN 2) (gC (gN 3) (gC (gN 4) (gC (gN 5) gZ)))))) (wVar 0)) (sSeq (sIf (wNot (wTru (wCallF fs_is_name 1 [] EX (wCons (wVar 1) wNil)))) (sRet (wC (.str cs_name))) sNil) (sSeq (sIf (wNot (wTru (wCallF fs_is_kind 1 [] EX (wCons (wVar 2) wNil)))) (sRet (wC (.str cs_kind))) sNil) (sSeq (sIf (wNot (wTru (wCallF fs_is_size 1 [] EX (wCons (wVar 3) wNil)))) (sRet (wC (.str cs_size))) sNil) (sSeq (sIf (wNot (wTru (wCallF fs_are_files_descriptions 1 [] EX (wCons (wVar 4) wNil)))) (sRet (wC (.str cs_files))) sNil) (sSeq (sSet 6 (wCall rSumD (wCons (wLc (wiL (wVar 4)) (gN 7) wYes (wBin oIx (wVar 7) (wC (.int 1))) [7]) wNil))) (sSeq (sIf (wOr (wB (wBin oLt (wVar 6) (wC (.int 1)))) (wB (wBin oGt (wVar 6) (wBin oMul (wC (.int 4096)) (wVar 3))))) (sRet (wC (.str cs_total))) sNil) (sRet (wIfE (wTru (wCallK fs_is_octets 1 1 EX (wCons (wVar 5) wNil) (wCons (wBin oIx (wVar 2) (wC (.int 1))) wNil))) (wC .non) (wC (.str cs_root))))))))))))
def fs_fault_of : FS := fsOf 8 w_fault_of
/-- check_description(description) -/
def w_check_description (EX : XS) : WS := (sSeq (sSet 1 (wCallF fs_fault_of 1 [] EX (wCons (wVar 0) wNil))) (sIf (wB (wBin oIsn (wVar 1) (wC .non))) (sRaise1 cs_BadDescription EX (wCons (wVar 1) wNil)) sNil))
def fs_check_description : FS := fsOf 2 w_check_description
/-- are_files_playing(description, value) -/
def w_are_files_playing (EX : XS) : WS := (sSeq (sIf (wOr (wNot (wTru (wCall rIsiD (wCons (wVar 1) (wCons (wC (.ty "tuple")) wNil))))) (wB (wBin oEq (wVar 1) (wTup wNil)))) (sRet (wC (.bl false))) sNil) (sSeq (sFor (wiL (wVar 1)) (gN 2) (sIf (wOr (wNot (wTru (wCallF fs_is_integer 1 [] EX (wCons (wVar 2) wNil)))) (wOr (wB (wBin oLt (wVar 2) (wC (.int 0)))) (wB (wBin oGe (wVar 2) (wCall rLen (wCons (wBin oIx (wVar 0) (wC (.int 3))) wNil)))))) (sRet (wC (.bl false))) sNil)) (sRet (wBin oEq (wLenSet (wVar 1)) (wCall rLen (wCons (wVar 1) wNil))))))
def fs_are_files_playing : FS := fsOf 3 w_are_files_playing
/-- length_of(description) -/
def w_length_of (EX : XS) : WS := (sRet (wCall rSumD (wCons (wLc (wiL (wBin oIx (wVar 0) (wC (.int 3)))) (gN 1) wYes (wBin oIx (wVar 1) (wC (.int 1))) [1]) wNil)))
def fs_length_of : FS := fsOf 2 w_length_of
/-- count_of(description) -/
def w_count_of (EX : XS) : WS := (sRet (wBin oAdd (wBin oDiv (wBin oSub (wCallF fs_length_of 1 [] EX (wCons (wVar 0) wNil)) (wC (.int 1))) (wBin oIx (wVar 0) (wC (.int 2)))) (wC (.int 1))))
def fs_count_of : FS := fsOf 1 w_count_of
/-- piece_count(description) -/
def w_piece_count (EX : XS) : WS := (sSeq (sExpr (wCallF fs_check_description 1 [] EX (wCons (wVar 0) wNil))) (sRet (wCallF fs_count_of 1 [] EX (wCons (wVar 0) wNil))))
def fs_piece_count : FS := fsOf 1 w_piece_count
/-- is_index(value, count) -/
def w_is_index (EX : XS) : WS := (sRet (wAndV (wCallF fs_is_integer 1 [] EX (wCons (wVar 0) wNil)) (wAndV (wBin oLe (wC (.int 0)) (wVar 0)) (wBin oLt (wVar 0) (wVar 1)))))
def fs_is_index : FS := fsOf 2 w_is_index
/-- check_index(value, count) -/
def w_check_index (EX : XS) : WS := (sIf (wNot (wTru (wCallF fs_is_index 2 [] EX (wCons (wVar 0) (wCons (wVar 1) wNil))))) (sRaise cs_BadContent EX) sNil)
def fs_check_index : FS := fsOf 2 w_check_index
/-- starts_of(files) -/
def w_starts_of (EX : XS) : WS := (sSeq (sSet 1 (wLstM (wCons (wC (.int 0)) wNil))) (sSeq (sFor (wiL (wVar 0)) (gN 2) (sExpr (wMl rApp (wVar 1) (wCons (wBin oAdd (wBin oIx (wVar 1) (wUn oNeg (wC (.int 1)))) (wBin oIx (wVar 2) (wC (.int 1)))) wNil)))) (sRetF (wVar 1))))
def fs_starts_of : FS := fsOf 3 w_starts_of
/-- pieces_of(description, file) -/
def w_pieces_of (EX : XS) : WS := (sSeq (sExpr (wCallF fs_check_description 1 [] EX (wCons (wVar 0) wNil))) (sSeq (sExpr (wCallF fs_check_index 2 [] EX (wCons (wVar 1) (wCons (wCall rLen (wCons (wBin oIx (wVar 0) (wC (.int 3))) wNil)) wNil)))) (sSeq (sSet 2 (wCallF fs_starts_of 1 [] EX (wCons (wBin oIx (wVar 0) (wC (.int 3))) wNil))) (sSeq (sIf (wB (wBin oEq (wBin oIx (wVar 2) (wVar 1)) (wBin oIx (wVar 2) (wBin oAdd (wVar 1) (wC (.int 1)))))) (sRet (wTup (wCons (wC (.int 0)) (wCons (wC (.int 0)) wNil)))) sNil) (sSeq (sSet 3 (wBin oIx (wVar 0) (wC (.int 2)))) (sRet (wTup (wCons (wBin oDiv (wBin oIx (wVar 2) (wVar 1)) (wVar 3)) (wCons (wBin oAdd (wBin oDiv (wBin oSub (wBin oIx (wVar 2) (wBin oAdd (wVar 1) (wC (.int 1)))) (wC (.int 1))) (wVar 3)) (wC (.int 1))) wNil)))))))))
def fs_pieces_of : FS := fsOf 4 w_pieces_of
/-- Plan._all_wanted(self) -/
def w_Plan__all_wanted (EX : XS) : WS := (sSeq (sSet 1 (wLstM wNil)) (sSeq (sFor (wiR1 (wCons (wCallF fs_piece_count 1 [] EX (wCons (wFld cs_Plan 0 (wVar 0)) wNil)) wNil)) (gN 2) (sFor (wiL (wFld cs_Plan 1 (wVar 0))) (gN 3) (sSeq (sAsg (gT 2 (gC (gN 4) (gC (gN 5) gZ))) (wCallF fs_pieces_of 2 [] EX (wCons (wFld cs_Plan 0 (wVar 0)) (wCons (wVar 3) wNil)))) (sIf (wAnd (wB (wChain oLe oLt (wVar 4) (wVar 2) (wVar 5))) (wB (wBin oNin (wVar 2) (wVar 1)))) (sExpr (wMl rApp (wVar 1) (wCons (wVar 2) wNil))) sNil)))) (sRetF (wVar 1))))
def fs_Plan__all_wanted : FS := fsOf 6 w_Plan__all_wanted
/-- Plan.__init__(self, description, files, window) -/
def w_Plan___init__ (EX : XS) : WS := (sSeq (sExpr (wCallF fs_check_description 1 [] EX (wCons (wVar 1) wNil))) (sSeq (sIf (wOr (wNot (wTru (wCallF fs_are_files_playing 2 [] EX (wCons (wVar 1) (wCons (wVar 2) wNil))))) (wOr (wNot (wTru (wCallF fs_is_integer 1 [] EX (wCons (wVar 3) wNil)))) (wOr (wB (wBin oLt (wVar 3) (wC (.int 1)))) (wB (wBin oGt (wVar 3) (wC (.int 1000))))))) (sRaise cs_BadPlan EX) sNil) (sSeq (sFld cs_Plan 0 (wVar 0) (wVar 1)) (sSeq (sFld cs_Plan 1 (wVar 0) (wVar 2)) (sSeq (sFld cs_Plan 2 (wVar 0) (wVar 3)) (sSeq (sFld cs_Plan 3 (wVar 0) (wC (.int 0))) (sFld cs_Plan 4 (wVar 0) (wMeth cs_Plan fs_Plan__all_wanted 1 EX (wVar 0) wNil))))))))
def fs_Plan___init__ : FS := fsOf 4 w_Plan___init__
/-- _law_starts(_law_description_here) -/
def w__law_starts (EX : XS) : WS := (sSeq (sSet 1 (wLstM (wCons (wC (.int 0)) wNil))) (sSeq (sFor (wiL (wBin oIx (wVar 0) (wC (.int 3)))) (gN 2) (sExpr (wMl rApp (wVar 1) (wCons (wBin oAdd (wBin oIx (wVar 1) (wUn oNeg (wC (.int 1)))) (wBin oIx (wVar 2) (wC (.int 1)))) wNil)))) (sRetF (wVar 1))))
def fs__law_starts : FS := fsOf 3 w__law_starts
/-- _law_stream(_law_description_here, _law_files_here) -/
def w__law_stream (EX : XS) : WS := (sSeq (sSet 2 (wCallF fs__law_starts 1 [] EX (wCons (wVar 0) wNil))) (sSeq (sSet 3 (wLst wNil)) (sSeq (sFor (wiL (wVar 1)) (gN 4) (sSet 3 (wBin oAdd (wVar 3) (wLRg (wRg2 (wBin oIx (wVar 2) (wVar 4)) (wBin oIx (wVar 2) (wBin oAdd (wVar 4) (wC (.int 1))))))))) (sRet (wVar 3)))))
def fs__law_stream : FS := fsOf 5 w__law_stream
/-- Plan.move(self, place) -/
def w_Plan_move (EX : XS) : WS := (sFld cs_Plan 3 (wVar 0) (wVar 1))
def fs_Plan_move : FS := fsOf 2 w_Plan_move
/-- _law_count(_law_description_here) -/
def w__law_count (EX : XS) : WS := (sRet (wBin oDiv (wBin oSub (wBin oAdd (wBin oIx (wCallF fs__law_starts 1 [] EX (wCons (wVar 0) wNil)) (wUn oNeg (wC (.int 1)))) (wBin oIx (wVar 0) (wC (.int 2)))) (wC (.int 1))) (wBin oIx (wVar 0) (wC (.int 2)))))
def fs__law_count : FS := fsOf 1 w__law_count
/-- _law_flags(_law_number, _law_count_here) -/
def w__law_flags (EX : XS) : WS := (sRet (wLc (wiR1 (wCons (wVar 1) wNil)) (gN 2) wYes (wBin oGt (wBin oMod (wBin oDiv (wVar 0) (wBin oAdd (wC (.int 2)) (wBin oMul (wC (.int 3)) (wVar 2)))) (wC (.int 3))) (wC (.int 0))) [2]))
def fs__law_flags : FS := fsOf 3 w__law_flags
/-- _law_wanted(_law_description_here, _law_stream_here) -/
def w__law_wanted (EX : XS) : WS := (sRet (wLc (wiR1 (wCons (wCallF fs__law_count 1 [] EX (wCons (wVar 0) wNil)) wNil)) (gN 2) (wB (wBin oIn (wVar 2) (wLc (wiL (wVar 1)) (gN 3) wYes (wBin oDiv (wVar 3) (wBin oIx (wVar 0) (wC (.int 2)))) [3]))) (wVar 2) [2]))
def fs__law_wanted : FS := fsOf 4 w__law_wanted
/-- _law_wants(_law_description_here, _law_stream_here, _law_claims, _law_held) -/
def w__law_wants (EX : XS) : WS := (sSeq (sSet 4 (wCallF fs__law_wanted 2 [] EX (wCons (wVar 0) (wCons (wVar 1) wNil)))) (sSeq (sSet 5 (wLc (wiL (wVar 4)) (gN 7) (wB (wBin oNin (wVar 7) (wVar 3))) (wVar 7) [7])) (sSeq (sSet 6 (wLstM wNil)) (sSeq (sFor (wiR1 (wCons (wCall rLen (wCons (wVar 2) wNil)) wNil)) (gN 7) (sIf (wAnd (wTru (wBin oIx (wVar 2) (wVar 7))) (wAnd (wB (wBin oNin (wVar 7) (wVar 3))) (wOr (wB (wBin oEq (wVar 5) (wLst wNil))) (wB (wBin oIn (wVar 7) (wVar 4)))))) (sExpr (wMl rApp (wVar 6) (wCons (wVar 7) wNil))) sNil)) (sRetF (wVar 6))))))
def fs__law_wants : FS := fsOf 8 w__law_wants
/-- Plan.wants(self, claims, held) -/
def w_Plan_wants (EX : XS) : WS := (sSeq (sSet 3 (wLc (wiEn (wCons (wVar 1) wNil)) (gT 2 (gC (gN 4) (gC (gN 5) gZ))) (wAnd (wTru (wVar 5)) (wB (wBin oNin (wVar 4) (wVar 2)))) (wVar 4) [4, 5])) (sSeq (sIf (wTru (wCall rAllD (wCons (wLc (wiL (wFld cs_Plan 4 (wVar 0))) (gN 4) wYes (wBin oIn (wVar 4) (wVar 2)) [4]) wNil))) (sRet (wVar 3)) sNil) (sRet (wLc (wiL (wVar 3)) (gN 4) (wB (wBin oIn (wVar 4) (wFld cs_Plan 4 (wVar 0)))) (wVar 4) [4]))))
def fs_Plan_wants : FS := fsOf 6 w_Plan_wants
/-- _law_choice(_law_pieces, _law_ahead_here, _law_fields, _law_asked) -/
def w__law_choice (EX : XS) : WS := (sSeq (sSet 4 (wLc (wiL (wVar 1)) (gN 7) (wB (wBin oIn (wVar 7) (wVar 0))) (wVar 7) [7])) (sSeq (sSet 5 (wLc (wiL (wVar 4)) (gN 7) (wB (wBin oNin (wVar 7) (wVar 3))) (wVar 7) [7])) (sSeq (sIf (wB (wBin oNe (wVar 5) (wLst wNil))) (sRet (wBin oIx (wVar 5) (wC (.int 0)))) sNil) (sSeq (sSet 6 (wC .non)) (sSeq (sFor (wiL (wVar 0)) (gN 7) (sSeq (sSet 8 (wCall rLen (wCons (wLc (wiL (wVar 2)) (gN 9) (wTru (wBin oIx (wVar 9) (wVar 7))) (wVar 9) [9]) wNil))) (sIf (wAnd (wB (wBin oNin (wVar 7) (wVar 3))) (wOr (wB (wBin oIs (wVar 6) (wC .non))) (wB (wBin oLt (wVar 8) (wBin oIx (wVar 6) (wC (.int 0))))))) (sSet 6 (wTup (wCons (wVar 8) (wCons (wVar 7) wNil)))) sNil))) (sSeq (sIf (wB (wBin oIsn (wVar 6) (wC .non))) (sRet (wBin oIx (wVar 6) (wC (.int 1)))) sNil) (sSeq (sIf (wB (wBin oNe (wVar 4) (wLst wNil))) (sRet (wBin oIx (wVar 4) (wC (.int 0)))) sNil) (sRet (wIfE (wB (wBin oNe (wVar 0) (wLst wNil))) (wBin oIx (wVar 0) (wC (.int 0))) (wC .non))))))))))
def fs__law_choice : FS := fsOf 10 w__law_choice
/-- _law_ahead(_law_description_here, _law_stream_here, _law_place, _law_window) -/
def w__law_ahead (EX : XS) : WS := (sSeq (sSet 4 (wLstM wNil)) (sSeq (sFor (wiL (wSli (wVar 1) (wPt (wVar 2)) wNo)) (gN 5) (sSeq (sSet 6 (wBin oDiv (wVar 5) (wBin oIx (wVar 0) (wC (.int 2))))) (sIf (wB (wBin oNin (wVar 6) (wVar 4))) (sExpr (wMl rApp (wVar 4) (wCons (wVar 6) wNil))) sNil))) (sRet (wSli (wVar 4) wNo (wPt (wVar 3))))))
def fs__law_ahead : FS := fsOf 7 w__law_ahead
/-- Plan._starts(self) -/
def w_Plan__starts (EX : XS) : WS := (sSeq (sSet 1 (wLstM wNil)) (sSeq (sSet 2 (wC (.int 0))) (sSeq (sSet 3 (wLc (wiL (wBin oIx (wFld cs_Plan 0 (wVar 0)) (wC (.int 3)))) (gT 2 (gC (gN 5) (gC (gN 6) gZ))) wYes (wVar 6) [5, 6])) (sSeq (sFor (wiL (wFld cs_Plan 1 (wVar 0))) (gN 4) (sSeq (sExpr (wMl rApp (wVar 1) (wCons (wTup (wCons (wVar 2) (wCons (wCall rSumD (wCons (wSli (wVar 3) wNo (wPt (wVar 4))) wNil)) (wCons (wBin oIx (wVar 3) (wVar 4)) wNil)))) wNil))) (sAug 2 oIad (wBin oIx (wVar 3) (wVar 4))))) (sRetF (wVar 1))))))
def fs_Plan__starts : FS := fsOf 7 w_Plan__starts
/-- Plan.ahead(self) -/
def w_Plan_ahead (EX : XS) : WS := (sSeq (sSet 1 (wLstM wNil)) (sSeq (sSet 2 (wBin oIx (wFld cs_Plan 0 (wVar 0)) (wC (.int 2)))) (sSeq (sFor (wiL (wMeth cs_Plan fs_Plan__starts 1 EX (wVar 0) wNil)) (gT 3 (gC (gN 3) (gC (gN 4) (gC (gN 5) gZ)))) (sIf (wAnd (wB (wBin oGt (wVar 5) (wC (.int 0)))) (wB (wBin oGt (wBin oAdd (wVar 3) (wVar 5)) (wFld cs_Plan 3 (wVar 0))))) (sSeq (sSet 6 (wBin oAdd (wVar 4) (wCall rMax2 (wCons (wC (.int 0)) (wCons (wBin oSub (wFld cs_Plan 3 (wVar 0)) (wVar 3)) wNil))))) (sFor (wiR2 (wCons (wBin oDiv (wVar 6) (wVar 2)) (wCons (wBin oAdd (wBin oDiv (wBin oSub (wBin oAdd (wVar 4) (wVar 5)) (wC (.int 1))) (wVar 2)) (wC (.int 1))) wNil))) (gN 7) (sIf (wAnd (wB (wBin oNin (wVar 7) (wVar 1))) (wB (wBin oLt (wCall rLen (wCons (wVar 1) wNil)) (wFld cs_Plan 2 (wVar 0))))) (sExpr (wMl rApp (wVar 1) (wCons (wVar 7) wNil))) sNil))) sNil)) (sRet (wCall rTupD (wCons (wVar 1) wNil))))))
def fs_Plan_ahead : FS := fsOf 8 w_Plan_ahead
/-- rarity(index, fields) -/
def w_rarity (EX : XS) : WS := (sRet (wCall rLen (wCons (wLc (wiL (wVar 1)) (gN 2) (wTru (wBin oIx (wVar 2) (wVar 0))) (wVar 2) [2]) wNil)))
def fs_rarity : FS := fsOf 3 w_rarity
/-- Plan.choose(self, claims, held, fields, asked) -/
def w_Plan_choose (EX : XS) : WS := (sSeq (sSet 5 (wMeth cs_Plan fs_Plan_wants 3 EX (wVar 0) (wCons (wVar 1) (wCons (wVar 2) wNil)))) (sSeq (sSet 6 (wLc (wiL (wMeth cs_Plan fs_Plan_ahead 1 EX (wVar 0) wNil)) (gN 7) (wB (wBin oIn (wVar 7) (wVar 5))) (wVar 7) [7])) (sSeq (sFor (wiL (wVar 6)) (gN 7) (sIf (wB (wBin oNin (wVar 7) (wVar 4))) (sRet (wVar 7)) sNil)) (sSeq (sSet 8 (wLc (wiL (wVar 5)) (gN 7) (wB (wBin oNin (wVar 7) (wVar 4))) (wTup (wCons (wCallF fs_rarity 2 [] noX (wCons (wVar 7) (wCons (wVar 3) wNil))) (wCons (wVar 7) wNil))) [7])) (sSeq (sIf (wB (wBin oNe (wVar 8) (wLst wNil))) (sRet (wBin oIx (wCall rMinP (wCons (wVar 8) wNil)) (wC (.int 1)))) sNil) (sSeq (sIf (wB (wBin oNe (wVar 6) (wLst wNil))) (sRet (wBin oIx (wVar 6) (wC (.int 0)))) sNil) (sRet (wIfE (wB (wBin oNe (wVar 5) (wLst wNil))) (wBin oIx (wVar 5) (wC (.int 0))) (wC .non)))))))))
def fs_Plan_choose : FS := fsOf 9 w_Plan_choose
/-- law(_law_script) -/
def w_law (EX : XS) : WS := (sSeq (sFor (wiL (wBin oAdd (wCallF fs__law_draws 3 [] EX (wCons (wVar 0) (wCons (wC (.int 0)) (wCons (wC (.int 30)) wNil)))) (wLst (wCons (wC (.int 5)) wNil)))) (gN 1) (sSeq (sSet 2 (wCallF fs__law_description 1 [] EX (wCons (wVar 1) wNil))) (sSeq (sSet 3 (wCallF fs__law_files 2 [] EX (wCons (wVar 2) (wCons (wBin oDiv (wVar 1) (wC (.int 7))) wNil)))) (sSeq (sSet 4 (wBin oIx (wLst (wCons (wC (.int 1)) (wCons (wC (.int 2)) (wCons (wC (.int 3)) (wCons (wC (.int 1000)) wNil))))) (wBin oMod (wBin oDiv (wVar 1) (wC (.int 11))) (wC (.int 4))))) (sSeq (sSet 5 (wMake cs_Plan fs_Plan___init__ 4 EX (wCons (wVar 2) (wCons (wVar 3) (wCons (wVar 4) wNil))))) (sSeq (sSet 6 (wCallF fs__law_stream 2 [] EX (wCons (wVar 2) (wCons (wVar 3) wNil)))) (sSeq (sSet 7 (wBin oMod (wBin oDiv (wVar 1) (wC (.int 13))) (wBin oAdd (wCall rLen (wCons (wVar 6) wNil)) (wC (.int 1))))) (sSeq (sExpr (wMeth cs_Plan fs_Plan_move 2 EX (wVar 5) (wCons (wVar 7) wNil))) (sSeq (sSet 8 (wCallF fs__law_count 1 [] EX (wCons (wVar 2) wNil))) (sSeq (sSet 9 (wCallF fs__law_flags 2 [] EX (wCons (wBin oDiv (wVar 1) (wC (.int 17))) (wCons (wVar 8) wNil)))) (sSeq (sSet 10 (wLc (wiR1 (wCons (wVar 8) wNil)) (gN 17) (wB (wBin oEq (wBin oMod (wBin oDiv (wVar 1) (wBin oAdd (wC (.int 19)) (wVar 17))) (wBin oIx (wLst (wCons (wC (.int 2)) (wCons (wC (.int 5)) wNil))) (wBin oMod (wBin oDiv (wVar 1) (wC (.int 29))) (wC (.int 2))))) (wC (.int 0)))) (wVar 17) [17])) (sSeq (sIf (wB (wBin oEq (wBin oMod (wBin oDiv (wVar 1) (wC (.int 31))) (wC (.int 3))) (wC (.int 0)))) (sSet 10 (wSortSet (wBin oAdd (wVar 10) (wCallF fs__law_wanted 2 [] EX (wCons (wVar 2) (wCons (wVar 6) wNil)))))) sNil) (sSeq (sSet 11 (wBin oAdd (wLc (wiR1 (wCons (wBin oMod (wBin oDiv (wVar 1) (wC (.int 37))) (wC (.int 4))) wNil)) (gN 18) wYes (wCallF fs__law_flags 2 [] noX (wCons (wBin oDiv (wVar 1) (wBin oAdd (wC (.int 5)) (wBin oMul (wC (.int 7)) (wVar 18)))) (wCons (wVar 8) wNil))) [18]) (wLst (wCons (wVar 9) wNil)))) (sSeq (sSet 12 (wLc (wiR1 (wCons (wBin oMod (wBin oDiv (wVar 1) (wC (.int 43))) (wC (.int 4))) wNil)) (gN 18) wYes (wBin oIx (wLst (wCons (wC .non) (wCons (wBin oMod (wBin oDiv (wVar 1) (wBin oAdd (wC (.int 3)) (wVar 18))) (wVar 8)) wNil))) (wBin oMod (wBin oDiv (wVar 1) (wBin oAdd (wC (.int 41)) (wVar 18))) (wC (.int 2)))) [18])) (sSeq (sSet 13 (wTup (wCons (wCall rListD (wCons (wVar 9) wNil)) (wCons (wCall rTupD (wCons (wVar 10) wNil)) (wCons (wLc (wiL (wVar 11)) (gN 19) wYes (wCall rListD (wCons (wVar 19) wNil)) [19]) (wCons (wCall rListD (wCons (wVar 12) wNil)) wNil)))))) (sSeq (sSet 14 (wCallF fs__law_wants 4 [] EX (wCons (wVar 2) (wCons (wVar 6) (wCons (wVar 9) (wCons (wVar 10) wNil)))))) (sSeq (sIf (wB (wBin oNe (wMeth cs_Plan fs_Plan_wants 3 EX (wVar 5) (wCons (wBin oIx (wVar 13) (wC (.int 0))) (wCons (wBin oIx (wVar 13) (wC (.int 1))) wNil))) (wVar 14))) (sRet (wC (.bl false))) sNil) (sSeq (sSet 15 (wCallF fs__law_choice 4 [] EX (wCons (wVar 14) (wCons (wCallF fs__law_ahead 4 [] EX (wCons (wVar 2) (wCons (wVar 6) (wCons (wVar 7) (wCons (wVar 4) wNil))))) (wCons (wVar 11) (wCons (wVar 12) wNil)))))) (sSeq (sSet 16 (wMeth cs_Plan fs_Plan_choose 5 EX (wVar 5) (wCons (wBin oIx (wVar 13) (wC (.int 0))) (wCons (wBin oIx (wVar 13) (wC (.int 1))) (wCons (wBin oIx (wVar 13) (wC (.int 2))) (wCons (wBin oIx (wVar 13) (wC (.int 3))) wNil)))))) (sSeq (sIf (wOr (wB (wBin oNe (wVar 16) (wVar 15))) (wOr (wB (wBin oNe (wBin oIs (wVar 16) (wC .non)) (wBin oIs (wVar 15) (wC .non)))) (wTru (wCall rIsiD (wCons (wVar 16) (wCons (wC (.ty "bool")) wNil)))))) (sRet (wC (.bl false))) sNil) (sIf (wB (wBin oNe (wVar 13) (wTup (wCons (wVar 9) (wCons (wCall rTupD (wCons (wVar 10) wNil)) (wCons (wVar 11) (wCons (wVar 12) wNil))))))) (sRet (wC (.bl false))) sNil))))))))))))))))))))) (sRet (wC (.bl true))))
def fs_law : FS := fsOf 20 w_law
end Sw

namespace Sw
open PySem PySem.Spec PyProof.Rows L2

end Sw

set_option maxRecDepth 100000
set_option maxHeartbeats 4000000
namespace Sw
open PySem PySem.Spec PyProof.Rows L2
section
variable {O : OS} {Q : QD} {E : XW}
theorem blsD_mapf (items : List D) (b : D → Bool) : blsD (items.map fun d => .bl (b d)) = some (items.map b) := by
  have h := blsD_map (items.map b)
  rw [List.map_map] at h
  exact h
theorem intsD_mapf {α : Type} (items : List α) (b : α → Int) : intsD (items.map fun d => .int (b d)) = some (items.map b) := by
  have h := intsD_map (items.map b)
  rw [List.map_map] at h
  exact h
theorem rAll_of {items : List D} {b : D → Bool} (h : Q (.bl (items.all b)) O) : rAllD [.lst (items.map fun d => .bl (b d))] O Q := by
  refine ⟨_, _, rfl, blsD_mapf items b, ?_⟩
  rw [List.all_map]
  exact h
theorem rAny_of {items : List D} {b : D → Bool} (h : Q (.bl (items.any b)) O) : rAnyD [.lst (items.map fun d => .bl (b d))] O Q := by
  refine ⟨_, _, rfl, blsD_mapf items b, ?_⟩
  rw [List.any_map]
  exact h
theorem rSum_of {items : List D} {b : D → Int} (h : Q (.int (items.map b).sum) O) : rSumD [.lst (items.map fun d => .int (b d))] O Q := ⟨_, _, rfl, intsD_mapf items b, h⟩
/-! ### is_integer, is_octet, is_octets -/
def plainD : D → Bool
  | .non => true
  | .bl _ => true
  | .int _ => true
  | .str _ => true
  | .tup _ => true
  | .lst _ => true
  | _ => false
theorem l_is_integer {d : D} (h : plainD d = true) (hQ : Q (.bl (isIntD d)) O) : fs_is_integer [d] O Q E := by
  cases d <;> first
    | (simp -dsimp [fs_is_integer, w_is_integer]
       exact rtL_of hQ)
    | cases h
theorem l_int {i : Int} (hQ : Q (.bl true) O) : fs_is_integer [.int i] O Q E := l_is_integer rfl hQ
theorem l_is_octet {i : Int} (hQ : Q (.bl (decide (0 ≤ i) && decide (i ≤ 255))) O) : fs_is_octet [.int i] O Q E := by
  simp -dsimp [fs_is_octet, w_is_octet]
  refine l_int ?_
  simp -dsimp
  by_cases h : 0 ≤ i
  · simp only [h, decide_true]
    refine rtL_of ?_
    simpa [h] using hQ
  · simp only [h, decide_false]
    refine rtL_of ?_
    simpa [h] using hQ

def octI (i : Int) : Bool := decide (0 ≤ i) && decide (i ≤ 255)
def octD : D → Bool
  | .int i => octI i
  | _ => false
def szB : D → Nat → Bool
  | .int n, k => decide ((k : Int) = n)
  | _, _ => true
@[simp] theorem szB_non {k : Nat} : szB .non k = true := rfl
@[simp] theorem szB_int {k : Nat} {n : Int} : szB (.int n) k = decide ((k : Int) = n) := rfl
theorem isN_bl (b : Bool) (h : b = true → Q (.bl true) O) (h2 : b = false → Q (.bl false) O) : Q (.bl b) O := by
  cases b
  · exact h2 rfl
  · exact h rfl
theorem l_is_octets {ns : List Int} {sz : D} (hz : sz = .non ∨ ∃ n : Int, sz = .int n) (hl : ns.length ≤ sizeLine)
    (hQ : Q (.bl (szB sz ns.length && ns.all octI)) O) : fs_is_octets [.tup (ns.map .int), sz] O Q E := by
  have key : ∀ {Q : QD}, Q (.bl (ns.all octI)) O → rAllD [.lst ((ns.map D.int).map fun d => .bl (octD d))] O Q := fun {Q} h => rAll_of (b := octD) (by
    rw [List.all_map]
    exact h)
  have body : ∀ {Q : QD} {a b c : Option D}, Q (.bl (ns.all octI)) O → lcGo (gN 2) wYes (wCallF fs_is_octet 1 [] noX (wCons (wVar 2) wNil)) [a, b, c] anySt (ns.map D.int) [] O fun d O1 => rAllD [d] O1 Q := fun {Q} {a b c} h => by
    refine lc_map (f := fun d => .bl (octD d)) _ _ (fun d hd P hP => ?_) trivial (by simpa using hl) (key h)
    obtain ⟨i, _, rfl⟩ := List.mem_map.mp hd
    simp -dsimp
    exact l_is_octet hP
  rcases hz with rfl | ⟨n, rfl⟩
  · simp -dsimp [fs_is_octets, w_is_octets]
    refine body (rtL_of ?_)
    simpa using hQ
  · simp -dsimp [fs_is_octets, w_is_octets]
    by_cases h : (ns.length : Int) = n
    · simp -dsimp [h]
      refine body (rtL_of ?_)
      simpa [h] using hQ
    · simp -dsimp [h]
      refine rtL_of ?_
      simpa [h] using hQ
end
end Sw

set_option maxRecDepth 100000
set_option maxHeartbeats 4000000
namespace Sw
open PySem PySem.Spec PyProof.Rows L2
section
variable {O : OS} {Q : QD} {E : XW}
theorem q_bl {Q : QD} {b c : Bool} (h : Q (.bl b) O) (e : b = c) : Q (.bl c) O := e ▸ h
theorem sum_sha : ¬ cs_sum = cs_sha := by decide +kernel
/-! ### names -/
def nameI (i : Int) : Bool := (decide (97 ≤ i) && decide (i ≤ 122)) || (decide (48 ≤ i) && decide (i ≤ 57)) || (45 == i || (46 == i || 95 == i))
def nameD : D → Bool
  | .int i => nameI i
  | _ => false
theorem l_is_name_octet {i : Int} (hQ : Q (.bl (nameI i)) O) : fs_is_name_octet [.int i] O Q E := by
  simp -dsimp [fs_is_name_octet, w_is_name_octet]
  by_cases h1 : 97 ≤ i
  · simp -dsimp [h1]
    by_cases h2 : i ≤ 122
    · simp -dsimp [h2]
      refine rtL_of ?_
      simpa [nameI, h1, h2] using hQ
    · have h3 : ¬ i ≤ 57 := by omega
      have h4 : 48 ≤ i := by omega
      simp -dsimp [h2, h3, h4, flatD, inD, eqD]
      refine rtL_of ?_
      exact q_bl hQ (by simp -dsimp [nameI, h1, h2, h3, h4])
  · simp -dsimp [h1]
    by_cases h4 : 48 ≤ i
    · simp -dsimp [h4]
      by_cases h3 : i ≤ 57
      · simp -dsimp [h3]
        refine rtL_of ?_
        simpa [nameI, h1, h3, h4] using hQ
      · simp -dsimp [h3, flatD, inD, eqD]
        refine rtL_of ?_
        exact q_bl hQ (by simp -dsimp [nameI, h1, h3, h4])
    · simp -dsimp [h4, flatD, inD, eqD]
      refine rtL_of ?_
      exact q_bl hQ (by simp -dsimp [nameI, h1, h4])
def nameOk (ns : List Int) : Bool := ns.all octI && decide (1 ≤ ns.length) && decide (ns.length ≤ 40) && ns.all nameI && ns.any fun i => i != 46
theorem all_ints {ns : List Int} {b : D → Bool} {c : Int → Bool} (h : ∀ i, b (.int i) = c i) : (ns.map D.int).all b = ns.all c := by
  rw [List.all_map]
  exact congrArg (fun f => ns.all f) (funext h)
theorem any_ints {ns : List Int} {b : D → Bool} {c : Int → Bool} (h : ∀ i, b (.int i) = c i) : (ns.map D.int).any b = ns.any c := by
  rw [List.any_map]
  exact congrArg (fun f => ns.any f) (funext h)
def notDot : D → Bool
  | .int i => i != 46
  | _ => false
theorem l_is_name {ns : List Int} (hl : ns.length ≤ sizeLine) (hQ : Q (.bl (nameOk ns)) O) : fs_is_name [.tup (ns.map .int)] O Q E := by
  simp -dsimp [fs_is_name, w_is_name]
  refine l_is_octets (.inl rfl) hl ?_
  simp -dsimp
  by_cases h1 : ns.all octI = true
  · simp only [h1]
    by_cases h2 : ns.length = 0
    · have e : nameOk ns = false := by simp -dsimp [nameOk, h2]
      rw [e] at hQ
      simp -dsimp [h2]
      exact rtL_of hQ
    · have h3 : ¬ (ns.length : Int) < 1 := by omega
      by_cases h4 : (40 : Int) < ns.length
      · have e : nameOk ns = false := by
          have : ¬ ns.length ≤ 40 := by omega
          simp -dsimp [nameOk, this]
        rw [e] at hQ
        simp -dsimp [h3, h4]
        exact rtL_of hQ
      · simp -dsimp [h3, h4]
        refine lc_map (f := fun d => .bl (nameD d)) _ _ (fun d hd P hP => ?_) trivial (by simpa using hl) (rAll_of (b := nameD) ?_)
        · obtain ⟨i, _, rfl⟩ := List.mem_map.mp hd
          simp -dsimp [wipeD]
          exact l_is_name_octet hP
        · rw [all_ints (c := nameI) fun _ => rfl]
          by_cases h5 : ns.all nameI = true
          · simp -dsimp [h5]
            refine lc_map (f := fun d => .bl (notDot d)) _ _ (fun d hd P hP => ?_) trivial (by simpa using hl) (rAny_of (b := notDot) ?_)
            · obtain ⟨i, _, rfl⟩ := List.mem_map.mp hd
              simp -dsimp [wipeD]
              exact q_bl (b := i != 46) hP (by by_cases hi : i = 46 <;> simp -dsimp [hi])
            · rw [any_ints (c := fun i => i != 46) fun _ => rfl]
              have e : nameOk ns = ns.any fun i => i != 46 := by
                have k1 : 1 ≤ ns.length := by omega
                have k2 : ns.length ≤ 40 := by omega
                simp -dsimp [nameOk, h1, h5, k1, k2]
              rw [e] at hQ
              exact rtL_of hQ
          · have e : nameOk ns = false := by
              have : ns.all nameI = false := by simpa using h5
              simp -dsimp [nameOk, this]
            rw [e] at hQ
            have e5 : ns.all nameI = false := by simpa using h5
            simp only [e5]
            exact rtL_of hQ
  · have e1 : ns.all octI = false := by simpa using h1
    have e : nameOk ns = false := by simp -dsimp [nameOk, e1]
    rw [e] at hQ
    simp only [e1]
    exact rtL_of hQ
/-! ### kinds, sizes -/
def kindOk (k : Str) (n : Int) : Bool := if k = cs_sha then n == 24 else k == cs_sum && decide (1 ≤ n) && decide (n ≤ 8)
theorem l_is_kind {k : Str} {n : Int} (hQ : Q (.bl (kindOk k n)) O) : fs_is_kind [.tup [.str k, .int n]] O Q E := by
  simp -dsimp [fs_is_kind, w_is_kind]
  refine l_int ?_
  simp -dsimp
  by_cases h : k = cs_sha
  · simp -dsimp [h]
    refine rtL_of ?_
    exact q_bl hQ (by by_cases h2 : n = 24 <;> simp -dsimp [kindOk, h, h2])
  · simp -dsimp [h]
    by_cases h2 : k = cs_sum
    · simp -dsimp [h2]
      by_cases h3 : 1 ≤ n
      · simp -dsimp [h3]
        refine rtL_of ?_
        exact q_bl hQ (by by_cases h4 : n ≤ 8 <;> simp -dsimp [kindOk, h2, sum_sha, h3, h4])
      · simp -dsimp [h3]
        refine rtL_of ?_
        exact q_bl hQ (by simp -dsimp [kindOk, h2, sum_sha, h3])
    · simp -dsimp [h2]
      refine rtL_of ?_
      exact q_bl hQ (by simp -dsimp [kindOk, h, h2])
def sizeOk (n : Int) : Bool := decide (4 ≤ n) && decide (n ≤ 65536) && Builtin.bitAnd n (n - 1) == 0
theorem l_is_size {n : Int} (hQ : Q (.bl (sizeOk n)) O) : fs_is_size [.int n] O Q E := by
  simp -dsimp [fs_is_size, w_is_size]
  refine l_int ?_
  simp -dsimp
  by_cases h1 : 4 ≤ n
  · simp -dsimp [h1]
    by_cases h2 : n ≤ 65536
    · simp -dsimp [h2]
      refine rtL_of ?_
      exact q_bl hQ (by by_cases h3 : Builtin.bitAnd n (n - 1) = 0 <;> simp -dsimp [sizeOk, h1, h2, h3])
    · simp -dsimp [h2]
      refine rtL_of ?_
      simpa [sizeOk, h1, h2] using hQ
  · simp -dsimp [h1]
    refine rtL_of ?_
    simpa [sizeOk, h1] using hQ
end
end Sw

set_option maxRecDepth 100000
set_option maxHeartbeats 4000000
namespace Sw
open PySem PySem.Spec PyProof.Rows L2
/-! ### cuts -/
@[simp] theorem cut_to {α : Type} (l : List α) (n : Nat) : cutD l none (some (n : Int)) = l.take n := by
  unfold cutD
  rw [HT.sIx_none, HT.sIx_nat, List.drop_zero, Nat.sub_zero]
  by_cases h : n ≤ l.length
  · rw [Nat.min_eq_left h]
  · rw [Nat.min_eq_right (by omega), List.take_of_length_le (Nat.le_refl _), List.take_of_length_le (by omega)]
@[simp] theorem cut_from {α : Type} (l : List α) (n : Nat) : cutD l (some (n : Int)) none = l.drop n := by
  unfold cutD
  rw [HT.sIx_none, HT.sIx_nat]
  by_cases h : n ≤ l.length
  · rw [Nat.min_eq_left h, List.take_of_length_le (by rw [List.length_drop]; exact Nat.le_refl _)]
  · rw [Nat.min_eq_right (by omega), Nat.sub_self, List.take_zero, List.drop_of_length_le (by omega)]
@[simp] theorem cut_from1 {α : Type} (l : List α) (n : Nat) : cutD l (some ((n : Int) + 1)) none = l.drop (n + 1) := cut_from l (n + 1)
@[simp] theorem cut_to1 {α : Type} (l : List α) (n : Nat) : cutD l none (some ((n : Int) + 1)) = l.take (n + 1) := cut_to l (n + 1)
@[simp] theorem cut_all {α : Type} (l : List α) : cutD l none none = l := by
  unfold cutD
  rw [HT.sIx_none, HT.sIx_none, List.drop_zero, Nat.sub_zero, List.take_of_length_le (Nat.le_refl _)]
/-! ### values with a Lean type, as data -/
class DD (α : Type) [DecidableEq α] [PySem.W.Datum α] where
  d : α → D
  to : ∀ a : α, toP (d a) = some (PySem.W.Datum.toD a)
  lay : ∀ a : α, (PySem.W.Datum.toD a).canLay0 = true
instance : DD Int := ⟨.int, fun _ => rfl, fun _ => rfl⟩
instance : DD Bool := ⟨.bl, fun _ => rfl, fun _ => rfl⟩
instance : DD Unit := ⟨fun _ => .non, fun _ => rfl, fun _ => rfl⟩
section
variable {α β : Type} [DecidableEq α] [PySem.W.Datum α] [DD α] [DecidableEq β] [PySem.W.Datum β] [DD β]
theorem toPs_dd : ∀ l : List α, toPs (l.map DD.d) = some (l.map PySem.W.Datum.toD)
  | [] => rfl
  | a :: l => by
    show (toP (DD.d a)).bind (fun p => (toPs (l.map DD.d)).map fun q => p :: q) = _
    rw [DD.to, toPs_dd l]
    rfl
theorem layAll_dd : ∀ l : List α, PySem.PyData.canLayAll0 (l.map PySem.W.Datum.toD) = true
  | [] => rfl
  | a :: l => by
    rw [List.map_cons, PyData.canLayAll0, DD.lay, layAll_dd l]
    rfl
instance : DD (PySem.W.Tup α) := ⟨fun t => .tup (t.items.map DD.d), fun t => by
  show (toPs (t.items.map DD.d)).map PyData.tuple = _
  rw [toPs_dd]
  rfl, fun t => by
  show PyData.canLay0 (.tuple (t.items.map PySem.W.Datum.toD)) = true
  rw [PyData.canLay0]
  exact layAll_dd _⟩
instance : DD (List α) := ⟨fun t => .lst (t.map DD.d), fun t => by
  show (toPs (t.map DD.d)).map PyData.list = _
  rw [toPs_dd]
  rfl, fun t => by
  show PyData.canLay0 (.list (t.map PySem.W.Datum.toD)) = true
  rw [PyData.canLay0]
  exact layAll_dd _⟩
instance : DD (α × β) := ⟨fun p => .tup [DD.d p.1, DD.d p.2], fun p => by
  show (((toP (DD.d p.1)).bind fun x => (((toP (DD.d p.2)).bind fun y => (some ([] : List PyData)).map fun q => y :: q)).map fun q => x :: q)).map PyData.tuple = _
  rw [DD.to, DD.to]
  rfl, fun p => by
  show PyData.canLay0 (.tuple [PySem.W.Datum.toD p.1, PySem.W.Datum.toD p.2]) = true
  rw [PyData.canLay0, PyData.canLayAll0, PyData.canLayAll0, PyData.canLayAll0, DD.lay, DD.lay]
  rfl⟩
theorem shaped_dd (a : α) (h : PySem.W.Datum.depth α ≤ 64) : SeqAt.shaped (PySem.W.Datum.toD a) = true := by
  unfold SeqAt.shaped
  rw [Bool.and_eq_true_iff]
  exact ⟨DD.lay a, decide_eq_true (Nat.le_trans (PySem.W.Datum.depth_le a) h)⟩
theorem toPO_dd {O : OS} {a : α} : toPO O (DD.d a) = some (PySem.W.Datum.toD a) := by
  have h := DD.to a
  cases e : DD.d a <;> rw [e] at h <;> first | exact h | cases h
theorem eq_dd {O : OS} {Q : QD} {neg : Bool} {a b : α} (hQ : Q (.bl (if neg then !decide (a = b) else decide (a = b))) O) (h : PySem.W.Datum.depth α ≤ 64 := by decide) : rEqq neg (DD.d a) (DD.d b) O Q := by
  have ha := toPO_dd (O := O) (a := a)
  have hb := toPO_dd (O := O) (a := b)
  have e := PySem.W.Datum.eqv a b
  have gen : ∃ p q, toPO O (DD.d a) = some p ∧ toPO O (DD.d b) = some q ∧ SeqAt.shaped p = true ∧ SeqAt.shaped q = true ∧ Q (.bl (if neg then !PyData.eqv p q else PyData.eqv p q)) O := ⟨_, _, ha, hb, shaped_dd a h, shaped_dd b h, by rw [e]; exact hQ⟩
  cases ea : DD.d a with
  | int i =>
    cases eb : DD.d b with
    | int j =>
      rw [ea] at ha
      rw [eb] at hb
      have h1 := Option.some.inj ha
      have h2 := Option.some.inj hb
      rw [← h1, ← h2] at e
      have e3 : decide (i = j) = decide (a = b) := by
        rw [← e]
        simp -dsimp [PyData.eqv, PySem.W.beq_decide]
      show Q (.bl (if neg then !decide (i = j) else decide (i = j))) O
      rw [e3]
      exact hQ
    | _ =>
      rw [ea, eb] at gen
      exact gen
  | str i =>
    cases eb : DD.d b with
    | str j =>
      rw [ea] at ha
      rw [eb] at hb
      have h1 := Option.some.inj ha
      have h2 := Option.some.inj hb
      rw [← h1, ← h2] at e
      have e3 : decide (i = j) = decide (a = b) := by
        rw [← e]
        simp -dsimp [PyData.eqv, PySem.W.beq_decide]
      show Q (.bl (if neg then !decide (i = j) else decide (i = j))) O
      rw [e3]
      exact hQ
    | _ =>
      rw [ea, eb] at gen
      exact gen
  | _ =>
    rw [ea] at gen
    exact gen
end
end Sw

set_option maxRecDepth 100000
set_option maxHeartbeats 4000000
namespace Sw
open PySem PySem.Spec PyProof.Rows L2
abbrev tupI (ns : List Int) : D := .tup (ns.map .int)
abbrev Path := List (List Int)
def pathD (p : Path) : D := .tup (p.map tupI)
def fileD (f : Path × Int) : D := .tup [pathD f.1, .int f.2]
@[simp ↓] theorem file_ix0 {f : Path × Int} {O : OS} {Q : QD} : rIdx (fileD f) (.int 0) O Q = Q (pathD f.1) O := propext Iff.rfl
@[simp ↓] theorem file_ix1 {f : Path × Int} {O : OS} {Q : QD} : rIdx (fileD f) (.int 1) O Q = Q (.int f.2) O := propext Iff.rfl
@[simp ↓] theorem file_len {f : Path × Int} {O : OS} {Q : QD} : rLen1 (fileD f) O Q = Q (.int 2) O := propext Iff.rfl
def pathOk (p : Path) : Bool := decide (1 ≤ p.length) && decide (p.length ≤ 8) && p.all nameOk
def fileOk (f : Path × Int) : Bool := pathOk f.1 && decide (0 ≤ f.2) && decide (f.2 ≤ 4294967296)
theorem sl_big {n : Nat} (h : n ≤ 16777216) : n ≤ sizeLine := by
  rw [sizeLine_eq]
  omega
theorem nameOk_len {ns : List Int} (h : nameOk ns = true) : ns.length ≤ 40 := by
  simp -dsimp [nameOk] at h
  exact h.1.1.2
section
variable {O : OS} {Q : QD} {E : XW}
theorem rAll_true {items : List D} (h : Q (.bl true) O) : rAllD [.lst (items.map fun _ => .bl true)] O Q := rAll_of (b := fun _ => true) (by
  have e : items.all (fun _ => true) = true := List.all_eq_true.mpr fun _ _ => rfl
  rw [e]
  exact h)
theorem l_is_path {p : Path} (h : pathOk p = true) (hQ : Q (.bl true) O) : fs_is_path [pathD p] O Q E := by
  simp -dsimp [pathOk] at h
  obtain ⟨⟨h1, h2⟩, h3⟩ := h
  have e1 : ¬ (p.length : Int) < 1 := by omega
  have e2 : ¬ (8 : Int) < p.length := by omega
  simp -dsimp [fs_is_path, w_is_path, pathD, e1, e2]
  refine lc_map (f := fun _ => .bl true) _ _ (fun d hd P hP => ?_) trivial (by simp -dsimp; exact sl_big (by omega)) (rAll_true (rtL_of hQ))
  obtain ⟨n, hn, rfl⟩ := List.mem_map.mp hd
  have hk := h3 n hn
  simp -dsimp [wipeD]
  exact l_is_name (sl_big (by have := nameOk_len hk; omega)) (by rw [hk]; exact hP)
theorem l_is_file {f : Path × Int} (h : fileOk f = true) (hQ : Q (.bl true) O) : fs_is_file [fileD f] O Q E := by
  simp -dsimp [fileOk] at h
  obtain ⟨⟨h1, h2⟩, h3⟩ := h
  simp -dsimp [fs_is_file, w_is_file, fileD]
  refine l_is_path h1 ?_
  simp -dsimp
  refine l_int ?_
  simp -dsimp [h2]
  refine rtL_of ?_
  simpa [h3] using hQ
/-- no path is the beginning of another -/
def Apart (ps : List Path) : Prop := ∀ (i j : Nat) (p q : Path), i ≠ j → ps[i]? = some p → ps[j]? = some q → q.take p.length ≠ p
def pathT (p : Path) : PySem.W.Tup (PySem.W.Tup Int) := ⟨p.map PySem.W.Tup.mk⟩
theorem pathT_d (p : Path) : DD.d (pathT p) = pathD p := by
  show D.tup ((p.map PySem.W.Tup.mk).map DD.d) = _
  rw [List.map_map]
  rfl
theorem pathT_inj {p q : Path} (h : pathT p = pathT q) : p = q := by
  have h1 : p.map PySem.W.Tup.mk = q.map PySem.W.Tup.mk := congrArg PySem.W.Tup.items h
  have h2 := congrArg (List.map PySem.W.Tup.items) h1
  rw [List.map_map, List.map_map] at h2
  have e : (PySem.W.Tup.items ∘ (PySem.W.Tup.mk : List Int → _)) = id := rfl
  rwa [e, List.map_id, List.map_id] at h2
theorem pathD_ne {p q : Path} (h : p ≠ q) (hQ : Q (.bl false) O) : rEqq false (pathD p) (pathD q) O Q := by
  rw [← pathT_d, ← pathT_d]
  refine eq_dd ?_
  have e : decide (pathT p = pathT q) = false := decide_eq_false fun z => h (pathT_inj z)
  simp -dsimp [e]
  exact hQ
theorem l_are_apart {ps : List Path} (h : Apart ps) (hl : ps.length ≤ 64) (hQ : Q (.bl true) O) : fs_are_apart [.lst (ps.map pathD)] O Q E := by
  simp only [fs_are_apart, w_are_apart, fsOf_eq, startD_eq]
  simp -dsimp
  refine for_inv (I := fun i η O' => O' = O ∧ ∃ a b c, η = [some (.lst (ps.map pathD)), a, b, c]) _ (fun _ _ _ _ => trivial) (fun i d η O' hd hI N hN => ?_) ⟨rfl, _, _, _, rfl⟩ (fun η O' hI => ?_)
  · obtain ⟨rfl, a, b, c, rfl⟩ := hI
    obtain ⟨y, hy, rfl⟩ := enD_get hd
    rw [List.getElem?_map] at hy
    obtain ⟨p, hp, rfl⟩ := Option.map_eq_some_iff.mp hy
    have hi := (List.getElem?_eq_some_iff.mp hp).1
    simp -dsimp
    refine ⟨sl_big (by omega), ?_⟩
    refine for_inv (I := fun _ η O'' => O'' = O' ∧ ∃ c, η = [some (.lst (ps.map pathD)), some (.int i), some (pathD p), c]) _ (fun _ _ _ _ => trivial) (fun k d η O'' hd hI N' hN' => ?_) ⟨rfl, _, rfl⟩ (fun η O'' hI => ?_)
    · obtain ⟨rfl, c, rfl⟩ := hI
      have hq : ∃ j q, j ≠ i ∧ ps[j]? = some q ∧ d = pathD q := by
        rw [← List.map_take, ← List.map_drop, ← List.map_append, List.getElem?_map] at hd
        obtain ⟨q, hq, rfl⟩ := Option.map_eq_some_iff.mp hd
        by_cases hk : k < i
        · rw [List.getElem?_append_left (by rw [List.length_take]; omega), List.getElem?_take_of_lt hk] at hq
          exact ⟨k, q, by omega, hq, rfl⟩
        · rw [List.getElem?_append_right (by rw [List.length_take]; omega), List.length_take, Nat.min_eq_left (by omega), List.getElem?_drop] at hq
          exact ⟨_, q, by omega, hq, rfl⟩
      obtain ⟨j, q, hj, hq, rfl⟩ := hq
      have ne := h i j p q (Ne.symm hj) hp hq
      simp -dsimp [pathD, cut_to]
      rw [← List.map_take]
      refine pathD_ne ne ?_
      exact hN' _ _ ⟨rfl, _, rfl⟩
    · obtain ⟨rfl, c, rfl⟩ := hI
      exact hN _ _ ⟨rfl, _, _, _, rfl⟩
  · obtain ⟨rfl, a, b, c, rfl⟩ := hI
    simp -dsimp
    exact rtL_of hQ
end
end Sw

set_option maxRecDepth 100000
set_option maxHeartbeats 4000000
namespace Sw
open PySem PySem.Spec PyProof.Rows L2
/-- a description -/
structure Dsc where
  name : List Int
  kk : Str
  kn : Int
  size : Int
  files : List (Path × Int)
  root : List Int
def Dsc.d (x : Dsc) : D := .tup [tupI x.name, .tup [.str x.kk, .int x.kn], .int x.size, .tup (x.files.map fileD), tupI x.root]
@[simp ↓] theorem d_ix0 {x : Dsc} {O : OS} {Q : QD} : rIdx x.d (.int 0) O Q = Q (tupI x.name) O := propext Iff.rfl
@[simp ↓] theorem d_ix1 {x : Dsc} {O : OS} {Q : QD} : rIdx x.d (.int 1) O Q = Q (.tup [.str x.kk, .int x.kn]) O := propext Iff.rfl
@[simp ↓] theorem d_ix2 {x : Dsc} {O : OS} {Q : QD} : rIdx x.d (.int 2) O Q = Q (.int x.size) O := propext Iff.rfl
@[simp ↓] theorem d_ix3 {x : Dsc} {O : OS} {Q : QD} : rIdx x.d (.int 3) O Q = Q (.tup (x.files.map fileD)) O := propext Iff.rfl
@[simp ↓] theorem d_ix4 {x : Dsc} {O : OS} {Q : QD} : rIdx x.d (.int 4) O Q = Q (tupI x.root) O := propext Iff.rfl
def Dsc.total (x : Dsc) : Int := (x.files.map (·.2)).sum
structure Dsc.Ok (x : Dsc) : Prop where
  name : nameOk x.name = true
  kind : kindOk x.kk x.kn = true
  size : sizeOk x.size = true
  few : 1 ≤ x.files.length ∧ x.files.length ≤ 64
  files : ∀ f ∈ x.files, fileOk f = true
  apart : Apart (x.files.map (·.1))
  total : 1 ≤ x.total ∧ x.total ≤ 4096 * x.size
  root : x.root.all octI = true
  rootn : (x.root.length : Int) = x.kn
section
variable {O : OS} {Q : QD} {E : XW}
theorem sizeOk_le {n : Int} (h : sizeOk n = true) : 4 ≤ n ∧ n ≤ 65536 := by
  simp -dsimp [sizeOk] at h
  exact h.1
theorem kindOk_le {k : Str} {n : Int} (h : kindOk k n = true) : 1 ≤ n ∧ n ≤ 24 := by
  unfold kindOk at h
  split at h
  · have := eq_of_beq h
    omega
  · simp -dsimp at h
    omega
theorem cmul_left {i j : Int} (h1 : 0 ≤ i) (h2 : i ≤ 1000000) : CMul i j := .inl ⟨by omega, by omega⟩
theorem cmul_right {i j : Int} (h1 : 0 ≤ j) (h2 : j ≤ 1000000) : CMul i j := .inr ⟨by omega, by omega⟩
theorem file_name {f : Path × Int} : (match fileD f with
  | .tup l => l[0]?
  | _ => none) = some (pathD f.1) := rfl
/-- what a file's comprehension makes -/
def fstD : D → D
  | .tup (x :: _) => x
  | d => d
def sndI : D → Int
  | .tup [_, .int i] => i
  | _ => 0
theorem l_are_filesD {x : Dsc} (h : x.Ok) (hQ : Q (.bl true) O) : fs_are_files_descriptions [.tup (x.files.map fileD)] O Q E := by
  have e1 : ¬ (x.files.length : Int) < 1 := by have := h.few.1; omega
  have e2 : ¬ (64 : Int) < x.files.length := by have := h.few.2; omega
  have hs : x.files.length ≤ sizeLine := sl_big (by have := h.few.2; omega)
  simp -dsimp [fs_are_files_descriptions, w_are_files_descriptions, e1, e2]
  refine lc_map (f := fun _ => .bl true) _ _ (fun d hd P hP => ?_) trivial (by simpa using hs) (rAll_true ?_)
  · obtain ⟨f, hf, rfl⟩ := List.mem_map.mp hd
    simp -dsimp [wipeD]
    exact l_is_file (h.files f hf) hP
  · simp -dsimp
    refine lc_map (f := fstD) _ _ (fun d hd P hP => ?_) trivial (by simpa using hs) ?_
    · obtain ⟨f, hf, rfl⟩ := List.mem_map.mp hd
      simp -dsimp [wipeD, fileD]
      exact hP
    · have e : (x.files.map fileD).map fstD = (x.files.map (·.1)).map pathD := by
        rw [List.map_map, List.map_map]
        rfl
      rw [List.nil_append, e]
      exact l_are_apart h.apart (by rw [List.length_map]; exact h.few.2) (rtL_of hQ)
theorem sum_files {x : Dsc} : ((x.files.map fileD).map sndI).sum = x.total := by
  unfold Dsc.total
  rw [List.map_map]
  rfl
theorem l_fault_ok {x : Dsc} (h : x.Ok) (hQ : Q .non O) : fs_fault_of [x.d] O Q E := by
  have hn := nameOk_len h.name
  have hs : x.files.length ≤ sizeLine := sl_big (by have := h.few.2; omega)
  have hk := kindOk_le h.kind
  have hz := sizeOk_le h.size
  simp -dsimp [fs_fault_of, w_fault_of, Dsc.d]
  refine l_is_name (sl_big (by omega)) ?_
  simp -dsimp [h.name]
  refine l_is_kind ?_
  simp -dsimp [h.kind]
  refine l_is_size ?_
  simp -dsimp [h.size]
  refine l_are_filesD h ?_
  simp -dsimp
  refine lc_map (f := fun d => .int (sndI d)) _ _ (fun d hd P hP => ?_) trivial (by simpa using hs) ?_
  · obtain ⟨f, hf, rfl⟩ := List.mem_map.mp hd
    simp -dsimp [wipeD, fileD]
    exact hP
  · refine rSum_of (b := sndI) ?_
    rw [sum_files]
    have e1 : ¬ x.total < 1 := by have := h.total.1; omega
    have e2 : ¬ 4096 * x.size < x.total := by have := h.total.2; omega
    simp -dsimp [e1, e2]
    refine ⟨cmul_left (by omega) (by omega), ?_⟩
    refine l_is_octets (.inr ⟨_, rfl⟩) (sl_big (by have := h.rootn; omega)) ?_
    simp -dsimp [h.rootn, h.root]
    exact rtL_of hQ
theorem l_check_ok {x : Dsc} (h : x.Ok) (hQ : Q .non O) : fs_check_description [x.d] O Q E := by
  simp -dsimp [fs_check_description, w_check_description]
  refine l_fault_ok h ?_
  simp -dsimp
  exact rtL_of hQ
theorem l_length_of {x : Dsc} (h : x.files.length ≤ 64) (hQ : Q (.int x.total) O) : fs_length_of [x.d] O Q E := by
  simp -dsimp [fs_length_of, w_length_of, Dsc.d]
  refine lc_map (f := fun d => .int (sndI d)) _ _ (fun d hd P hP => ?_) trivial (by simp -dsimp; exact sl_big (by omega)) (rSum_of (b := sndI) ?_)
  · obtain ⟨f, hf, rfl⟩ := List.mem_map.mp hd
    simp -dsimp [wipeD, fileD]
    exact hP
  · rw [sum_files]
    exact rtL_of hQ
def Dsc.count (x : Dsc) : Int := (x.total - 1) / x.size + 1
theorem l_count_of {x : Dsc} (h : x.files.length ≤ 64) (hz : 4 ≤ x.size ∧ x.size ≤ 65536) (hQ : Q (.int x.count) O) : fs_count_of [x.d] O Q E := by
  simp -dsimp [fs_count_of, w_count_of]
  refine l_length_of h ?_
  simp -dsimp [Dsc.d]
  exact ⟨⟨by omega, by omega⟩, rtL_of hQ⟩
theorem l_piece_count {x : Dsc} (h : x.Ok) (hQ : Q (.int x.count) O) : fs_piece_count [x.d] O Q E := by
  simp -dsimp [fs_piece_count, w_piece_count]
  refine l_check_ok h ?_
  exact l_count_of h.few.2 (sizeOk_le h.size) (rtL_of hQ)
theorem l_is_index {i n : Int} (hQ : Q (.bl (decide (0 ≤ i) && decide (i < n))) O) : fs_is_index [.int i, .int n] O Q E := by
  simp -dsimp [fs_is_index, w_is_index]
  refine l_int ?_
  by_cases h1 : 0 ≤ i
  · simp -dsimp [h1]
    exact rtL_of (q_bl hQ (by simp -dsimp [h1]))
  · simp -dsimp [h1]
    exact rtL_of (q_bl hQ (by simp -dsimp [h1]))
theorem l_check_index {i n : Int} (h1 : 0 ≤ i) (h2 : i < n) (hQ : Q .non O) : fs_check_index [.int i, .int n] O Q E := by
  simp -dsimp [fs_check_index, w_check_index]
  refine l_is_index ?_
  simp -dsimp [h1, h2]
  exact rtL_of hQ
/-- the beginnings of the files in the stream, and its end -/
def startsOf (ls : List Int) : List Int := (List.range (ls.length + 1)).map fun i => (ls.take i).sum
def Dsc.lens (x : Dsc) : List Int := x.files.map (·.2)
theorem starts_snoc {ls : List Int} {i : Nat} {l : Int} (h : ls[i]? = some l) : (ls.take (i + 1)).sum = (ls.take i).sum + l := by
  rw [List.take_add_one, h]
  simp -dsimp
theorem atI_last1 {α : Type} (xs : List α) (v : α) : atI (xs ++ [v]) (-1) = some v := atI_last xs v
theorem range_map_succ {α : Type} (n : Nat) (f : Nat → α) : (List.range (n + 1)).map f = (List.range n).map f ++ [f n] := by
  rw [List.range_succ, List.map_append]
  rfl
theorem l_starts_of {fs : List (Path × Int)} (h : fs.length ≤ 64) (hQ : Q (.lst ((startsOf (fs.map (·.2))).map .int)) O) : fs_starts_of [.tup (fs.map fileD)] O Q E := by
  simp only [fs_starts_of, w_starts_of, fsOf_eq, startD_eq]
  simp -dsimp
  intro p hp
  refine for_inv (I := fun i η O' => O' = put O p (.ml (((List.range (i + 1)).map fun k => ((fs.map (·.2)).take k).sum).map .int)) ∧ ∃ a, η = [some (.tup (fs.map fileD)), some (.ref p), a]) _ (fun _ _ _ _ => trivial) (fun i d η O' hd hI N hN => ?_) ⟨by simp -dsimp [put], _, rfl⟩ (fun η O' hI => ?_)
  · obtain ⟨rfl, a, rfl⟩ := hI
    rw [List.getElem?_map] at hd
    obtain ⟨f, hf, rfl⟩ := Option.map_eq_some_iff.mp hd
    have hi := (List.getElem?_eq_some_iff.mp hf).1
    have e : (fs.map (·.2))[i]? = some f.2 := by rw [List.getElem?_map, hf]; rfl
    rw [range_map_succ, List.map_append]
    simp -dsimp [fileD, atI_last1]
    refine ⟨sl_big (by omega), hN _ _ ⟨?_, _, rfl⟩⟩
    rw [range_map_succ (i + 1), range_map_succ i, starts_snoc e]
    simp -dsimp
  · obtain ⟨rfl, a, rfl⟩ := hI
    simp -dsimp
    rw [cut_put hp]
    refine rtL_of ?_
    simpa [startsOf] using hQ
theorem startsOf_get {ls : List Int} {i : Nat} (h : i ≤ ls.length) : (startsOf ls)[i]? = some ((ls.take i).sum) := by
  unfold startsOf
  rw [List.getElem?_map, List.getElem?_range (by omega)]
  rfl
end
end Sw

set_option maxRecDepth 100000
set_option maxHeartbeats 4000000
namespace Sw
open PySem PySem.Spec PyProof.Rows L2
section
variable {O : OS} {Q : QD} {E : XW}
theorem all_flat (ns : List Int) : (ns.map D.int).all flatD = true := by
  rw [List.all_map]
  exact List.all_eq_true.mpr fun _ _ => rfl
theorem inD_ints (k : Int) (ns : List Int) : inD (.int k) (ns.map .int) = decide (k ∈ ns) := by
  unfold inD
  rw [List.any_map]
  induction ns with
  | nil => rfl
  | cons n ns ih =>
    rw [List.any_cons, ih]
    show ((n == k) || decide (k ∈ ns)) = decide (k ∈ n :: ns)
    by_cases h : n = k
    · simp -dsimp [h]
    · have h2 : ¬ k = n := fun e => h e.symm
      simp -dsimp [h, h2]
/-- the pieces of the f-th file -/
def stI (L : List Int) (i : Nat) : Int := (L.take i).sum
def pcs (L : List Int) (z : Int) (f : Nat) : Int × Int := if stI L f = stI L (f + 1) then (0, 0) else (stI L f / z, (stI L (f + 1) - 1) / z + 1)
theorem startsD_get {L : List Int} {i : Nat} (h : i ≤ L.length) : atI ((startsOf L).map D.int) (i : Int) = some (.int (stI L i)) := by
  refine atI_at i rfl ?_
  rw [List.getElem?_map, startsOf_get h]
  rfl
theorem startsD_get1 {L : List Int} {i : Nat} (h : i + 1 ≤ L.length) : atI ((startsOf L).map D.int) ((i : Int) + 1) = some (.int (stI L (i + 1))) := startsD_get h
theorem l_pieces_of {x : Dsc} (h : x.Ok) {f : Nat} (hf : f < x.files.length) (hQ : Q (.tup [.int (pcs x.lens x.size f).1, .int (pcs x.lens x.size f).2]) O) : fs_pieces_of [x.d, .int f] O Q E := by
  have hz := sizeOk_le h.size
  have hl : x.lens.length = x.files.length := by unfold Dsc.lens; rw [List.length_map]
  have g1 := startsD_get (L := x.lens) (i := f) (by omega)
  have g2 := startsD_get1 (L := x.lens) (i := f) (by omega)
  simp -dsimp [fs_pieces_of, w_pieces_of]
  refine l_check_ok h ?_
  skip
  refine l_check_index (by omega) (by omega) ?_
  refine l_starts_of h.few.2 ?_
  unfold Dsc.lens at g1 g2
  simp -dsimp [g1, g2]
  by_cases e : stI (x.files.map (·.2)) f = stI (x.files.map (·.2)) (f + 1)
  · simp -dsimp [e, g1, g2]
    refine rtL_of ?_
    simpa [pcs, Dsc.lens, e] using hQ
  · simp -dsimp [e, g1, g2]
    refine ⟨⟨by omega, by omega⟩, ⟨by omega, by omega⟩, rtL_of ?_⟩
    simpa [pcs, Dsc.lens, e] using hQ
end
end Sw

set_option maxRecDepth 100000
set_option maxHeartbeats 4000000
namespace Sw
open PySem PySem.Spec PyProof.Rows L2
section
variable {O : OS} {Q : QD} {E : XW}
theorem rgD_get {lo hi : Int} {i : Nat} {d : D} (h : (rgD lo hi)[i]? = some d) : d = .int (lo + i) ∧ i < (hi - lo).toNat := by
  unfold rgD at h
  rw [List.getElem?_map] at h
  obtain ⟨k, hk, rfl⟩ := Option.map_eq_some_iff.mp h
  have hi := (List.getElem?_eq_some_iff.mp hk).1
  rw [List.length_range] at hi
  rw [List.getElem?_range hi] at hk
  cases hk
  exact ⟨rfl, hi⟩
theorem rgD_len {lo hi : Int} : (rgD lo hi).length = (hi - lo).toNat := by
  unfold rgD
  rw [List.length_map, List.length_range]
theorem ints_get {ns : List Int} {i : Nat} {d : D} (h : (ns.map D.int)[i]? = some d) : ∃ n, ns[i]? = some n ∧ d = .int n := by
  rw [List.getElem?_map] at h
  obtain ⟨n, hn, rfl⟩ := Option.map_eq_some_iff.mp h
  exact ⟨n, hn, rfl⟩
def natsD (l : List Nat) : List D := l.map fun (n : Nat) => D.int (n : Int)
@[simp] theorem natsD_length {l : List Nat} : (natsD l).length = l.length := by unfold natsD; rw [List.length_map]
@[simp] theorem natsD_flat {l : List Nat} : (natsD l).all flatD = true := by
  unfold natsD
  rw [List.all_map]
  exact List.all_eq_true.mpr fun _ _ => rfl
@[simp] theorem natsD_in {l : List Nat} {k : Nat} : inD (.int k) (natsD l) = decide (k ∈ l) := by
  have h := inD_ints k (l.map fun (n : Nat) => (n : Int))
  rw [List.map_map] at h
  have e : natsD l = l.map (D.int ∘ fun (n : Nat) => (n : Int)) := rfl
  rw [e, h]
  refine decide_eq_decide.mpr ?_
  rw [List.mem_map]
  exact ⟨fun ⟨a, h1, h2⟩ => by
    have : a = k := by omega
    exact this ▸ h1, fun h => ⟨k, h, rfl⟩⟩
theorem natsD_get {l : List Nat} {i : Nat} {d : D} (h : (natsD l)[i]? = some d) : ∃ n, l[i]? = some n ∧ d = .int n := by
  unfold natsD at h
  rw [List.getElem?_map] at h
  obtain ⟨n, hn, rfl⟩ := Option.map_eq_some_iff.mp h
  exact ⟨n, hn, rfl⟩
theorem natsD_snoc {l : List Nat} {k : Nat} : natsD l ++ [.int k] = natsD (l ++ [k]) := by
  unfold natsD
  rw [List.map_append]
  rfl
@[simp] theorem natsD_flat2 {l : List Nat} : (∀ x, x ∈ natsD l → flatD x = true) ↔ True := ⟨fun _ => trivial, fun _ x hx => List.all_eq_true.mp natsD_flat x hx⟩
@[simp] theorem flatD_int {i : Int} : flatD (.int i) = true := rfl
@[simp] theorem natsD_nil : natsD [] = [] := rfl
def inP (L : List Int) (z : Int) (k f : Nat) : Bool := decide ((pcs L z f).1 ≤ (k : Int)) && decide ((k : Int) < (pcs L z f).2)
def wantP (x : Dsc) (fs : List Nat) (k : Nat) : Bool := fs.any fun f => inP x.lens x.size k f
def wantL (x : Dsc) (fs : List Nat) : List Nat := (List.range x.count.toNat).filter (wantP x fs)
theorem Dsc.Ok.lens_nn {x : Dsc} (h : x.Ok) : ∀ l ∈ x.lens, 0 ≤ l := fun l hl => by
  obtain ⟨f, hf, rfl⟩ := List.mem_map.mp hl
  have := h.files f hf
  simp -dsimp [fileOk] at this
  exact this.1.2
theorem Dsc.Ok.count_le {x : Dsc} (h : x.Ok) : 1 ≤ x.count ∧ x.count ≤ 4096 := by
  have hz := sizeOk_le h.size
  have ht := h.total
  unfold Dsc.count
  have h1 : (x.total - 1) / x.size < 4096 := Int.ediv_lt_of_lt_mul (by omega) (by omega)
  have h0 : 0 ≤ (x.total - 1) / x.size := Int.ediv_nonneg (by omega) (by omega)
  omega
theorem filter_range_succ (p : Nat → Bool) (n : Nat) : (List.range (n + 1)).filter p = (List.range n).filter p ++ if p n then [n] else [] := by
  rw [List.range_succ, List.filter_append]
  congr 1
  by_cases h : p n <;> simp -dsimp [h]
theorem take_any_succ {α : Type} {l : List α} {i : Nat} {a : α} (p : α → Bool) (h : l[i]? = some a) : (l.take (i + 1)).any p = ((l.take i).any p || p a) := by
  rw [List.take_add_one, h]
  simp -dsimp
def wantJ (x : Dsc) (fs : List Nat) (i j : Nat) : List Nat := (List.range i).filter (wantP x fs) ++ if (fs.take j).any (inP x.lens x.size i) = true then [i] else []
theorem wantJ_mem {x : Dsc} {fs : List Nat} {i j : Nat} : i ∈ wantJ x fs i j ↔ (fs.take j).any (inP x.lens x.size i) = true := by
  unfold wantJ
  rw [List.mem_append, List.mem_filter, List.mem_range]
  constructor
  · rintro (⟨h, _⟩ | h)
    · omega
    · split at h
      · assumption
      · cases h
  · intro h
    rw [if_pos h]
    exact .inr (List.mem_cons_self ..)
theorem wantJ_in {x : Dsc} {fs : List Nat} {i j f : Nat} (h : fs[j]? = some f) (hp : inP x.lens x.size i f = true) (hm : i ∉ wantJ x fs i j) : wantJ x fs i (j + 1) = wantJ x fs i j ++ [i] := by
  have hm := fun z => hm (wantJ_mem.mpr z)
  unfold wantJ
  rw [take_any_succ _ h, hp, Bool.or_true, if_pos rfl, if_neg hm, List.append_nil]
theorem wantJ_old {x : Dsc} {fs : List Nat} {i j f : Nat} (h : fs[j]? = some f) (hm : i ∈ wantJ x fs i j ∨ inP x.lens x.size i f = false) : wantJ x fs i (j + 1) = wantJ x fs i j := by
  unfold wantJ
  rw [take_any_succ _ h]
  rcases hm with hm | hm
  · rw [wantJ_mem.mp hm, Bool.true_or]
  · rw [hm, Bool.or_false]
theorem wantJ_0 {x : Dsc} {fs : List Nat} {i : Nat} : wantJ x fs i 0 = (List.range i).filter (wantP x fs) := by
  unfold wantJ
  simp -dsimp
theorem wantJ_end {x : Dsc} {fs : List Nat} {i : Nat} : wantJ x fs i fs.length = (List.range (i + 1)).filter (wantP x fs) := by
  unfold wantJ
  rw [List.take_of_length_le (Nat.le_refl _), filter_range_succ]
  rfl
theorem wantJ_len {x : Dsc} {fs : List Nat} {i j : Nat} : (wantJ x fs i j).length ≤ i + 1 := by
  unfold wantJ
  rw [List.length_append]
  have h1 := List.length_filter_le (wantP x fs) (List.range i)
  rw [List.length_range] at h1
  split <;> simp -dsimp <;> omega
theorem l_all_wanted {x : Dsc} (h : x.Ok) {fs : List Nat} (hf : ∀ f ∈ fs, f < x.files.length) (hn : fs.length ≤ 64) {p : Addr} {rest : List D} (hO : O p = some (.ins cs_Plan (x.d :: .tup (natsD fs) :: rest)))
    (hQ : Q (.lst (natsD (wantL x fs))) O) : fs_Plan__all_wanted [.ref p] O Q E := by
  have hc := h.count_le
  simp -dsimp [fs_Plan__all_wanted, w_Plan__all_wanted]
  intro q hq
  have hpq : p ≠ q := fun e => by
    rw [e, hq] at hO
    cases hO
  simp -dsimp [put_ne hpq, hO]
  refine l_piece_count h ?_
  simp -dsimp
  refine ⟨by omega, ?_⟩
  refine for_inv (I := fun i η O' => O' = put O q (.ml (natsD ((List.range i).filter (wantP x fs)))) ∧ ∃ a b c d, η = [some (.ref p), some (.ref q), a, b, c, d]) _ (fun _ _ _ _ => trivial) (fun i d η O' hd hI N hN => ?_) ⟨rfl, _, _, _, _, rfl⟩ (fun η O' hI => ?_)
  · obtain ⟨rfl, a, b, c, d', rfl⟩ := hI
    obtain ⟨rfl, hi⟩ := rgD_get hd
    simp -dsimp [put_ne hpq, hO]
    refine for_inv (I := fun j η O' => O' = put O q (.ml (natsD (wantJ x fs i j))) ∧ ∃ b c d, η = [some (.ref p), some (.ref q), some (.int i), b, c, d]) _ (fun _ _ _ _ => trivial) (fun j d η O' hd hI N' hN' => ?_) ⟨by rw [wantJ_0], _, _, _, rfl⟩ (fun η O' hI => ?_)
    · obtain ⟨rfl, b, c, d', rfl⟩ := hI
      obtain ⟨f, hf1, rfl⟩ := natsD_get hd
      simp -dsimp [put_ne hpq, hO]
      refine l_pieces_of h (hf f (List.mem_of_getElem? hf1)) ?_
      have old : i ∈ wantJ x fs i j ∨ inP x.lens x.size i f = false → N' [some (D.ref p), some (D.ref q), some (D.int i), some (D.int f), some (D.int (pcs x.lens x.size f).1), some (D.int (pcs x.lens x.size f).2)] (put O q (.ml (natsD (wantJ x fs i j)))) := fun hm => hN' _ _ ⟨by rw [wantJ_old hf1 hm], _, _, _, rfl⟩
      simp -dsimp
      by_cases h1 : (pcs x.lens x.size f).1 ≤ (i : Int)
      · by_cases h2 : (i : Int) < (pcs x.lens x.size f).2
        · have hp : inP x.lens x.size i f = true := by simp -dsimp [inP, h1, h2]
          by_cases h3 : i ∈ wantJ x fs i j
          · simp -dsimp [h1, h2, h3]
            exact old (.inl h3)
          · simp -dsimp [h1, h2, h3, natsD_snoc]
            refine ⟨Nat.lt_of_le_of_lt wantJ_len (Nat.lt_of_lt_of_le (show i + 1 < 16777216 by omega) (sl_big (Nat.le_refl _))), hN' _ _ ⟨by rw [wantJ_in hf1 hp h3], _, _, _, rfl⟩⟩
        · have hp : inP x.lens x.size i f = false := by simp -dsimp [inP, h2]
          simp -dsimp [h1, h2]
          exact old (.inr hp)
      · have hp : inP x.lens x.size i f = false := by simp -dsimp [inP, h1]
        simp -dsimp [h1]
        exact old (.inr hp)
    · obtain ⟨rfl, b, c, d, rfl⟩ := hI
      exact hN _ _ ⟨by rw [natsD_length, wantJ_end], _, _, _, _, rfl⟩
  · obtain ⟨rfl, a, b, c, d, rfl⟩ := hI
    simp -dsimp
    rw [cut_put hq]
    refine rtL_of ?_
    rw [rgD_len] at *
    simpa [wantL] using hQ
end
end Sw

set_option maxRecDepth 100000
set_option maxHeartbeats 4000000
namespace Sw
open PySem PySem.Spec PyProof.Rows L2
section
variable {O : OS} {Q : QD} {E : XW}
/-! ### are_files of a plan -/
def DD.nat (l : List Nat) : PySem.W.Tup Int := ⟨l.map fun (n : Nat) => (n : Int)⟩
theorem DD.nat_d (l : List Nat) : DD.d (DD.nat l) = .tup (natsD l) := by
  show D.tup ((l.map fun (n : Nat) => (n : Int)).map DD.d) = _
  rw [List.map_map]
  rfl
theorem DD.nat_inj {l m : List Nat} (h : DD.nat l = DD.nat m) : l = m := by
  have h1 : l.map (fun (n : Nat) => (n : Int)) = m.map fun (n : Nat) => (n : Int) := congrArg PySem.W.Tup.items h
  exact List.map_inj_right (fun a b e => by omega) |>.mp h1
theorem eq_nats {l m : List Nat} {neg : Bool} (hQ : Q (.bl (if neg then !decide (l = m) else decide (l = m))) O) : rEqq neg (.tup (natsD l)) (.tup (natsD m)) O Q := by
  rw [← DD.nat_d, ← DD.nat_d]
  refine eq_dd ?_
  have e : decide (DD.nat l = DD.nat m) = decide (l = m) := decide_eq_decide.mpr ⟨DD.nat_inj, fun e => by rw [e]⟩
  rw [e]
  exact hQ
@[simp] theorem seqI_nats {l : List Nat} : seqI O (.tup (natsD l)) = some (l.map fun (n : Nat) => (n : Int)) := by
  show intsD (natsD l) = _
  exact intsD_mapf l fun (n : Nat) => (n : Int)
theorem mem_nodup {l : List Nat} (h : l.Nodup) {c : Nat} (m : Mem (l.map fun (n : Nat) => (n : Int)) c) : c = l.length := by
  obtain ⟨ks, h1, h2, rfl⟩ := m
  have nd : (l.map fun (n : Nat) => (n : Int)).Nodup := List.Pairwise.map _ (fun a b e z => e (by omega)) h
  have p : ks.Perm (l.map fun (n : Nat) => (n : Int)) := (List.perm_ext_iff_of_nodup h1 nd).mpr h2
  rw [p.length_eq, List.length_map]
theorem scan_big {n : Nat} (h : n ≤ 1000) : n + 1 < scanBound := by
  unfold scanBound
  omega
theorem l_are_files {x : Dsc} {fs : List Nat} (hf : ∀ f ∈ fs, f < x.files.length) (hd : fs.Nodup) (h0 : fs ≠ []) (hl : fs.length ≤ 64) (hQ : Q (.bl true) O) : fs_are_files_playing [x.d, .tup (natsD fs)] O Q E := by
  simp -dsimp [fs_are_files_playing, w_are_files_playing]
  refine eq_nats (m := []) ?_
  simp -dsimp [h0]
  refine for_inv (I := fun _ η O' => O' = O ∧ ∃ c, η = [some x.d, some (.tup (natsD fs)), c]) _ (fun _ _ _ _ => trivial) (fun i d η O' hd hI N hN => ?_) ⟨rfl, _, rfl⟩ (fun η O' hI => ?_)
  · obtain ⟨rfl, c, rfl⟩ := hI
    obtain ⟨f, hf1, rfl⟩ := natsD_get hd
    have hlt := hf f (List.mem_of_getElem? hf1)
    simp -dsimp
    refine l_int ?_
    have e1 : ¬ (f : Int) < 0 := by omega
    have e2 : ¬ x.files.length ≤ f := by omega
    simp -dsimp [e1, e2, Dsc.d]
    exact hN _ _ ⟨rfl, _, rfl⟩
  · obtain ⟨rfl, c, rfl⟩ := hI
    simp -dsimp
    refine ⟨scan_big (by omega), fun c hc => ?_⟩
    have e := mem_nodup hd hc
    simp -dsimp [e]
    exact rtL_of hQ
/-! ### a plan, made -/
structure Pl where
  x : Dsc
  fs : List Nat
  w : Nat
structure Pl.Ok (p : Pl) : Prop where
  x : p.x.Ok
  f : ∀ f ∈ p.fs, f < p.x.files.length
  nd : p.fs.Nodup
  ne : p.fs ≠ []
  few : p.fs.length ≤ 64
  w : 1 ≤ p.w ∧ p.w ≤ 1000
/-- the plan's object, at the place t -/
def Pl.o (p : Pl) (t : Int) : OV := .ins cs_Plan [p.x.d, .tup (natsD p.fs), .int p.w, .int t, .lst (natsD (wantL p.x p.fs))]
theorem l_plan {p : Pl} (h : p.Ok) {a : Addr} (ha : O a = none) (hQ : Q .non (put O a (p.o 0))) : fs_Plan___init__ [.ref a, p.x.d, .tup (natsD p.fs), .int p.w] (put O a (.ins cs_Plan [])) Q E := by
  have e1 : ¬ (p.w : Int) < 1 := by have := h.w; omega
  have e2 : ¬ (1000 : Int) < p.w := by have := h.w; omega
  simp -dsimp [fs_Plan___init__, w_Plan___init__]
  refine l_check_ok h.x ?_
  refine l_are_files h.f h.nd h.ne h.few ?_
  simp -dsimp
  refine l_int ?_
  simp -dsimp [e1, e2, setF]
  refine l_all_wanted h.x h.f h.few (p := a) (rest := [.int p.w, .int 0]) (by simp -dsimp) ?_
  simp -dsimp
  refine rtL_of ?_
  rw [put_put]
  exact hQ
/-! ### its methods -/
variable {p : Pl} {a : Addr} {t : Int}
def Pl.lens (p : Pl) : List Int := p.fs.map fun f => p.x.lens.getD f 0
def Pl.total (p : Pl) : Int := p.lens.sum
theorem file_at {x : Dsc} {f : Nat} (hf : f < x.files.length) : atI (x.files.map fileD) (f : Int) = some (fileD (x.files.getD f ([], 0))) := by
  refine atI_at f rfl ?_
  rw [List.getElem?_map, List.getD_eq_getElem?_getD, List.getElem?_eq_getElem hf]
  rfl
theorem len_at {x : Dsc} {f : Nat} (hf : f < x.files.length) : (x.files.getD f ([], 0)).2 = x.lens.getD f 0 := by
  unfold Dsc.lens
  rw [List.getD_eq_getElem?_getD, List.getD_eq_getElem?_getD, List.getElem?_map, List.getElem?_eq_getElem hf]
  rfl
def natI : D → Nat
  | .int i => i.toNat
  | _ => 0
theorem l_move {u : Int} (hO : O a = some (p.o t)) (hQ : Q .non (put O a (p.o u))) : fs_Plan_move [.ref a, .int u] O Q E := by
  simp -dsimp [fs_Plan_move, w_Plan_move, hO, Pl.o, setF]
  refine rtL_of ?_
  exact hQ
end
end Sw

set_option maxRecDepth 100000
set_option maxHeartbeats 4000000
namespace Sw
open PySem PySem.Spec PyProof.Rows L2
/-! ### lists of ints, kept shut -/
def intL (l : List Int) : List D := l.map .int
@[simp] theorem intL_length {l : List Int} : (intL l).length = l.length := by unfold intL; rw [List.length_map]
@[simp] theorem intL_flat {l : List Int} : (intL l).all flatD = true := all_flat l
@[simp] theorem intL_flat2 {l : List Int} : (∀ x, x ∈ intL l → flatD x = true) ↔ True := ⟨fun _ => trivial, fun _ x hx => List.all_eq_true.mp intL_flat x hx⟩
@[simp] theorem intL_in {l : List Int} {k : Int} : inD (.int k) (intL l) = decide (k ∈ l) := inD_ints k l
theorem intL_get {l : List Int} {i : Nat} {d : D} (h : (intL l)[i]? = some d) : ∃ n, l[i]? = some n ∧ d = .int n := ints_get h
theorem intL_snoc {l : List Int} {k : Int} : intL l ++ [.int k] = intL (l ++ [k]) := by
  unfold intL
  rw [List.map_append]
  rfl
theorem intL_app {l m : List Int} : intL l ++ intL m = intL (l ++ m) := by
  unfold intL
  rw [List.map_append]
@[simp] theorem intL_nil : intL [] = [] := rfl
@[simp] theorem intsD_L {l : List Int} : intsD (intL l) = some l := intsD_map l
theorem intL_at {l : List Int} {i : Nat} {n : Int} (h : l[i]? = some n) : atI (intL l) (i : Int) = some (.int n) := by
  refine atI_at i rfl ?_
  unfold intL
  rw [List.getElem?_map, h]
  rfl
theorem intL_take {l : List Int} {n : Nat} : (intL l).take n = intL (l.take n) := by
  unfold intL
  rw [List.map_take]
theorem intL_drop {l : List Int} {n : Nat} : (intL l).drop n = intL (l.drop n) := by
  unfold intL
  rw [List.map_drop]
/-- lo .. hi - 1 -/
def rgI (lo hi : Int) : List Int := (List.range (hi - lo).toNat).map fun i => lo + (i : Nat)
theorem rgD_I {lo hi : Int} : rgD lo hi = intL (rgI lo hi) := by
  unfold rgD intL rgI
  rw [List.map_map]
  rfl
theorem rgI_len {lo hi : Int} : (rgI lo hi).length = (hi - lo).toNat := by
  unfold rgI
  rw [List.length_map, List.length_range]
theorem foldl_take {α β : Type} {f : β → α → β} {b : β} {l : List α} {i : Nat} {a : α} (h : l[i]? = some a) : (l.take (i + 1)).foldl f b = f ((l.take i).foldl f b) a := by
  rw [List.take_add_one, h, List.foldl_append]
  rfl
theorem foldl_all {α β : Type} {f : β → α → β} {b : β} {l : List α} : (l.take l.length).foldl f b = l.foldl f b := by
  rw [List.take_of_length_le (Nat.le_refl _)]
theorem sl_lt {n : Nat} (h : n < 16777216) : n < sizeLine := by
  rw [sizeLine_eq]
  omega
section
variable {O : OS} {Q : QD} {E : XW} {p : Pl} {a : Addr} {t : Int}
theorem sum_intL {l : List Int} (hQ : Q (.int l.sum) O) : rSumD [.lst (intL l)] O Q := ⟨_, _, rfl, intsD_L, hQ⟩
/-! ### _starts -/
abbrev Trip := Int × Int × Int
def tripD (x : Trip) : D := .tup [.int x.1, .int x.2.1, .int x.2.2]
def tripL (l : List Trip) : List D := l.map tripD
@[simp] theorem tripL_length {l : List Trip} : (tripL l).length = l.length := by unfold tripL; rw [List.length_map]
theorem tripL_get {l : List Trip} {i : Nat} {d : D} (h : (tripL l)[i]? = some d) : ∃ n, l[i]? = some n ∧ d = tripD n := by
  unfold tripL at h
  rw [List.getElem?_map] at h
  obtain ⟨n, hn, rfl⟩ := Option.map_eq_some_iff.mp h
  exact ⟨n, hn, rfl⟩
theorem tripL_snoc {l : List Trip} {k : Trip} : tripL l ++ [tripD k] = tripL (l ++ [k]) := by
  unfold tripL
  rw [List.map_append]
  rfl
def Pl.here (p : Pl) (j : Nat) : Int := (p.lens.take j).sum
def Pl.trip (p : Pl) (j : Nat) : Trip := (p.here j, stI p.x.lens (p.fs.getD j 0), p.x.lens.getD (p.fs.getD j 0) 0)
def Pl.trips (p : Pl) : List Trip := (List.range p.fs.length).map p.trip
def sndD : D → D
  | .tup [_, x] => x
  | d => d
theorem lens_D {x : Dsc} : (x.files.map fileD).map sndD = intL x.lens := by
  unfold intL Dsc.lens
  rw [List.map_map, List.map_map]
  rfl
theorem lens_len {x : Dsc} : x.lens.length = x.files.length := by unfold Dsc.lens; rw [List.length_map]
theorem lens_get {x : Dsc} {f : Nat} (hf : f < x.files.length) : x.lens[f]? = some (x.lens.getD f 0) := by
  rw [List.getD_eq_getElem?_getD, List.getElem?_eq_getElem (by rw [lens_len]; exact hf)]
  rfl
theorem here_succ {j f : Nat} (h : p.fs[j]? = some f) : p.here (j + 1) = p.here j + p.x.lens.getD f 0 := by
  unfold Pl.here
  refine starts_snoc ?_
  unfold Pl.lens
  rw [List.getElem?_map, h]
  rfl
theorem l_starts (h : p.Ok) (hO : O a = some (p.o t)) (hQ : Q (.lst (tripL p.trips)) O) : fs_Plan__starts [.ref a] O Q E := by
  simp -dsimp [fs_Plan__starts, w_Plan__starts]
  intro q hq
  have hpq : a ≠ q := fun e => by
    rw [e, hq] at hO
    cases hO
  simp -dsimp [put_ne hpq, hO, Pl.o, Dsc.d]
  refine lc_map (f := sndD) _ _ (fun d hd P hP => ?_) trivial (by simp -dsimp; exact sl_big (by have := h.x.few; omega)) ?_
  · obtain ⟨f, hf, rfl⟩ := List.mem_map.mp hd
    simp -dsimp [wipeD, fileD]
    exact hP
  · rw [List.nil_append, lens_D]
    simp -dsimp [put_ne hpq, hO, Pl.o]
    refine for_inv (I := fun j η O' => O' = put O q (.ml (tripL ((List.range j).map p.trip))) ∧ ∃ c d e, η = [some (.ref a), some (.ref q), some (.int (p.here j)), some (.lst (intL p.x.lens)), c, d, e]) _ (fun _ _ _ _ => trivial) (fun j d η O' hd hI N hN => ?_) ⟨rfl, _, _, _, rfl⟩ (fun η O' hI => ?_)
    · obtain ⟨rfl, c, d', e, rfl⟩ := hI
      obtain ⟨f, hf, rfl⟩ := natsD_get hd
      have hlt := h.f f (List.mem_of_getElem? hf)
      have hj := (List.getElem?_eq_some_iff.mp hf).1
      have eg := intL_at (lens_get hlt)
      have ef : p.fs.getD j 0 = f := by rw [List.getD_eq_getElem?_getD, hf]; rfl
      simp -dsimp [intL_take]
      refine sum_intL ?_
      simp -dsimp [eg]
      refine ⟨sl_lt (by have := h.few; omega), ?_⟩
      have et : D.tup [.int (p.here j), .int (p.x.lens.take f).sum, .int (p.x.lens.getD f 0)] = tripD (p.trip j) := by
        unfold Pl.trip stI tripD
        rw [ef]
      simp -dsimp at et
      rw [et, tripL_snoc]
      have eh : p.here j + p.x.lens[f]?.getD 0 = p.here (j + 1) := by rw [here_succ hf, List.getD_eq_getElem?_getD]
      rw [eh]
      exact hN _ _ ⟨by rw [range_map_succ], _, _, _, rfl⟩
    · obtain ⟨rfl, c, d, e, rfl⟩ := hI
      simp -dsimp
      rw [cut_put hq]
      refine rtL_of ?_
      simpa [Pl.trips] using hQ
/-! ### at -/
def atStep (u : Int) (s : Int) (r : Trip) : Int := if r.1 ≤ u ∧ u < r.1 + r.2.2 then r.2.1 + u - r.1 else s
def Pl.spot (p : Pl) (u : Int) : Int := p.trips.foldl (atStep u) 0
theorem CDiv_of {i j : Int} (h : 4 ≤ j ∧ j ≤ 65536) : CDiv i j := ⟨by omega, by omega⟩
/-! ### ahead -/
def addNew (w : Nat) (l : List Int) (k : Int) : List Int := if k ∉ l ∧ l.length < w then l ++ [k] else l
def idxs (z : Int) (lo hi : Int) : List Int := rgI (lo / z) (hi / z + 1)
def ahStep (z : Int) (w : Nat) (t : Int) (l : List Int) (r : Trip) : List Int := if 0 < r.2.2 ∧ t < r.1 + r.2.2 then (idxs z (r.2.1 + if r.1 < t then t - r.1 else 0) (r.2.1 + r.2.2 - 1)).foldl (addNew w) l else l
def Pl.ahead (p : Pl) (t : Int) : List Int := p.trips.foldl (ahStep p.x.size p.w t) []
theorem addNew_len {w : Nat} {l : List Int} {k : Int} (h : l.length ≤ w) : (addNew w l k).length ≤ w := by
  unfold addNew
  split
  · rename_i h2
    rw [List.length_append, List.length_singleton]
    omega
  · exact h
theorem addNews_len {w : Nat} : ∀ {ks l : List Int}, l.length ≤ w → (ks.foldl (addNew w) l).length ≤ w
  | [], _, h => h
  | _ :: _, _, h => by
    rw [List.foldl_cons]
    exact addNews_len (addNew_len h)
theorem ahStep_len {z : Int} {w : Nat} {t : Int} {l : List Int} {r : Trip} (h : l.length ≤ w) : (ahStep z w t l r).length ≤ w := by
  unfold ahStep
  split
  · exact addNews_len h
  · exact h
theorem ahSteps_len {z : Int} {w : Nat} {t : Int} : ∀ {rs : List Trip} {l : List Int}, l.length ≤ w → (rs.foldl (ahStep z w t) l).length ≤ w
  | [], _, h => h
  | _ :: _, _, h => by
    rw [List.foldl_cons]
    exact ahSteps_len (ahStep_len h)
/-- what the trips say of numbers: they stay small -/
theorem l_ahead (h : p.Ok) (hO : O a = some (p.o t)) (small : ∀ r ∈ p.trips, 0 ≤ r.1 ∧ r.1 < 2 ^ 50 ∧ 0 ≤ r.2.1 ∧ r.2.1 < 2 ^ 50 ∧ r.2.2 < 2 ^ 50) (ht : 0 ≤ t ∧ t < 2 ^ 50) (hQ : Q (.tup (intL (p.ahead t))) O) : fs_Plan_ahead [.ref a] O Q E := by
  have hz := sizeOk_le h.x.size
  have hw := h.w
  simp -dsimp [fs_Plan_ahead, w_Plan_ahead]
  intro q hq
  have hpq : a ≠ q := fun e => by
    rw [e, hq] at hO
    cases hO
  simp -dsimp [put_ne hpq, hO, Pl.o, Dsc.d]
  refine l_starts h (by rw [put_ne hpq]; exact hO) ?_
  simp -dsimp
  refine for_inv (I := fun j η O' => O' = put O q (.ml (intL ((p.trips.take j).foldl (ahStep p.x.size p.w t) []))) ∧ ∃ c d e f g, η = [some (.ref a), some (.ref q), some (.int p.x.size), c, d, e, f, g]) _ (fun _ _ _ _ => trivial) (fun j d η O' hd hI N hN => ?_) ⟨rfl, _, _, _, _, _, rfl⟩ (fun η O' hI => ?_)
  · obtain ⟨rfl, c, d', e, f, g, rfl⟩ := hI
    obtain ⟨r, hr, rfl⟩ := tripL_get hd
    have sm := small r (List.mem_of_getElem? hr)
    have hl : ((p.trips.take j).foldl (ahStep p.x.size p.w t) []).length ≤ p.w := ahSteps_len (Nat.zero_le _)
    have go : ∀ η', (∃ c d e f g, η' = [some (.ref a), some (.ref q), some (.int p.x.size), c, d, e, f, g]) → N η' (put O q (.ml (intL (ahStep p.x.size p.w t ((p.trips.take j).foldl (ahStep p.x.size p.w t) []) r)))) := fun η' hη => hN _ _ ⟨by rw [foldl_take hr], hη⟩
    generalize (p.trips.take j).foldl (ahStep p.x.size p.w t) [] = l at hl go
    simp -dsimp [tripD]
    by_cases h1 : 0 < r.2.2
    · by_cases h2 : t < r.1 + r.2.2
      · simp -dsimp [h1, h2, put_ne hpq, hO, Pl.o]
        have hF : 0 ≤ (if r.1 < t then t - r.1 else 0) ∧ (if r.1 < t then t - r.1 else 0) < 2 ^ 50 := by split <;> omega
        have eS : ahStep p.x.size p.w t l r = (idxs p.x.size (r.2.1 + if r.1 < t then t - r.1 else 0) (r.2.1 + r.2.2 - 1)).foldl (addNew p.w) l := by unfold ahStep; rw [if_pos ⟨h1, h2⟩]
        rw [eS] at go
        unfold idxs at go
        generalize (if r.1 < t then t - r.1 else 0) = m at hF go ⊢
        have z1 : 0 < p.x.size := by omega
        have q1 := Int.ediv_nonneg (a := r.2.1 + m) (b := p.x.size) (by omega) (by omega)
        have q2 : (r.2.1 + m) / p.x.size ≤ r.2.1 + m := Int.ediv_le_self _ (by omega)
        have q3 := Int.ediv_nonneg (a := r.2.1 + r.2.2 - 1) (b := p.x.size) (by omega) (by omega)
        have q4 : (r.2.1 + r.2.2 - 1) / p.x.size ≤ r.2.1 + r.2.2 - 1 := Int.ediv_le_self _ (by omega)
        refine ⟨CDiv_of hz, CDiv_of hz, ⟨by omega, by omega, by omega, by omega⟩, ?_⟩
        rw [rgD_I]
        generalize rgI ((r.2.1 + m) / p.x.size) ((r.2.1 + r.2.2 - 1) / p.x.size + 1) = ks at go
        refine for_inv (I := fun k η O' => O' = put O q (.ml (intL ((ks.take k).foldl (addNew p.w) l))) ∧ ∃ g, η = [some (.ref a), some (.ref q), some (.int p.x.size), some (.int r.1), some (.int r.2.1), some (.int r.2.2), some (.int (r.2.1 + m)), g]) _ (fun _ _ _ _ => trivial) (fun k d η O' hd hI N' hN' => ?_) ⟨rfl, _, rfl⟩ (fun η O' hI => ?_)
        · obtain ⟨rfl, g, rfl⟩ := hI
          obtain ⟨n, hn, rfl⟩ := intL_get hd
          have hl2 : ((ks.take k).foldl (addNew p.w) l).length ≤ p.w := addNews_len hl
          have go2 : ∀ η', (∃ g, η' = [some (.ref a), some (.ref q), some (.int p.x.size), some (.int r.1), some (.int r.2.1), some (.int r.2.2), some (.int (r.2.1 + m)), g]) → N' η' (put O q (.ml (intL (addNew p.w ((ks.take k).foldl (addNew p.w) l) n)))) := fun η' hη => hN' _ _ ⟨by rw [foldl_take hn], hη⟩
          generalize (ks.take k).foldl (addNew p.w) l = l2 at hl2 go2
          simp -dsimp
          by_cases k1 : n ∈ l2
          · simp -dsimp [k1]
            simpa [addNew, k1] using go2 _ ⟨_, rfl⟩
          · by_cases k2 : l2.length < p.w
            · simp -dsimp [k1, k2, put_ne hpq, hO, Pl.o]
              refine ⟨sl_lt (by omega), ?_⟩
              rw [intL_snoc]
              simpa [addNew, k1, k2] using go2 _ ⟨_, rfl⟩
            · simp -dsimp [k1, k2, put_ne hpq, hO, Pl.o]
              simpa [addNew, k1, k2] using go2 _ ⟨_, rfl⟩
        · obtain ⟨rfl, g, rfl⟩ := hI
          rw [intL_length, foldl_all]
          exact go _ ⟨_, _, _, _, _, rfl⟩
      · simp -dsimp [h1, h2, put_ne hpq, hO, Pl.o]
        simpa [ahStep, h1, h2] using go _ ⟨_, _, _, _, _, rfl⟩
    · simp -dsimp [h1]
      simpa [ahStep, h1] using go _ ⟨_, _, _, _, _, rfl⟩
  · obtain ⟨rfl, c, d, e, f, g, rfl⟩ := hI
    rw [tripL_length, foldl_all]
    simp -dsimp
    exact rtL_put hq hQ
end
end Sw

set_option maxRecDepth 100000
set_option maxHeartbeats 4000000
namespace Sw
open PySem PySem.Spec PyProof.Rows L2
section
variable {O : OS} {Q : QD} {E : XW}
/-! ### the law's description -/
def cellOf (ns : List Int) (k : Nat) : Nat := (ns.getD k 0).natAbs
theorem abs_nat (i : Int) : (if i < 0 then -i else i) = (i.natAbs : Int) := by
  split <;> omega
def szOf (n : Nat) : Int := if n % 3 = 1 then 8 else 4
def lenOf (n k : Nat) : Int := match n / (12 + 5 * k) % 6 with
  | 0 => 0
  | 1 => 1
  | 2 => szOf n
  | 3 => 3
  | 4 => 2 * szOf n + 1
  | _ => 7
def nfOf (n : Nat) : Nat := 1 + n / 3 % 4
def rawF (n : Nat) (k : Nat) : Path × Int := ([[97 + (k : Int)]], lenOf n k)
def rawFs (n m : Nat) : List (Path × Int) := (List.range m).map (rawF n)
def rawT (n m : Nat) : Int := ((rawFs n m).map (·.2)).sum
def filesOf (n : Nat) : List (Path × Int) := if rawT n (nfOf n) = 0 then (rawFs n (nfOf n)).set 0 ([[97]], 3) else rawFs n (nfOf n)
def descOf (n : Nat) : Dsc := ⟨[110], cs_sum, 2, szOf n, filesOf n, [1, 2]⟩
theorem szOf_at (n : Nat) : atI [D.int 4, D.int 8, D.int 4] ((n : Int) % 3) = some (.int (szOf n)) := by
  have h : n % 3 = 0 ∨ n % 3 = 1 ∨ n % 3 = 2 := by omega
  unfold szOf
  rcases h with h | h | h
  · have e : (n : Int) % 3 = 0 := by omega
    rw [e, h]
    simp -dsimp
  · have e : (n : Int) % 3 = 1 := by omega
    rw [e, h]
    simp -dsimp
  · have e : (n : Int) % 3 = 2 := by omega
    rw [e, h]
    simp -dsimp
theorem szOf_or (n : Nat) : szOf n = 4 ∨ szOf n = 8 := by
  unfold szOf
  split <;> simp -dsimp
theorem lenOf_at (n k : Nat) : atI [D.int 0, D.int 1, D.int (szOf n), D.int 3, D.int (2 * szOf n + 1), D.int 7] ((n : Int) / (12 + 5 * k) % 6) = some (.int (lenOf n k)) := by
  have e0 : (n : Int) / (12 + 5 * k) % 6 = ((n / (12 + 5 * k) % 6 : Nat) : Int) := by push_cast; rfl
  rw [e0]
  unfold lenOf
  have h : n / (12 + 5 * k) % 6 < 6 := Nat.mod_lt _ (by omega)
  generalize n / (12 + 5 * k) % 6 = m at h
  match m, h with
  | 0, _ => simp -dsimp
  | 1, _ => simp -dsimp
  | 2, _ => simp -dsimp
  | 3, _ => simp -dsimp
  | 4, _ => simp -dsimp
  | 5, _ => simp -dsimp
theorem lenOf_le (n k : Nat) : 0 ≤ lenOf n k ∧ lenOf n k ≤ 17 := by
  have h := szOf_or n
  unfold lenOf
  split <;> omega
theorem rawFs_succ (n m : Nat) : rawFs n (m + 1) = rawFs n m ++ [rawF n m] := range_map_succ m (rawF n)
theorem rawT_succ (n m : Nat) : rawT n (m + 1) = rawT n m + lenOf n m := by
  unfold rawT
  rw [rawFs_succ, List.map_append, List.sum_append]
  simp -dsimp [rawF]
def fileL (l : List (Path × Int)) : List D := l.map fileD
theorem fileL_snoc {l : List (Path × Int)} {k : Path × Int} : fileL l ++ [fileD k] = fileL (l ++ [k]) := by
  unfold fileL
  rw [List.map_append]
  rfl
@[simp] theorem fileL_length {l : List (Path × Int)} : (fileL l).length = l.length := by unfold fileL; rw [List.length_map]
theorem rawFs_len (n m : Nat) : (rawFs n m).length = m := by unfold rawFs; rw [List.length_map, List.length_range]
theorem rawF_D (n k : Nat) : D.tup [.tup [.tup [.int (97 + (k : Int))]], .int (lenOf n k)] = fileD (rawF n k) := rfl
theorem nfOf_le (n : Nat) : 1 ≤ nfOf n ∧ nfOf n ≤ 4 := by
  unfold nfOf
  omega
theorem l_desc {n : Nat} (hQ : Q (descOf n).d O) : fs__law_description [.int n] O Q E := by
  have hz := szOf_or n
  have hnf := nfOf_le n
  have enf : (1 : Int) + (n : Int) / 3 % 4 = (nfOf n : Int) := by unfold nfOf; omega
  simp -dsimp [fs__law_description, w__law_description, szOf_at, enf]
  intro q hq
  refine ⟨⟨by omega, by omega⟩, by omega, ?_⟩
  refine for_inv (I := fun k η O' => O' = put O q (.ml (fileL (rawFs n k))) ∧ ∃ c d, η = [some (.int n), some (.int (szOf n)), some (.ref q), some (.int (rawT n k)), c, d]) _ (fun _ _ _ _ => trivial) (fun k d η O' hd hI N hN => ?_) ⟨rfl, _, _, rfl⟩ (fun η O' hI => ?_)
  · obtain ⟨rfl, c, d', rfl⟩ := hI
    obtain ⟨rfl, hk⟩ := rgD_get hd
    have hk : k < 4 := by omega
    simp -dsimp [lenOf_at, rawF_D, fileL_snoc, rawFs_len]
    refine ⟨cmul_left (by omega) (by omega), cmul_left (by omega) (by omega), ⟨by omega, by omega⟩, sl_lt (by omega), ?_⟩
    refine hN _ _ ⟨by rw [rawFs_succ], _, _, by rw [rawT_succ]⟩
  · obtain ⟨rfl, c, d, rfl⟩ := hI
    simp -dsimp
    rw [rgD_len, show ((nfOf n : Int) - 0).toNat = nfOf n by omega]
    have fin : ∀ l, D.tup l = D.tup (fileL (filesOf n)) → rtL Q (D.tup [D.tup [.int 110], D.tup [.str cs_sum, .int 2], .int (szOf n), .tup l, D.tup [.int 1, .int 2]]) (put O q (.ml l)) := fun l e => by
      have e2 : D.tup [D.tup [.int 110], D.tup [.str cs_sum, .int 2], .int (szOf n), .tup l, D.tup [.int 1, .int 2]] = (descOf n).d := by rw [e]; rfl
      rw [e2]
      exact rtL_put hq hQ
    by_cases e0 : rawT n (nfOf n) = 0
    · obtain ⟨m, hm⟩ : ∃ m, nfOf n = m + 1 := ⟨nfOf n - 1, by omega⟩
      have e1 : rawFs n (nfOf n) = rawF n 0 :: (List.range m).map (fun k => rawF n (k + 1)) := by
        rw [hm]
        unfold rawFs
        rw [List.range_succ_eq_map, List.map_cons, List.map_map]
        rfl
      have e2 : fileL (rawFs n (nfOf n)) = fileD (rawF n 0) :: fileL ((List.range m).map fun k => rawF n (k + 1)) := by
        rw [e1]
        rfl
      simp -dsimp [e0, e2, fileD, rawF, ixN]
      rw [put_put]
      refine fin _ ?_
      have e3 : filesOf n = ([[97]], 3) :: (List.range m).map (fun k => rawF n (k + 1)) := by
        unfold filesOf
        rw [if_pos e0, e1]
        rfl
      rw [e3]
      rfl
    · simp -dsimp [e0]
      refine fin _ ?_
      have e3 : filesOf n = rawFs n (nfOf n) := by
        unfold filesOf
        rw [if_neg e0]
      rw [e3]
end
/-! ### it is one -/
theorem path_ok {k : Nat} (h : k < 4) : pathOk [[97 + (k : Int)]] = true := by
  match k, h with
  | 0, _ => decide +kernel
  | 1, _ => decide +kernel
  | 2, _ => decide +kernel
  | 3, _ => decide +kernel
theorem filesOf_len (n : Nat) : (filesOf n).length = nfOf n := by
  unfold filesOf
  split
  · rw [List.length_set, rawFs_len]
  · rw [rawFs_len]
theorem rawFs_get {n m k : Nat} (h : k < m) : (rawFs n m)[k]? = some (rawF n k) := by
  unfold rawFs
  rw [List.getElem?_map, List.getElem?_range h]
  rfl
theorem filesOf_get {n k : Nat} (h : k < nfOf n) : ∃ l, (filesOf n)[k]? = some ([[97 + (k : Int)]], l) ∧ 0 ≤ l ∧ l ≤ 17 := by
  unfold filesOf
  split
  · by_cases hk : k = 0
    · subst hk
      exact ⟨3, by rw [List.getElem?_set_self (by rw [rawFs_len]; exact h)]; rfl, by omega, by omega⟩
    · rw [List.getElem?_set_ne (Ne.symm hk), rawFs_get h]
      exact ⟨_, rfl, lenOf_le n k⟩
  · rw [rawFs_get h]
    exact ⟨_, rfl, lenOf_le n k⟩
theorem sum_bound {l : List Int} (h : ∀ i ∈ l, 0 ≤ i ∧ i ≤ 17) : 0 ≤ l.sum ∧ l.sum ≤ 17 * l.length := by
  induction l with
  | nil => simp -dsimp
  | cons a l ih =>
    have h1 := h a (List.mem_cons_self ..)
    have h2 := ih fun i hi => h i (List.mem_cons_of_mem _ hi)
    rw [List.sum_cons, List.length_cons]
    push_cast
    omega
theorem desc_lens (n : Nat) : ∀ l ∈ (descOf n).lens, 0 ≤ l ∧ l ≤ 17 := fun l hl => by
  obtain ⟨f, hf, rfl⟩ := List.mem_map.mp hl
  obtain ⟨k, hk, e⟩ := List.mem_iff_getElem.mp hf
  have hk' : k < nfOf n := by
    have : (descOf n).files.length = nfOf n := filesOf_len n
    omega
  obtain ⟨l, h1, h2, h3⟩ := filesOf_get hk'
  have e2 : (descOf n).files[k]? = some f := by rw [List.getElem?_eq_getElem hk, e]
  have e3 : (descOf n).files[k]? = some ([[97 + (k : Int)]], l) := h1
  rw [e3] at e2
  cases e2
  exact ⟨h2, h3⟩
theorem desc_total (n : Nat) : 1 ≤ (descOf n).total ∧ (descOf n).total ≤ 68 := by
  have hb := sum_bound (desc_lens n)
  have hl : (descOf n).lens.length = nfOf n := by rw [lens_len]; exact filesOf_len n
  have hn := nfOf_le n
  have e : (descOf n).total = (descOf n).lens.sum := rfl
  rw [e]
  refine ⟨?_, by rw [hl] at hb; omega⟩
  by_cases h : rawT n (nfOf n) = 0
  · obtain ⟨m, hm⟩ : ∃ m, nfOf n = m + 1 := ⟨nfOf n - 1, by omega⟩
    have e1 : rawFs n (nfOf n) = rawF n 0 :: (List.range m).map (fun k => rawF n (k + 1)) := by
      rw [hm]
      unfold rawFs
      rw [List.range_succ_eq_map, List.map_cons, List.map_map]
      rfl
    have e3 : (descOf n).lens = 3 :: ((List.range m).map (fun k => rawF n (k + 1))).map (·.2) := by
      show ((filesOf n).map (·.2)) = _
      unfold filesOf
      rw [if_pos h, e1]
      rfl
    rw [e3, List.sum_cons]
    have : 0 ≤ (((List.range m).map (fun k => rawF n (k + 1))).map (·.2)).sum := (sum_bound (l := ((List.range m).map (fun k => rawF n (k + 1))).map (·.2)) fun i hi => by
      rw [List.map_map] at hi
      obtain ⟨k, _, rfl⟩ := List.mem_map.mp hi
      exact lenOf_le n _).1
    omega
  · have e3 : (descOf n).lens.sum = rawT n (nfOf n) := by
      show ((filesOf n).map (·.2)).sum = _
      unfold filesOf
      rw [if_neg h]
      rfl
    omega
theorem desc_ok (n : Nat) : (descOf n).Ok where
  name := by
    show nameOk [110] = true
    decide +kernel
  kind := by
    show kindOk cs_sum 2 = true
    decide +kernel
  size := by
    show sizeOk (szOf n) = true
    rcases szOf_or n with h | h <;> rw [h] <;> decide +kernel
  few := by
    have h : (descOf n).files.length = nfOf n := filesOf_len n
    have := nfOf_le n
    omega
  files := fun f hf => by
    obtain ⟨k, hk, e⟩ := List.mem_iff_getElem.mp hf
    have hk' : k < nfOf n := by
      have : (descOf n).files.length = nfOf n := filesOf_len n
      omega
    obtain ⟨l, h1, h2, h3⟩ := filesOf_get hk'
    have e2 : (descOf n).files[k]? = some f := by rw [List.getElem?_eq_getElem hk, e]
    have e3 : (descOf n).files[k]? = some ([[97 + (k : Int)]], l) := h1
    rw [e3] at e2
    cases e2
    have := nfOf_le n
    simp -dsimp [fileOk, path_ok (k := k) (by omega)]
    omega
  apart := fun i j p q hij hp hq => by
    have key : ∀ (i : Nat) (p : Path), ((descOf n).files.map (·.1))[i]? = some p → p = [[97 + (i : Int)]] := fun i p h => by
      rw [List.getElem?_map] at h
      obtain ⟨f, hf, rfl⟩ := Option.map_eq_some_iff.mp h
      have hi := (List.getElem?_eq_some_iff.mp hf).1
      have hi' : i < nfOf n := by
        have : (descOf n).files.length = nfOf n := filesOf_len n
        omega
      obtain ⟨l, h1, _⟩ := filesOf_get hi'
      have e3 : (descOf n).files[i]? = some ([[97 + (i : Int)]], l) := h1
      rw [hf] at e3
      cases e3
      rfl
    rw [key i p hp, key j q hq]
    intro e
    simp -dsimp at e
    omega
  total := by
    have h := desc_total n
    have hz : (descOf n).size = szOf n := rfl
    rcases szOf_or n with e | e <;> rw [hz, e] <;> omega
  root := by
    show [1, 2].all octI = true
    decide +kernel
  rootn := rfl
end Sw

set_option maxRecDepth 100000
set_option maxHeartbeats 4000000
namespace Sw
open PySem PySem.Spec PyProof.Rows L2
section
variable {O : OS} {Q : QD} {E : XW}
/-! ### the law's starts, stream, count -/
theorem fileL_get {l : List (Path × Int)} {i : Nat} {d : D} (h : (fileL l)[i]? = some d) : ∃ n, l[i]? = some n ∧ d = fileD n := by
  unfold fileL at h
  rw [List.getElem?_map] at h
  obtain ⟨n, hn, rfl⟩ := Option.map_eq_some_iff.mp h
  exact ⟨n, hn, rfl⟩
theorem l_lstarts {x : Dsc} (h : x.files.length ≤ 64) (hQ : Q (.lst (intL (startsOf x.lens))) O) : fs__law_starts [x.d] O Q E := by
  simp -dsimp [fs__law_starts, w__law_starts, Dsc.d]
  intro p hp
  refine for_inv (I := fun i η O' => O' = put O p (.ml (intL ((List.range (i + 1)).map fun k => (x.lens.take k).sum))) ∧ ∃ a, η = [some x.d, some (.ref p), a]) _ (fun _ _ _ _ => trivial) (fun i d η O' hd hI N hN => ?_) ⟨by simp -dsimp [put, intL], _, rfl⟩ (fun η O' hI => ?_)
  · obtain ⟨rfl, a, rfl⟩ := hI
    rw [List.getElem?_map] at hd
    obtain ⟨f, hf, rfl⟩ := Option.map_eq_some_iff.mp hd
    have hi := (List.getElem?_eq_some_iff.mp hf).1
    have e : x.lens[i]? = some f.2 := by unfold Dsc.lens; rw [List.getElem?_map, hf]; rfl
    rw [range_map_succ, ← intL_snoc]
    simp -dsimp [fileD, atI_last1]
    refine ⟨sl_lt (by omega), hN _ _ ⟨?_, _, rfl⟩⟩
    rw [range_map_succ (i + 1), range_map_succ i, starts_snoc e]
    simp -dsimp [intL]
  · obtain ⟨rfl, a, rfl⟩ := hI
    simp -dsimp
    rw [cut_put hp]
    refine rtL_of ?_
    have e : x.files.length = x.lens.length := by rw [lens_len]
    rw [e]
    exact hQ
def streamOf (L : List Int) (fs : List Nat) : List Int := fs.flatMap fun f => rgI (stI L f) (stI L (f + 1))
theorem startsL_get {L : List Int} {i : Nat} (h : i ≤ L.length) : atI (intL (startsOf L)) (i : Int) = some (.int (stI L i)) := intL_at (startsOf_get h)
theorem startsL_get1 {L : List Int} {i : Nat} (h : i + 1 ≤ L.length) : atI (intL (startsOf L)) ((i : Int) + 1) = some (.int (stI L (i + 1))) := intL_at (i := i + 1) (startsOf_get h)
theorem flat_succ {α β : Type} {l : List α} {i : Nat} {a : α} (f : α → List β) (h : l[i]? = some a) : (l.take (i + 1)).flatMap f = (l.take i).flatMap f ++ f a := by
  rw [List.take_add_one, h, List.flatMap_append]
  simp -dsimp
theorem l_stream {x : Dsc} (h : x.files.length ≤ 64) {fs : List Nat} (hf : ∀ f ∈ fs, f < x.files.length) (hs : ∀ i, i ≤ x.lens.length → 0 ≤ stI x.lens i ∧ stI x.lens i ≤ 2000) (hn : fs.length ≤ 64) (hQ : Q (.lst (intL (streamOf x.lens fs))) O) :
    fs__law_stream [x.d, .tup (natsD fs)] O Q E := by
  simp -dsimp [fs__law_stream, w__law_stream]
  refine l_lstarts h ?_
  have len : ∀ i, ((fs.take i).flatMap fun f => rgI (stI x.lens f) (stI x.lens (f + 1))).length ≤ 2000 * i := by
    intro i
    induction i with
    | zero => simp -dsimp
    | succ i ih =>
      by_cases hi : i < fs.length
      · have e : fs[i]? = some fs[i] := List.getElem?_eq_getElem hi
        rw [flat_succ _ e, List.length_append, rgI_len]
        have h1 := hf _ (List.getElem_mem hi)
        have h2 := hs (fs[i] + 1) (by rw [lens_len]; omega)
        have h3 := hs fs[i] (by rw [lens_len]; omega)
        omega
      · rw [List.take_of_length_le (by omega)]
        rw [List.take_of_length_le (by omega)] at ih
        omega
  refine for_inv (I := fun i η O' => O' = O ∧ ∃ a, η = [some x.d, some (.tup (natsD fs)), some (.lst (intL (startsOf x.lens))), some (.lst (intL ((fs.take i).flatMap fun f => rgI (stI x.lens f) (stI x.lens (f + 1))))), a]) _ (fun _ _ _ _ => trivial) (fun i d η O' hd hI N hN => ?_) ⟨rfl, _, rfl⟩ (fun η O' hI => ?_)
  · obtain ⟨rfl, a, rfl⟩ := hI
    obtain ⟨f, hf1, rfl⟩ := natsD_get hd
    have hlt := hf f (List.mem_of_getElem? hf1)
    have hl := len i
    have hi := (List.getElem?_eq_some_iff.mp hf1).1
    have h2 := hs (f + 1) (by rw [lens_len]; omega)
    have h3 := hs f (by rw [lens_len]; omega)
    simp -dsimp [startsL_get (L := x.lens) (i := f) (by rw [lens_len]; omega), startsL_get1 (L := x.lens) (i := f) (by rw [lens_len]; omega), rgD_I]
    refine ⟨.of_le (by omega) (by omega) (by omega) (by omega), sl_big ?_, ?_⟩
    · rw [rgI_len]
      simp -dsimp at hl
      omega
    · rw [intL_app]
      refine hN _ _ ⟨rfl, _, by rw [flat_succ _ hf1]⟩
  · obtain ⟨rfl, a, rfl⟩ := hI
    rw [natsD_length, List.take_of_length_le (Nat.le_refl _)]
    simp -dsimp
    exact rtL_of hQ
theorem l_lcount {x : Dsc} (h : x.files.length ≤ 64) (hz : 4 ≤ x.size ∧ x.size ≤ 65536) (hQ : Q (.int ((x.total + x.size - 1) / x.size)) O) : fs__law_count [x.d] O Q E := by
  simp -dsimp [fs__law_count, w__law_count]
  refine l_lstarts h ?_
  have e : atI (intL (startsOf x.lens)) (-1) = some (.int x.total) := by
    unfold startsOf
    rw [range_map_succ, ← intL_snoc, atI_last1, List.take_of_length_le (Nat.le_refl _)]
    rfl
  simp -dsimp [e, Dsc.d]
  exact ⟨CDiv_of hz, rtL_of hQ⟩
/-! ### the law's ahead, wanted -/
def addU (l : List Int) (k : Int) : List Int := if k ∉ l then l ++ [k] else l
theorem addU_len {l : List Int} {k : Int} : (addU l k).length ≤ l.length + 1 := by
  unfold addU
  split <;> simp -dsimp
theorem addUs_len : ∀ {ks l : List Int}, (ks.foldl addU l).length ≤ l.length + ks.length
  | [], _ => by simp -dsimp
  | k :: ks, l => by
    rw [List.foldl_cons, List.length_cons]
    have h1 := addUs_len (ks := ks) (l := addU l k)
    have h2 := addU_len (l := l) (k := k)
    omega
theorem cutL_to {l : List Int} {n : Nat} : cutD (intL l) none (some (n : Int)) = intL (l.take n) := by rw [cut_to, intL_take]
theorem cutL_from {l : List Int} {n : Nat} : cutD (intL l) (some (n : Int)) none = intL (l.drop n) := by rw [cut_from, intL_drop]
theorem l_lahead {x : Dsc} (hz : 4 ≤ x.size ∧ x.size ≤ 65536) {s : List Int} (hs : s.length ≤ 200000) {t w : Nat} (hQ : Q (.lst (intL ((((s.drop t).map (· / x.size)).foldl addU []).take w))) O) :
    fs__law_ahead [x.d, .lst (intL s), .int t, .int w] O Q E := by
  simp -dsimp [fs__law_ahead, w__law_ahead]
  intro q hq
  rw [intL_drop]
  have hl : (s.drop t).length ≤ 200000 := by rw [List.length_drop]; omega
  generalize hds : s.drop t = ds at hl hQ ⊢
  refine for_inv (I := fun i η O' => O' = put O q (.ml (intL (((ds.take i).map (· / x.size)).foldl addU []))) ∧ ∃ a b, η = [some x.d, some (.lst (intL s)), some (.int t), some (.int w), some (.ref q), a, b]) _ (fun _ _ _ _ => trivial) (fun i d η O' hd hI N hN => ?_) ⟨rfl, _, _, rfl⟩ (fun η O' hI => ?_)
  · obtain ⟨rfl, a, b, rfl⟩ := hI
    obtain ⟨n, hn, rfl⟩ := intL_get hd
    have hi := (List.getElem?_eq_some_iff.mp hn).1
    have hb := addUs_len (ks := (ds.take i).map (· / x.size)) (l := [])
    rw [List.length_map, List.length_take] at hb
    simp only [List.length_nil] at hb
    have hb : (((ds.take i).map (· / x.size)).foldl addU []).length ≤ 200000 := by omega
    have go : ∀ η', (∃ a b, η' = [some x.d, some (.lst (intL s)), some (.int t), some (.int w), some (.ref q), a, b]) → N η' (put O q (.ml (intL (addU (((ds.take i).map (· / x.size)).foldl addU []) (n / x.size))))) := fun η' hη => hN _ _ ⟨by
      have e : (ds.take (i + 1)).map (· / x.size) = (ds.take i).map (· / x.size) ++ [n / x.size] := by
        rw [List.take_add_one, hn, List.map_append]
        rfl
      rw [e, List.foldl_append]
      rfl, hη⟩
    generalize ((ds.take i).map (· / x.size)).foldl addU [] = l at hb go
    simp -dsimp
    refine ⟨CDiv_of hz, ?_⟩
    by_cases k1 : n / x.size ∈ l
    · simp -dsimp [k1]
      simpa [addU, k1] using go _ ⟨_, _, rfl⟩
    · simp -dsimp [k1]
      refine ⟨sl_lt (by omega), ?_⟩
      rw [intL_snoc]
      simpa [addU, k1] using go _ ⟨_, _, rfl⟩
  · obtain ⟨rfl, a, b, rfl⟩ := hI
    rw [intL_length, List.take_of_length_le (Nat.le_refl _)]
    simp -dsimp [cutL_to, intL_take]
    exact rtL_put hq hQ
def divD (z : Int) : D → D
  | .int i => .int (i / z)
  | d => d
def dv (z : Int) (s : List Int) : List Int := s.map (· / z)
def lwant (z : Int) (s : List Int) (c : Int) : List Int := (rgI 0 c).filter fun k => decide (k ∈ dv z s)
def intOf : D → Int
  | .int i => i
  | _ => 0
theorem l_lwanted {x : Dsc} (hn : x.files.length ≤ 64) (hz : 4 ≤ x.size ∧ x.size ≤ 65536) {s : List Int} (hs : s.length ≤ 200000) (hc : 0 ≤ (x.total + x.size - 1) / x.size ∧ (x.total + x.size - 1) / x.size ≤ 100000)
    (hQ : Q (.lst (intL (lwant x.size s ((x.total + x.size - 1) / x.size)))) O) : fs__law_wanted [x.d, .lst (intL s)] O Q E := by
  simp -dsimp [fs__law_wanted, w__law_wanted]
  refine l_lcount hn hz ?_
  simp -dsimp
  refine ⟨⟨by omega, by omega⟩, ?_⟩
  rw [rgD_I]
  have inner : ∀ {η : Sl} {P : QD}, slotAt η 0 = some x.d → 3 < η.length → P (.lst (intL (dv x.size s))) O → lcGo (gN 3) wYes (wBin oDiv (wVar 3) (wBin oIx (wVar 0) (wC (.int 2)))) η anySt (intL s) [] O P := fun {η P} h0 hl hP => by
    refine lc_map (f := divD x.size) _ _ (fun d hd P' hP' => ?_) trivial (by simp -dsimp; exact sl_big (by omega)) ?_
    · obtain ⟨i, _, rfl⟩ := List.mem_map.mp hd
      match η, hl with
      | a :: b :: c :: e :: r, _ =>
        simp -dsimp at h0
        simp -dsimp [h0, Dsc.d]
        exact ⟨CDiv_of hz, hP'⟩
    · have e : (intL s).map (divD x.size) = intL (dv x.size s) := by
        unfold intL dv
        rw [List.map_map, List.map_map]
        rfl
      rw [List.nil_append, e]
      exact hP
  refine lc_fil (b := fun d => decide (intOf d ∈ dv x.size s)) (f := id) _ _ (fun d hd P N h1 h2 => ?_) trivial (by simp -dsimp; rw [rgI_len]; exact sl_big (by omega)) ?_
  · obtain ⟨i, _, rfl⟩ := List.mem_map.mp hd
    simp -dsimp [wipeD]
    refine inner (by simp -dsimp) (by simp -dsimp) ?_
    simp -dsimp [divD]
    by_cases k : i ∈ dv x.size s
    · have e : decide (i ∈ dv x.size s) = true := decide_eq_true k
      rw [e]
      exact h1 e
    · have e : decide (i ∈ dv x.size s) = false := decide_eq_false k
      rw [e]
      exact h2 e
  · have e : ((intL (rgI 0 ((x.total + x.size - 1) / x.size))).filter fun d => decide (intOf d ∈ dv x.size s)).map id = intL (lwant x.size s ((x.total + x.size - 1) / x.size)) := by
      rw [List.map_id]
      unfold intL lwant
      rw [List.filter_map]
      rfl
    rw [List.nil_append, e]
    exact rtL_of hQ
end
end Sw

set_option maxRecDepth 100000
set_option maxHeartbeats 4000000
namespace Sw
open PySem PySem.Spec PyProof.Rows L2
theorem put_comm {O : OS} {p q : Addr} {a b : OV} (h : p ≠ q) : put (put O p a) q b = put (put O q b) p a := by
  funext x
  unfold put
  by_cases h1 : x = p
  · by_cases h2 : x = q
    · exact absurd (h1.symm.trans h2) h
    · simp -dsimp [h1, h]
  · simp -dsimp [h1]
/-! ### the law's files -/
def pick (n : Nat) (st : List Nat × List Nat) (k : Nat) : List Nat × List Nat := (st.1.eraseIdx (n / (3 + 2 * k) % st.1.length), st.2 ++ [st.1.getD (n / (3 + 2 * k) % st.1.length) 0])
def picks (n m k : Nat) : List Nat × List Nat := (List.range k).foldl (pick n) (List.range m, [])
def selOf (n m : Nat) : List Nat := (picks n m (1 + n % m)).2
theorem picks_succ {n m k : Nat} : picks n m (k + 1) = pick n (picks n m k) k := by
  unfold picks
  rw [List.range_succ, List.foldl_append]
  rfl
theorem erase_perm {l : List Nat} {i : Nat} (h : i < l.length) : List.Perm (l.eraseIdx i ++ [l.getD i 0]) l := by
  induction l generalizing i with
  | nil => simp -dsimp at h
  | cons a l ih =>
    cases i with
    | zero =>
      show List.Perm (l ++ [a]) (a :: l)
      exact List.perm_append_singleton a l
    | succ i =>
      have h' : i < l.length := by simpa using h
      exact (ih h').cons a
theorem picks_inv {n m : Nat} : ∀ {k : Nat}, k ≤ m → List.Perm ((picks n m k).1 ++ (picks n m k).2) (List.range m) ∧ (picks n m k).1.length + k = m ∧ (picks n m k).2.length = k
  | 0, _ => by
    unfold picks
    simp -dsimp
  | k + 1, h => by
    obtain ⟨h1, h2, h3⟩ := picks_inv (n := n) (k := k) (Nat.le_of_succ_le h)
    rw [picks_succ]
    generalize picks n m k = st at h1 h2 h3
    obtain ⟨l, s⟩ := st
    simp only at h1 h2 h3
    have hi : n / (3 + 2 * k) % l.length < l.length := Nat.mod_lt _ (by omega)
    unfold pick
    simp only
    refine ⟨?_, ?_, ?_⟩
    · have p1 := erase_perm hi
      have p2 : List.Perm (l.eraseIdx (n / (3 + 2 * k) % l.length) ++ (s ++ [l.getD (n / (3 + 2 * k) % l.length) 0])) ((l.eraseIdx (n / (3 + 2 * k) % l.length) ++ [l.getD (n / (3 + 2 * k) % l.length) 0]) ++ s) := by
        rw [List.append_assoc]
        exact List.Perm.append_left _ List.perm_append_comm
      exact (p2.trans (p1.append_right s)).trans h1
    · rw [List.length_eraseIdx_of_lt hi]
      omega
    · rw [List.length_append, List.length_singleton]
      omega
theorem selOf_props {n m : Nat} (hm : 0 < m) : (selOf n m).Nodup ∧ (∀ f ∈ selOf n m, f < m) ∧ selOf n m ≠ [] ∧ (selOf n m).length ≤ m := by
  have hk : 1 + n % m ≤ m := by have := Nat.mod_lt n hm; omega
  obtain ⟨h1, h2, h3⟩ := picks_inv (n := n) hk
  have nd : ((picks n m (1 + n % m)).1 ++ (picks n m (1 + n % m)).2).Nodup := h1.nodup_iff.mpr List.nodup_range
  refine ⟨(List.nodup_append.mp nd).2.1, fun f hf => ?_, fun e => ?_, ?_⟩
  · have : f ∈ List.range m := h1.mem_iff.mp (List.mem_append_right _ hf)
    exact List.mem_range.mp this
  · unfold selOf at e
    rw [e] at h3
    simp -dsimp at h3
    omega
  · unfold selOf
    omega
section
variable {O : OS} {Q : QD} {E : XW}
theorem range_D {m : Nat} : rgD 0 (m : Int) = natsD (List.range m) := by
  unfold rgD natsD
  rw [show ((m : Int) - 0).toNat = m by omega]
  exact List.map_congr_left fun i _ => by rw [Int.zero_add]
theorem natsD_erase : ∀ {l : List Nat} {i : Nat}, (natsD l).eraseIdx i = natsD (l.eraseIdx i)
  | [], _ => rfl
  | _ :: _, 0 => rfl
  | a :: l, i + 1 => by
    show D.int (a : Nat) :: (natsD l).eraseIdx i = D.int (a : Nat) :: natsD (l.eraseIdx i)
    rw [natsD_erase]
theorem natsD_at {l : List Nat} {i : Nat} (h : i < l.length) : (natsD l)[i]? = some (.int (l.getD i 0 : Nat)) := by
  unfold natsD
  rw [List.getElem?_map, List.getElem?_eq_getElem h, List.getD_eq_getElem?_getD, List.getElem?_eq_getElem h]
  rfl
theorem seqIx {i n : Nat} (h : i < n) : seqIndex? (i : Int) n = some i := by
  refine (ixN_seq (j := i) ?_).1
  unfold ixN
  rw [if_pos (by omega), if_pos (by omega)]
  simp -dsimp
theorem l_files {x : Dsc} {m n : Nat} (hm : x.files.length = m) (h0 : 0 < m) (h4 : m ≤ 64) (hQ : Q (.tup (natsD (selOf n m))) O) : fs__law_files [x.d, .int n] O Q E := by
  have hk : 1 + n % m ≤ m := by have := Nat.mod_lt n h0; omega
  have em : (fileL x.files).length = m := by rw [fileL_length, hm]
  simp -dsimp [fs__law_files, w__law_files, hm]
  refine ⟨.of_le (by omega) (by omega) (by omega) (by omega), fun p hp q hq => ?_⟩
  have hpq : p ≠ q := fun e => by
    rw [e, put_same] at hq
    cases hq
  have hq0 : O q = none := by
    rw [put_ne (Ne.symm hpq)] at hq
    exact hq
  have er : (n : Int) % (m : Int) = ((n % m : Nat) : Int) := (Int.natCast_emod n m).symm
  have hl : (x.files.map fileD).length = m := by rw [List.length_map, hm]
  rw [hl, range_D]
  simp -dsimp [put_ne hpq]
  refine ⟨by omega, ?_⟩
  have e1 : (1 : Int) + (n : Int) % (m : Int) = ((1 + n % m : Nat) : Int) := by omega
  rw [e1]
  refine ⟨⟨by omega, by omega⟩, ?_⟩
  refine for_inv (I := fun k η O' => O' = put (put O p (.ml (natsD (picks n m k).1))) q (.ml (natsD (picks n m k).2)) ∧ ∃ c, η = [some x.d, some (.int n), some (.ref p), some (.ref q), c]) _ (fun _ _ _ _ => trivial) (fun k d η O' hd hI N hN => ?_) ⟨rfl, _, rfl⟩ (fun η O' hI => ?_)
  · obtain ⟨rfl, c, rfl⟩ := hI
    obtain ⟨rfl, hk2⟩ := rgD_get hd
    have hk3 : k < m := by omega
    obtain ⟨i1, i2, i3⟩ := picks_inv (n := n) (m := m) (k := k) (by omega)
    have go : ∀ η', (∃ c, η' = [some x.d, some (.int n), some (.ref p), some (.ref q), c]) → N η' (put (put O p (.ml (natsD (pick n (picks n m k) k).1))) q (.ml (natsD (pick n (picks n m k) k).2))) := fun η' hη => hN _ _ ⟨by rw [picks_succ], hη⟩
    generalize picks n m k = st at i1 i2 i3 go
    obtain ⟨l, s⟩ := st
    have i2 : l.length + k = m := i2
    have i3 : s.length = k := i3
    have hi : n / (3 + 2 * k) % l.length < l.length := Nat.mod_lt _ (by omega)
    have ei : (n : Int) / (3 + 2 * (k : Int)) % (l.length : Int) = ((n / (3 + 2 * k) % l.length : Nat) : Int) := by
      rw [Int.natCast_emod, Int.natCast_ediv]
      rfl
    unfold pick at go
    simp only at go
    simp -dsimp [put_ne hpq]
    rw [ei]
    generalize n / (3 + 2 * k) % l.length = i at hi go
    rw [seqIx hi]
    simp only [onO_some, natsD_at hi]
    simp -dsimp [put_comm hpq, put_ne (Ne.symm hpq)]
    simp only [put_comm hpq] at go
    refine ⟨cmul_left (by omega) (by omega), ⟨by omega, by omega⟩, by omega, by omega, sl_lt (by omega), ?_⟩
    rw [natsD_erase]
    have e5 : natsD s ++ [D.int (l[i]?.getD 0 : Nat)] = natsD (s ++ [l.getD i 0]) := by rw [natsD_snoc, List.getD_eq_getElem?_getD]
    rw [e5]
    exact go _ ⟨_, rfl⟩
  · obtain ⟨rfl, c, rfl⟩ := hI
    rw [rgD_len, show (((1 + n % m : Nat) : Int) - 0).toNat = 1 + n % m by omega]
    simp -dsimp
    exact ⟨O, fun a o e => by
      have h1 : a ≠ p := fun z => by
        rw [z, hp] at e
        cases e
      have h2 : a ≠ q := fun z => by
        rw [z, hq0] at e
        cases e
      rw [put_ne h2, put_ne h1]
      exact e, hQ⟩
end
end Sw

set_option maxRecDepth 100000
set_option maxHeartbeats 4000000
namespace Sw
open PySem PySem.Spec PyProof.Rows L2
/-! ### the plain law -/
theorem rgI_snoc {lo hi : Int} (h : lo ≤ hi) : rgI lo (hi + 1) = rgI lo hi ++ [hi] := by
  unfold rgI
  rw [show (hi + 1 - lo).toNat = (hi - lo).toNat + 1 by omega, range_map_succ]
  congr 2
  omega
theorem rgI_self {lo : Int} : rgI lo lo = [] := by
  unfold rgI
  rw [Int.sub_self]
  rfl
theorem rgI_mem {lo hi k : Int} : k ∈ rgI lo hi ↔ lo ≤ k ∧ k < hi := by
  unfold rgI
  rw [List.mem_map]
  constructor
  · rintro ⟨i, hi', rfl⟩
    have := List.mem_range.mp hi'
    omega
  · rintro ⟨h1, h2⟩
    exact ⟨(k - lo).toNat, List.mem_range.mpr (by omega), by omega⟩
theorem rgI_get {lo hi : Int} {i : Nat} (h : lo + i < hi) : (rgI lo hi)[i]? = some (lo + i) := by
  unfold rgI
  rw [List.getElem?_map, List.getElem?_range (by omega)]
  rfl
theorem rgI_drop {lo hi : Int} {n : Nat} (h : lo + n ≤ hi) : (rgI lo hi).drop n = rgI (lo + n) hi := by
  apply List.ext_getElem?
  intro i
  rw [List.getElem?_drop]
  by_cases hi' : lo + n + i < hi
  · rw [rgI_get (by omega), rgI_get (by omega)]
    congr 1
    omega
  · rw [List.getElem?_eq_none (by rw [rgI_len]; omega), List.getElem?_eq_none (by rw [rgI_len]; omega)]
/-- adding twice is adding once -/
theorem addNew_twice {w : Nat} {l : List Int} {k : Int} : addNew w (addNew w l k) k = addNew w l k := by
  unfold addNew
  by_cases h1 : k ∈ l
  · simp -dsimp [h1]
  · by_cases h2 : l.length < w
    · simp -dsimp [h1, h2]
    · simp -dsimp [h1, h2]
theorem fold_div {w : Nat} {z lo : Int} (hz : 0 < z) (l : List Int) : ∀ n : Nat, ((rgI lo (lo + n + 1)).map (· / z)).foldl (addNew w) l = (rgI (lo / z) ((lo + n) / z + 1)).foldl (addNew w) l
  | 0 => by
    rw [show lo + ((0 : Nat) : Int) + 1 = lo + 1 by omega, show lo + ((0 : Nat) : Int) = lo by omega, rgI_snoc (Int.le_refl lo), rgI_snoc (Int.le_refl (lo / z)), rgI_self, rgI_self]
    rfl
  | n + 1 => by
    have e1 : lo + ((n + 1 : Nat) : Int) + 1 = (lo + n + 1) + 1 := by omega
    have e2 : lo + ((n + 1 : Nat) : Int) = lo + n + 1 := by omega
    rw [e1, rgI_snoc (by omega), List.map_append, List.foldl_append, fold_div hz l n, e2]
    have hq : lo / z ≤ (lo + n) / z := Int.ediv_le_ediv hz (by omega)
    have hs : (lo + n + 1) / z = (lo + n) / z ∨ (lo + n + 1) / z = (lo + n) / z + 1 := by
      have h1 : (lo + n) / z ≤ (lo + n + 1) / z := Int.ediv_le_ediv hz (by omega)
      have h2 : (lo + n + 1) / z ≤ (lo + n + z) / z := Int.ediv_le_ediv hz (by omega)
      have h3 : (lo + n + z) / z = (lo + n) / z + 1 := by
        rw [Int.add_ediv_of_dvd_right (Int.dvd_refl z), Int.ediv_self (by omega)]
      omega
    have es : [lo + (n : Int) + 1].map (· / z) = [(lo + n + 1) / z] := rfl
    rw [es]
    rcases hs with e | e
    · rw [e, rgI_snoc hq, List.foldl_append]
      show addNew w (addNew w _ _) _ = _
      rw [addNew_twice]
      rfl
    · rw [e, rgI_snoc (show lo / z ≤ (lo + n) / z + 1 by omega), List.foldl_append]
theorem fold_idxs {w : Nat} {z lo hi : Int} (hz : 0 < z) (l : List Int) (h : lo < hi) : ((rgI lo hi).map (· / z)).foldl (addNew w) l = (idxs z lo (hi - 1)).foldl (addNew w) l := by
  have q := fold_div (w := w) (lo := lo) hz l (hi - lo - 1).toNat
  rw [show lo + ((hi - lo - 1).toNat : Int) + 1 = hi by omega, show lo + ((hi - lo - 1).toNat : Int) = hi - 1 by omega] at q
  exact q
theorem addNew_take {w : Nat} {l : List Int} {k : Int} : addNew w (l.take w) k = (addU l k).take w := by
  unfold addNew addU
  by_cases hw : l.length < w
  · rw [List.take_of_length_le (by omega)]
    by_cases h1 : k ∈ l
    · simp -dsimp [h1]
      rw [List.take_of_length_le (by omega)]
    · simp -dsimp [h1, hw]
      rw [List.take_of_length_le (by rw [List.length_append, List.length_singleton]; omega)]
  · have e : (l.take w).length = w := by rw [List.length_take]; omega
    rw [if_neg (by rw [e]; omega)]
    split
    · rw [List.take_append_of_le_length (by omega)]
    · rfl
theorem fold_take {w : Nat} : ∀ (ks l : List Int), ks.foldl (addNew w) (l.take w) = (ks.foldl addU l).take w
  | [], _ => rfl
  | k :: ks, l => by
    rw [List.foldl_cons, List.foldl_cons, addNew_take, fold_take ks]
/-! ### files along the stream -/
def segS (s : List (Int × Int)) : List Int := s.flatMap fun r => rgI r.1 (r.1 + r.2)
def segT : Int → List (Int × Int) → List Trip
  | _, [] => []
  | h, (a, n) :: r => (h, a, n) :: segT (h + n) r
theorem segS_len : ∀ {s : List (Int × Int)}, (∀ r ∈ s, 0 ≤ r.2) → ((segS s).length : Int) = (s.map (·.2)).sum
  | [], _ => rfl
  | (a, n) :: r, h => by
    have h1 := h (a, n) (List.mem_cons_self ..)
    have h1 : 0 ≤ n := h1
    have ih := segS_len (s := r) fun q hq => h q (List.mem_cons_of_mem _ hq)
    show ((rgI a (a + n) ++ segS r).length : Int) = n + (r.map (·.2)).sum
    rw [List.length_append, rgI_len]
    omega
theorem fold_at {u : Int} : ∀ {s : List (Int × Int)} {h v : Int}, (∀ r ∈ s, 0 ≤ r.2) → h ≤ u → (segT h s).foldl (atStep u) v = ((segS s)[(u - h).toNat]?).getD v
  | [], h, v, _, _ => rfl
  | (a, n) :: r, h, v, hs, hu => by
    have h1 : 0 ≤ n := hs (a, n) (List.mem_cons_self ..)
    have hr := fun q hq => hs q (List.mem_cons_of_mem _ hq)
    show (segT (h + n) r).foldl (atStep u) (atStep u v (h, a, n)) = ((rgI a (a + n) ++ segS r)[(u - h).toNat]?).getD v
    by_cases hc : u < h + n
    · have e1 : atStep u v (h, a, n) = a + u - h := if_pos ⟨hu, hc⟩
      rw [e1, List.getElem?_append_left (by rw [rgI_len]; omega), rgI_get (by omega)]
      have key : ∀ {s : List (Int × Int)} {h v : Int}, (∀ r ∈ s, 0 ≤ r.2) → u < h → (segT h s).foldl (atStep u) v = v := by
        intro s
        induction s with
        | nil => intro h v _ _; rfl
        | cons q s ih =>
          intro h v hs hlt
          obtain ⟨a, n⟩ := q
          have h1 : 0 ≤ n := hs (a, n) (List.mem_cons_self ..)
          show (segT (h + n) s).foldl (atStep u) (atStep u v (h, a, n)) = v
          have e1 : atStep u v (h, a, n) = v := if_neg fun z => by
            have := z.1
            simp only at this
            omega
          rw [e1]
          exact ih (fun q hq => hs q (List.mem_cons_of_mem _ hq)) (by omega)
      rw [key hr hc]
      show a + u - h = a + ((u - h).toNat : Int)
      omega
    · have e1 : atStep u v (h, a, n) = v := if_neg fun z => hc z.2
      rw [e1, fold_at hr (by omega), List.getElem?_append_right (by rw [rgI_len]; omega), rgI_len]
      congr 2
      omega
theorem fold_ah {z : Int} (hz : 0 < z) {w : Nat} {t : Int} : ∀ {s : List (Int × Int)} {h : Int} {l : List Int}, (∀ r ∈ s, 0 ≤ r.2) → (segT h s).foldl (ahStep z w t) l = (((segS s).drop (t - h).toNat).map (· / z)).foldl (addNew w) l
  | [], h, l, _ => by
    show l = ((List.drop (t - h).toNat []).map (· / z)).foldl (addNew w) l
    rw [List.drop_nil]
    rfl
  | (a, n) :: r, h, l, hs => by
    have h1 : 0 ≤ n := hs (a, n) (List.mem_cons_self ..)
    have hr := fun q hq => hs q (List.mem_cons_of_mem _ hq)
    show (segT (h + n) r).foldl (ahStep z w t) (ahStep z w t l (h, a, n)) = (((rgI a (a + n) ++ segS r).drop (t - h).toNat).map (· / z)).foldl (addNew w) l
    rw [fold_ah hz hr, List.drop_append, rgI_len]
    by_cases hc : t < h + n
    · have e0 : (t - (h + n)).toNat = 0 := by omega
      by_cases hn : 0 < n
      · have e1 : ahStep z w t l (h, a, n) = (idxs z (a + if h < t then t - h else 0) (a + n - 1)).foldl (addNew w) l := if_pos ⟨hn, hc⟩
        have e2 : (if h < t then t - h else 0) = ((t - h).toNat : Int) := by split <;> omega
        have e3 : (t - h).toNat - (a + n - a).toNat = 0 := by omega
        rw [e1, e2, e0, e3, List.drop_zero, List.map_append, List.foldl_append, rgI_drop (by omega), fold_idxs hz l (by omega)]
      · have e1 : ahStep z w t l (h, a, n) = l := if_neg fun z => hn z.1
        have e2 : n = 0 := by omega
        subst e2
        have ed : (rgI a (a + 0)).drop (t - h).toNat = [] := List.drop_of_length_le (by rw [rgI_len]; omega)
        have e3 : (t - h).toNat - (a + 0 - a).toNat = (t - (h + 0)).toNat := by omega
        rw [e1, ed, e3]
        rfl
    · have e1 : ahStep z w t l (h, a, n) = l := if_neg fun z => hc z.2
      have ed : (rgI a (a + n)).drop (t - h).toNat = [] := List.drop_of_length_le (by rw [rgI_len]; omega)
      have e3 : (t - h).toNat - (a + n - a).toNat = (t - (h + n)).toNat := by omega
      rw [e1, ed, e3]
      rfl
end Sw

set_option maxRecDepth 100000
set_option maxHeartbeats 4000000
namespace Sw
open PySem PySem.Spec PyProof.Rows L2
/-! ### the plan against the stream -/
def Pl.segs (p : Pl) : List (Int × Int) := p.fs.map fun f => (stI p.x.lens f, p.x.lens.getD f 0)
theorem stI_succ {x : Dsc} {f : Nat} (hf : f < x.files.length) : stI x.lens (f + 1) = stI x.lens f + x.lens.getD f 0 := starts_snoc (lens_get hf)
theorem segs_stream {p : Pl} (hf : ∀ f ∈ p.fs, f < p.x.files.length) : segS p.segs = streamOf p.x.lens p.fs := by
  unfold segS streamOf Pl.segs
  rw [List.flatMap_map]
  have : ∀ (l : List Nat), (∀ f ∈ l, f < p.x.files.length) → l.flatMap (fun f => rgI (stI p.x.lens f) (stI p.x.lens f + p.x.lens.getD f 0)) = l.flatMap fun f => rgI (stI p.x.lens f) (stI p.x.lens (f + 1)) := fun l hl => by
    induction l with
    | nil => rfl
    | cons f l ih =>
      rw [List.flatMap_cons, List.flatMap_cons, ih fun g hg => hl g (List.mem_cons_of_mem _ hg), stI_succ (hl f (List.mem_cons_self ..))]
  exact this p.fs hf
theorem lens_nn {x : Dsc} (h : x.Ok) (f : Nat) : 0 ≤ x.lens.getD f 0 := by
  rw [List.getD_eq_getElem?_getD]
  cases e : x.lens[f]? with
  | none => exact Int.le_refl 0
  | some l => exact h.lens_nn l (List.mem_of_getElem? e)
theorem segs_nn {p : Pl} (h : p.x.Ok) : ∀ r ∈ p.segs, 0 ≤ r.2 := fun r hr => by
  obtain ⟨f, _, rfl⟩ := List.mem_map.mp hr
  exact lens_nn h f
theorem segT_at : ∀ (s : List (Int × Int)) (h : Int), segT h s = (List.range s.length).map fun j => (h + ((s.map (·.2)).take j).sum, (s.getD j (0, 0)).1, (s.getD j (0, 0)).2)
  | [], _ => rfl
  | (a, n) :: r, h => by
    rw [List.length_cons, List.range_succ_eq_map, List.map_cons, List.map_map]
    show (h, a, n) :: segT (h + n) r = _
    rw [segT_at r (h + n)]
    congr 1
    · simp -dsimp
    · refine List.map_congr_left fun j _ => ?_
      simp -dsimp
      omega
theorem trips_seg {p : Pl} : p.trips = segT 0 p.segs := by
  rw [segT_at]
  have el : p.segs.length = p.fs.length := by unfold Pl.segs; rw [List.length_map]
  rw [el]
  unfold Pl.trips
  refine List.map_congr_left fun j hj => ?_
  have hj : j < p.fs.length := List.mem_range.mp hj
  unfold Pl.trip Pl.here Pl.lens Pl.segs
  rw [List.map_map, Int.zero_add]
  have e1 : (p.fs.map fun f => (stI p.x.lens f, p.x.lens.getD f 0)).getD j (0, 0) = (stI p.x.lens (p.fs.getD j 0), p.x.lens.getD (p.fs.getD j 0) 0) := by
    rw [List.getD_eq_getElem?_getD, List.getD_eq_getElem?_getD, List.getElem?_map, List.getElem?_eq_getElem hj]
    rfl
  rw [e1]
  rfl
theorem total_len {p : Pl} (h : p.Ok) : p.total = ((streamOf p.x.lens p.fs).length : Int) := by
  rw [← segs_stream h.f, segS_len (segs_nn h.x)]
  unfold Pl.total Pl.lens Pl.segs
  rw [List.map_map]
  rfl
theorem spot_at {p : Pl} (h : p.Ok) {u : Nat} {v : Int} (hu : (streamOf p.x.lens p.fs)[u]? = some v) : p.spot u = v := by
  unfold Pl.spot
  rw [trips_seg, fold_at (segs_nn h.x) (by omega), segs_stream h.f, Int.sub_zero, Int.toNat_natCast, hu]
  rfl
theorem ahead_at {p : Pl} (h : p.Ok) (t : Nat) : p.ahead t = ((((streamOf p.x.lens p.fs).drop t).map (· / p.x.size)).foldl addU []).take p.w := by
  have hz := sizeOk_le h.x.size
  unfold Pl.ahead
  rw [trips_seg, fold_ah (by omega) (segs_nn h.x), segs_stream h.f, Int.sub_zero, Int.toNat_natCast]
  have q := fold_take (w := p.w) (((streamOf p.x.lens p.fs).drop t).map (· / p.x.size)) []
  rw [List.take_nil] at q
  exact q
/-! ### wanted -/
theorem count_eq {x : Dsc} (hz : 0 < x.size) : x.count = (x.total + x.size - 1) / x.size := by
  unfold Dsc.count
  rw [show x.total + x.size - 1 = (x.total - 1) + x.size by omega, Int.add_ediv_of_dvd_right (Int.dvd_refl _), Int.ediv_self (by omega)]
theorem inP_iff {x : Dsc} (h : x.Ok) {f : Nat} (hf : f < x.files.length) {k : Nat} : inP x.lens x.size k f = true ↔ ∃ s ∈ rgI (stI x.lens f) (stI x.lens (f + 1)), s / x.size = (k : Int) := by
  have hz := sizeOk_le h.size
  have hn := lens_nn h f
  have hs := stI_succ hf
  unfold inP pcs
  by_cases e : stI x.lens f = stI x.lens (f + 1)
  · rw [if_pos e]
    simp only [Bool.and_eq_true, decide_eq_true_eq]
    constructor
    · rintro ⟨h1, h2⟩
      omega
    · rintro ⟨s, hs, _⟩
      have := rgI_mem.mp hs
      omega
  · rw [if_neg e]
    simp only [Bool.and_eq_true, decide_eq_true_eq]
    constructor
    · rintro ⟨h1, h2⟩
      refine ⟨max (stI x.lens f) ((k : Int) * x.size), rgI_mem.mpr ⟨by omega, ?_⟩, ?_⟩
      · have h3 : (k : Int) ≤ (stI x.lens (f + 1) - 1) / x.size := by omega
        have h4 := (Int.le_ediv_iff_mul_le (by omega)).mp h3
        omega
      · by_cases hm : stI x.lens f ≤ (k : Int) * x.size
        · rw [Int.max_eq_right hm, Int.mul_ediv_cancel _ (by omega)]
        · rw [Int.max_eq_left (by omega)]
          have h5 : (k : Int) ≤ stI x.lens f / x.size := (Int.le_ediv_iff_mul_le (by omega)).mpr (by omega)
          omega
    · rintro ⟨s, hs, e3⟩
      rw [← e3]
      have hm := rgI_mem.mp hs
      have h1 : stI x.lens f / x.size ≤ s / x.size := Int.ediv_le_ediv (by omega) hm.1
      have h2 : s / x.size ≤ (stI x.lens (f + 1) - 1) / x.size := Int.ediv_le_ediv (by omega) (by omega)
      omega
theorem wantP_iff {p : Pl} (h : p.Ok) {k : Nat} : wantP p.x p.fs k = true ↔ (k : Int) ∈ dv p.x.size (streamOf p.x.lens p.fs) := by
  unfold wantP dv streamOf
  rw [List.any_eq_true, List.mem_map]
  constructor
  · rintro ⟨f, hf, e⟩
    obtain ⟨s, hs, e2⟩ := (inP_iff h.x (h.f f hf)).mp e
    exact ⟨s, List.mem_flatMap.mpr ⟨f, hf, hs⟩, e2⟩
  · rintro ⟨s, hs, e⟩
    obtain ⟨f, hf, hs⟩ := List.mem_flatMap.mp hs
    exact ⟨f, hf, (inP_iff h.x (h.f f hf)).mpr ⟨s, hs, e⟩⟩
theorem wanted_eq {p : Pl} (h : p.Ok) : natsD (wantL p.x p.fs) = intL (lwant p.x.size (streamOf p.x.lens p.fs) ((p.x.total + p.x.size - 1) / p.x.size)) := by
  have hz := sizeOk_le h.x.size
  have hc := h.x.count_le
  rw [← count_eq (by omega)]
  have e : rgI 0 p.x.count = (List.range p.x.count.toNat).map fun (n : Nat) => (n : Int) := by
    unfold rgI
    rw [Int.sub_zero]
    exact List.map_congr_left fun i _ => Int.zero_add _
  unfold lwant wantL
  rw [e, List.filter_map]
  have e2 : (List.range p.x.count.toNat).filter (wantP p.x p.fs) = (List.range p.x.count.toNat).filter ((fun k => decide (k ∈ dv p.x.size (streamOf p.x.lens p.fs))) ∘ fun (n : Nat) => (n : Int)) := by
    refine List.filter_congr fun k _ => ?_
    show wantP p.x p.fs k = decide ((k : Int) ∈ dv p.x.size (streamOf p.x.lens p.fs))
    by_cases hk : (k : Int) ∈ dv p.x.size (streamOf p.x.lens p.fs)
    · rw [decide_eq_true hk]
      exact (wantP_iff h).mpr hk
    · rw [decide_eq_false hk]
      cases e : wantP p.x p.fs k with
      | false => rfl
      | true => exact absurd ((wantP_iff h).mp e) hk
  rw [e2]
  unfold natsD intL
  rw [List.map_map]
  rfl
end Sw

set_option maxRecDepth 100000
set_option maxHeartbeats 4000000
namespace Sw
open PySem PySem.Spec PyProof.Rows L2
section
variable {O : OS} {Q : QD} {E : XW}
theorem eq_ints {l : List Int} (hQ : Q (.bl false) O) : rEqq true (.tup (intL l)) (.tup (intL l)) O Q := by
  have h := eq_dd (O := O) (Q := Q) (neg := true) (a := (⟨l⟩ : PySem.W.Tup Int)) (b := ⟨l⟩) (by simpa using hQ)
  exact h
theorem eq_pair {a b : Int} (hQ : Q (.bl false) O) : rEqq true (.tup [.int a, .int b]) (.tup [.int a, .int b]) O Q := by
  have h := eq_dd (O := O) (Q := Q) (neg := true) (a := (a, b)) (b := (a, b)) (by simpa using hQ)
  exact h
theorem win_at (n : Nat) : ∃ w : Nat, atI [D.int 1, D.int 2, D.int 3, D.int 5, D.int 1000] ((n : Int) / 11 % 5) = some (.int (w : Int)) ∧ 1 ≤ w ∧ w ≤ 1000 := by
  have e : (n : Int) / 11 % 5 = ((n / 11 % 5 : Nat) : Int) := by omega
  rw [e]
  have h : n / 11 % 5 < 5 := Nat.mod_lt _ (by omega)
  generalize n / 11 % 5 = r at h
  match r, h with
  | 0, _ => exact ⟨1, atI_at 0 rfl rfl, by omega, by omega⟩
  | 1, _ => exact ⟨2, atI_at 1 rfl rfl, by omega, by omega⟩
  | 2, _ => exact ⟨3, atI_at 2 rfl rfl, by omega, by omega⟩
  | 3, _ => exact ⟨5, atI_at 3 rfl rfl, by omega, by omega⟩
  | 4, _ => exact ⟨1000, atI_at 4 rfl rfl, by omega, by omega⟩
def plOf (n w : Nat) : Pl := ⟨descOf n, selOf (n / 7) (nfOf n), w⟩
theorem pl_ok {n w : Nat} (hw : 1 ≤ w ∧ w ≤ 1000) : (plOf n w).Ok := by
  have hn := nfOf_le n
  have hl : (descOf n).files.length = nfOf n := filesOf_len n
  obtain ⟨h1, h2, h3, h4⟩ := selOf_props (n := n / 7) (m := nfOf n) (by omega)
  exact ⟨desc_ok n, fun f hf => by show f < (descOf n).files.length; rw [hl]; exact h2 f hf, h1, h3, by show (selOf (n / 7) (nfOf n)).length ≤ 64; omega, hw⟩
theorem lens_le (n f : Nat) : 0 ≤ (descOf n).lens.getD f 0 ∧ (descOf n).lens.getD f 0 ≤ 17 := by
  rw [List.getD_eq_getElem?_getD]
  cases e : (descOf n).lens[f]? with
  | none => exact ⟨Int.le_refl 0, by decide⟩
  | some l => exact desc_lens n l (List.mem_of_getElem? e)
theorem st_le (n i : Nat) : 0 ≤ stI (descOf n).lens i ∧ stI (descOf n).lens i ≤ 68 := by
  have h := sum_bound (l := (descOf n).lens.take i) fun l hl => desc_lens n l (List.mem_of_mem_take hl)
  have hl : (descOf n).lens.length = nfOf n := by rw [lens_len]; exact filesOf_len n
  have hn := nfOf_le n
  have : ((descOf n).lens.take i).length ≤ 4 := by rw [List.length_take]; omega
  unfold stI
  omega
theorem here_le {n w : Nat} (j : Nat) : 0 ≤ ((plOf n w).lens.take j).sum ∧ ((plOf n w).lens.take j).sum ≤ 68 := by
  have h := sum_bound (l := (plOf n w).lens.take j) fun l hl => by
    obtain ⟨f, _, rfl⟩ := List.mem_map.mp (List.mem_of_mem_take hl)
    exact lens_le n f
  have hn := nfOf_le n
  obtain ⟨_, _, _, h4⟩ := selOf_props (n := n / 7) (m := nfOf n) (by omega)
  have : ((plOf n w).lens.take j).length ≤ 4 := by
    rw [List.length_take]
    unfold Pl.lens
    rw [List.length_map]
    have : (plOf n w).fs.length = (selOf (n / 7) (nfOf n)).length := rfl
    omega
  omega
theorem stream_le {n w : Nat} (hw : 1 ≤ w ∧ w ≤ 1000) : (streamOf (descOf n).lens (selOf (n / 7) (nfOf n))).length ≤ 68 := by
  have e := total_len (pl_ok (n := n) hw)
  have h := here_le (n := n) (w := w) (plOf n w).lens.length
  rw [List.take_of_length_le (Nat.le_refl _)] at h
  have e2 : (plOf n w).total = (plOf n w).lens.sum := rfl
  have e3 : streamOf (plOf n w).x.lens (plOf n w).fs = streamOf (descOf n).lens (selOf (n / 7) (nfOf n)) := rfl
  rw [e3] at e
  omega
theorem small_of {n w : Nat} : ∀ r ∈ (plOf n w).trips, 0 ≤ r.1 ∧ r.1 < 2 ^ 50 ∧ 0 ≤ r.2.1 ∧ r.2.1 < 2 ^ 50 ∧ r.2.2 < 2 ^ 50 := fun r hr => by
  obtain ⟨j, _, rfl⟩ := List.mem_map.mp hr
  have h1 := here_le (n := n) (w := w) j
  have h2 := st_le n ((plOf n w).fs.getD j 0)
  have h3 := lens_le n ((plOf n w).fs.getD j 0)
  show 0 ≤ ((plOf n w).lens.take j).sum ∧ _
  refine ⟨h1.1, ?_, h2.1, ?_, ?_⟩
  · show ((plOf n w).lens.take j).sum < 2 ^ 50
    omega
  · show stI (descOf n).lens _ < 2 ^ 50
    omega
  · show (descOf n).lens.getD _ 0 < 2 ^ 50
    omega
@[simp] theorem insO_o {p : Pl} {t : Int} : insO (some (p.o t)) = some (cs_Plan, [p.x.d, .tup (natsD p.fs), .int p.w, .int t, .lst (natsD (wantL p.x p.fs))]) := rfl
theorem same_int {a : Int} (hQ : Q (.bl false) O) : rEqq true (.int a) (.int a) O Q := by
  rw [rEqq_int]
  simpa using hQ
theorem goes {t f : Prop} (h : f) : onBl (.bl false) (fun b => onTF b t f) := h
theorem plan_at {p : Pl} {t : Int} {a : Addr} {k : Str × List D → Prop} (h : k (cs_Plan, [p.x.d, .tup (natsD p.fs), .int p.w, .int t, .lst (natsD (wantL p.x p.fs))])) : onO (insO (put O a (p.o t) a)) k := by
  rw [put_same, insO_o]
  exact h
end
end Sw

set_option maxRecDepth 100000
set_option maxHeartbeats 4000000
namespace Sw
open PySem PySem.Spec PyProof.Rows L2
/-! ### bounds of numbers, by simp -/
@[simp] theorem CDiv_s {i j : Int} : CDiv i j = (0 < j ∧ j < 1073741824) := rfl
@[simp] theorem CPow_s {i j : Int} : CPow i j = (0 ≤ j ∧ j ≤ 1000000 ∧ i.natAbs < 2 ^ 64) := rfl
@[simp] theorem CMul_ls {i j : Int} (h1 : -18446744073709551616 < i) (h2 : i < 18446744073709551616) : CMul i j = True := eq_true (.inl ⟨h1, h2⟩)
@[simp] theorem CMul_rs {i j : Int} (h1 : -18446744073709551616 < j) (h2 : j < 18446744073709551616) : CMul i j = True := eq_true (.inr ⟨h1, h2⟩)
theorem onTF_c {b : Bool} {t f : Prop} (h : b = true → t) (h2 : b = false → f) : onTF b t f := match b, h, h2 with
  | true, h, _ => h rfl
  | false, _, h => h rfl
theorem onTF_and {b : Bool} {t f : Prop} : onTF b t f = ((b = true → t) ∧ (b = false → f)) := by
  cases b
  · exact propext (Iff.intro (fun h => And.intro (fun z => nomatch z) (fun _ => h)) fun h => h.2 rfl)
  · exact propext (Iff.intro (fun h => And.intro (fun _ => h) fun z => nomatch z) fun h => h.1 rfl)
@[simp] theorem wipeD_s0 {η : Sl} : wipeD η [] = η := rfl
@[simp] theorem wipeD_s1 {η : Sl} {i : Nat} {r : List Nat} : wipeD η (i :: r) = (wipeD η r).set i none := rfl
theorem rgD_mem {lo hi : Int} {d : D} (h : d ∈ rgD lo hi) : ∃ i : Int, d = .int i ∧ lo ≤ i ∧ i < hi := by
  unfold rgD at h
  obtain ⟨k, hk, rfl⟩ := List.mem_map.mp h
  have := List.mem_range.mp hk
  exact ⟨_, rfl, by omega, by omega⟩
/-- a list of bools -/
def blL (l : List Bool) : List D := l.map .bl
@[simp] theorem blL_length {l : List Bool} : (blL l).length = l.length := by unfold blL; rw [List.length_map]
theorem blL_at {l : List Bool} {i : Nat} {n : Bool} (h : l[i]? = some n) : atI (blL l) (i : Int) = some (.bl n) := by
  refine atI_at i rfl ?_
  unfold blL
  rw [List.getElem?_map, h]
  rfl
/-- None or an int -/
def optD : Option Int → D
  | none => .non
  | some i => .int i
def optL (l : List (Option Int)) : List D := l.map optD
@[simp] theorem optL_length {l : List (Option Int)} : (optL l).length = l.length := by unfold optL; rw [List.length_map]
@[simp] theorem optL_flat {l : List (Option Int)} : (optL l).all flatD = true := by
  unfold optL
  rw [List.all_map]
  exact List.all_eq_true.mpr fun o _ => by cases o <;> rfl
@[simp] theorem optL_flat2 {l : List (Option Int)} : (∀ x, x ∈ optL l → flatD x = true) ↔ True := ⟨fun _ => trivial, fun _ x hx => List.all_eq_true.mp optL_flat x hx⟩
@[simp] theorem optL_in {l : List (Option Int)} {k : Int} : inD (.int k) (optL l) = decide (some k ∈ l) := by
  unfold inD optL
  rw [List.any_map]
  induction l with
  | nil => rfl
  | cons n l ih =>
    rw [List.any_cons, ih]
    cases n with
    | none =>
      show (false || decide (some k ∈ l)) = decide (some k ∈ none :: l)
      simp
    | some m =>
      show ((m == k) || decide (some k ∈ l)) = decide (some k ∈ some m :: l)
      by_cases h : m = k
      · simp [h]
      · have h2 : ¬ k = m := fun e => h e.symm
        simp [h, h2]
end Sw

set_option maxRecDepth 100000
set_option maxHeartbeats 4000000
namespace Sw
open PySem PySem.Spec PyProof.Rows L2
section
variable {O : OS} {Q : QD} {E : XW}
/-! ### the script's draws -/
theorem l_draws {ns : List Int} (hn : ns.length ≤ 63) {a m : Nat} (hQ : ∀ l : List Int, l.length ≤ m → (∀ i ∈ l, 0 ≤ i) → Q (.lst (intL l)) O) : fs__law_draws [.scr (ns.map .int), .int a, .int m] O Q E := by
  simp -dsimp [fs__law_draws, w__law_draws]
  intro q hq
  rw [← List.map_drop]
  have hl : (ns.drop a).length ≤ 63 := by rw [List.length_drop]; omega
  generalize ns.drop a = ds at hl
  refine for_inv (I := fun i η O' => (∃ l : List Int, O' = put O q (.ml (intL l)) ∧ l.length ≤ 24 * i ∧ ∀ i ∈ l, 0 ≤ i) ∧ ∃ b c d e, η = [some (.scr (ns.map .int)), some (.int a), some (.int m), some (.ref q), b, c, d, e]) _ (fun _ _ _ _ => trivial) (fun i d η O' hd hI N hN => ?_) ⟨⟨[], rfl, by simp, by simp⟩, _, _, _, _, rfl⟩ (fun η O' hI => ?_)
  · obtain ⟨⟨l, rfl, h1, h2⟩, b, c, d', e, rfl⟩ := hI
    obtain ⟨z, hz, rfl⟩ := ints_get hd
    have hi := (List.getElem?_eq_some_iff.mp hz).1
    simp -dsimp
    rw [abs_nat]
    generalize z.natAbs = x
    rw [onTF_and]
    refine ⟨fun _ => ?_, fun _ => ?_⟩
    · have m0 := Int.emod_nonneg (a := (x : Int) * 39373 + 23) (b := 2147483647) (by omega)
      generalize hy : ((x : Int) * 39373 + 23) % 2147483647 = y at m0
      simp -dsimp [hy]
      refine ⟨sl_lt (by omega), sl_lt (by omega), sl_lt (by omega), ?_⟩
      refine hN _ _ ⟨⟨l ++ [(x : Int)] ++ [(y * 16807 + (x : Int) / 6 + 3) % 2147483399 / 3] ++ [(y * 69621 + (x : Int) / 11 + 8) % 2147483629 / 7], ?_, by simp; omega, fun i hi => ?_⟩, _, _, _, _, rfl⟩
      · simp [intL]
      · simp at hi
        have a1 := Int.emod_nonneg (a := y * 16807 + (x : Int) / 6 + 3) (b := 2147483399) (by omega)
        have a2 := Int.emod_nonneg (a := y * 69621 + (x : Int) / 11 + 8) (b := 2147483629) (by omega)
        rcases hi with hi | hi | hi | hi
        · exact h2 i hi
        · omega
        · rw [hi]; exact Int.ediv_nonneg a1 (by omega)
        · rw [hi]; exact Int.ediv_nonneg a2 (by omega)
    · simp -dsimp
      refine for_inv (I := fun k η O' => (∃ l : List Int, O' = put O q (.ml (intL l)) ∧ l.length ≤ 24 * i + k ∧ ∀ i ∈ l, 0 ≤ i) ∧ ∃ (b c e : Option D) (x : Nat), η = [some (.scr (ns.map .int)), some (.int a), some (.int m), some (.ref q), b, some (.int x), c, e]) _ (fun _ _ _ _ => trivial) (fun k d η O' hd hI N' hN' => ?_) ⟨⟨l, rfl, by omega, h2⟩, _, _, _, _, rfl⟩ (fun η O' hI => ?_)
      · obtain ⟨⟨l, rfl, h3, h4⟩, b, c, e, x, rfl⟩ := hI
        obtain ⟨rfl, hk⟩ := rgD_get hd
        have e2 : (x : Int) / 1000000 = ((x / 1000000 : Nat) : Int) := by omega
        simp -dsimp
        by_cases h0 : (0 : Int) < x
        · have h0' : 0 < x := by omega
          simp -dsimp [h0']
          refine ⟨sl_lt (by omega), ?_⟩
          rw [intL_snoc, e2]
          refine hN' _ _ ⟨⟨_, rfl, by simp; omega, fun i hi => ?_⟩, _, _, _, _, rfl⟩
          rcases List.mem_append.mp hi with hi | hi
          · exact h4 i hi
          · rw [List.mem_singleton.mp hi]
            omega
        · have h0' : ¬ 0 < x := by omega
          simp -dsimp [h0']
          rw [e2]
          exact hN' _ _ ⟨⟨l, rfl, by omega, h4⟩, _, _, _, _, rfl⟩
      · obtain ⟨⟨l, rfl, h3, h4⟩, b, c, e, x, rfl⟩ := hI
        rw [rgD_len] at h3
        exact hN _ _ ⟨⟨l, rfl, by omega, h4⟩, _, _, _, _, rfl⟩
  · obtain ⟨⟨l, rfl, h1, h2⟩, b, c, d, e, rfl⟩ := hI
    simp -dsimp [intL_take]
    refine rtL_put hq (hQ _ (by rw [List.length_take]; omega) fun i hi => h2 i (List.mem_of_mem_take hi))
/-! ### flags -/
theorem l_flags {x : Int} {c : Nat} (hc : c ≤ 4096) (hQ : ∀ bs : List Bool, bs.length = c → Q (.lst (blL bs)) O) : fs__law_flags [.int x, .int c] O Q E := by
  simp -dsimp [fs__law_flags, w__law_flags]
  refine ⟨by omega, ?_⟩
  refine lc_map (f := fun d => .bl (decide (0 < x / (2 + 3 * intOf d) % 3))) _ _ (fun d hd P hP => ?_) trivial (by rw [rgD_len]; exact sl_big (by simp; omega)) ?_
  · obtain ⟨i, rfl, h0, h1⟩ := rgD_mem hd
    simp -dsimp [wipeD]
    exact ⟨by omega, hP⟩
  · simp -dsimp
    refine rtL_of ?_
    have h := hQ ((rgD 0 c).map fun d => decide (0 < x / (2 + 3 * intOf d) % 3)) (by rw [List.length_map, rgD_len]; omega)
    unfold blL at h
    rw [List.map_map] at h
    exact h
end
end Sw

set_option maxRecDepth 100000
set_option maxHeartbeats 4000000
namespace Sw
open PySem PySem.Spec PyProof.Rows L2
section
variable {O : OS} {Q : QD} {E : XW}
/-! ### wants -/
def clm (bs : List Bool) (H : List Int) (k : Int) : Bool := bs.getD k.toNat false && !decide (k ∈ H)
def wantsOf (W : List Int) (bs : List Bool) (H : List Int) : List Int := (rgI 0 bs.length).filter fun k => clm bs H k && (W.all (fun k => decide (k ∈ H)) || decide (k ∈ W))
/-- the tests over enumerated bools -/
def enT (H : List Int) : D → Bool
  | .tup [.int i, .bl b] => b && !decide (i ∈ H)
  | _ => false
theorem enB_map (bs : List Bool) : enD (blL bs) = (List.range bs.length).map fun (i : Nat) => D.tup [.int (i : Int), .bl (bs.getD i false)] := by
  unfold enD
  rw [blL_length]
  refine List.map_congr_left fun i hi => ?_
  have hi := List.mem_range.mp hi
  have e : (blL bs).getD i .non = .bl (bs.getD i false) := by
    unfold blL
    rw [List.getD_eq_getElem?_getD, List.getD_eq_getElem?_getD, List.getElem?_map, List.getElem?_eq_getElem hi]
    rfl
  rw [e]
theorem rgI_nat (n : Nat) : rgI 0 (n : Int) = (List.range n).map fun (i : Nat) => (i : Int) := by
  unfold rgI
  rw [Int.sub_zero, Int.toNat_natCast]
  exact List.map_congr_left fun i _ => Int.zero_add _
theorem lacked_eq (bs : List Bool) (H : List Int) : ((enD (blL bs)).filter (enT H)).map fstD = intL ((rgI 0 bs.length).filter (clm bs H)) := by
  rw [enB_map, rgI_nat, List.filter_map, List.map_map, List.filter_map]
  unfold intL
  rw [List.map_map]
  congr 1
theorem mem_enB {bs : List Bool} {d : D} (h : d ∈ enD (blL bs)) : ∃ (i : Nat) (b : Bool), d = .tup [.int (i : Int), .bl b] := by
  rw [enB_map] at h
  obtain ⟨i, _, rfl⟩ := List.mem_map.mp h
  exact ⟨_, _, rfl⟩
theorem rAll_ints {l : List Int} {g : Int → Bool} (h : Q (.bl (l.all g)) O) : rAllD [.lst ((intL l).map fun d => .bl (g (intOf d)))] O Q := by
  refine rAll_of (b := fun d => g (intOf d)) ?_
  unfold intL
  rw [List.all_map]
  exact h
theorem fil_ints {l : List Int} {g : Int → Bool} : ((intL l).filter fun d => g (intOf d)).map id = intL (l.filter g) := by
  rw [List.map_id]
  unfold intL
  rw [List.filter_map]
  rfl
variable {p : Pl} {a : Addr} {t : Int}
theorem l_wants (hO : O a = some (p.o t)) {W : List Int} (hW : natsD (wantL p.x p.fs) = intL W) {bs : List Bool} {H : List Int} (hb : bs.length ≤ 10000) (hw : W.length ≤ 10000) (hQ : Q (.lst (intL (wantsOf W bs H))) O) :
    fs_Plan_wants [.ref a, .lst (blL bs), .tup (intL H)] O Q E := by
  simp -dsimp [fs_Plan_wants, w_Plan_wants]
  refine lc_fil (b := enT H) (f := fstD) _ _ (fun d hd P N h1 h2 => ?_) trivial (by rw [enD_length, blL_length]; exact sl_big (by simp; omega)) ?_
  · obtain ⟨i, b, rfl⟩ := mem_enB hd
    simp -dsimp [wipeD]
    by_cases hi : (i : Int) ∈ H
    · cases b
      · simp -dsimp
        exact h2 (by simp [enT])
      · simp -dsimp [hi]
        exact h2 (by simp [enT, hi])
    · cases b
      · simp -dsimp
        exact h2 (by simp [enT])
      · simp -dsimp [hi]
        exact h1 (by simp [enT, hi])
  · rw [List.nil_append, lacked_eq]
    simp -dsimp [hO, Pl.o]
    rw [hW]
    refine lc_map (f := fun d => .bl (decide (intOf d ∈ H))) _ _ (fun d hd P hP => ?_) trivial (by simp; exact sl_big (by omega)) ?_
    · obtain ⟨i, _, rfl⟩ := List.mem_map.mp hd
      simp -dsimp [wipeD]
      exact hP
    · simp -dsimp
      refine rAll_ints (g := fun k => decide (k ∈ H)) ?_
      simp -dsimp
      by_cases hall : W.all (fun k => decide (k ∈ H)) = true
      · rw [hall, onTF_t]
        simp -dsimp
        refine rtL_of ?_
        have e : wantsOf W bs H = (rgI 0 bs.length).filter (clm bs H) := by
          unfold wantsOf
          rw [hall]
          refine List.filter_congr fun k _ => ?_
          simp
        rw [← e]
        exact hQ
      · have hf : W.all (fun k => decide (k ∈ H)) = false := by simpa using hall
        rw [hf, onTF_f]
        simp -dsimp
        refine lc_fil (b := fun d => decide (intOf d ∈ W)) (f := id) _ _ (fun d hd P N h1 h2 => ?_) trivial (by simp; refine sl_big (Nat.le_trans (List.length_filter_le _ _) (by rw [rgI_len]; omega))) ?_
        · obtain ⟨i, _, rfl⟩ := List.mem_map.mp hd
          simp -dsimp [wipeD, hO, Pl.o, hW]
          by_cases hi : i ∈ W
          · simp -dsimp [hi]
            exact h1 (by simp [intOf, hi])
          · simp -dsimp [hi]
            exact h2 (by simp [intOf, hi])
        · rw [List.nil_append, fil_ints (g := fun k => decide (k ∈ W)), List.filter_filter]
          refine rtL_of ?_
          have e : wantsOf W bs H = (rgI 0 bs.length).filter fun k => decide (k ∈ W) && clm bs H k := by
            unfold wantsOf
            rw [hf]
            refine List.filter_congr fun k _ => ?_
            simp [Bool.and_comm]
          rw [← e]
          exact hQ
end
end Sw

set_option maxRecDepth 100000
set_option maxHeartbeats 4000000
namespace Sw
open PySem PySem.Spec PyProof.Rows L2
section
variable {O : OS} {Q : QD} {E : XW}
/-! ### the law's wants -/
def wtP (W : List Int) (bs : List Bool) (H : List Int) (k : Int) : Bool := clm bs H k && (W.all (fun k => decide (k ∈ H)) || decide (k ∈ W))
theorem wants_P {W : List Int} {bs : List Bool} {H : List Int} : wantsOf W bs H = (rgI 0 bs.length).filter (wtP W bs H) := rfl
theorem filter_rg_succ (f : Int → Bool) (n : Nat) : (rgI 0 ((n + 1 : Nat) : Int)).filter f = (rgI 0 (n : Int)).filter f ++ if f n then [(n : Int)] else [] := by
  rw [rgI_nat, rgI_nat, List.range_succ, List.map_append, List.filter_append]
  congr 1
  show [(n : Int)].filter f = _
  by_cases h : f n = true
  · simp [h]
  · simp [h]
theorem filter_rg_len (f : Int → Bool) (n : Nat) : ((rgI 0 (n : Int)).filter f).length ≤ n := by
  refine Nat.le_trans (List.length_filter_le _ _) ?_
  rw [rgI_len]
  omega
theorem all_in {W H : List Int} : (W.filter fun k => !decide (k ∈ H)) = [] ↔ W.all (fun k => decide (k ∈ H)) = true := by
  rw [List.filter_eq_nil_iff, List.all_eq_true]
  constructor
  · intro h k hk
    have := h k hk
    simpa using this
  · intro h k hk
    have := h k hk
    simp at this ⊢
    exact this
theorem eq_intL {l m : List Int} {neg : Bool} (hQ : Q (.bl (if neg then !decide (l = m) else decide (l = m))) O) : rEqq neg (.lst (intL l)) (.lst (intL m)) O Q := by
  unfold intL
  rw [rEqq_pl (by simp) (by simp) (by simp) (by simp), eqT, eqTs_ints]
  exact hQ
theorem eq_intL_nil {l : List Int} {neg : Bool} (hQ : Q (.bl (if neg then !decide (l = []) else decide (l = []))) O) : rEqq neg (.lst (intL l)) (.lst []) O Q := eq_intL (m := []) hQ
theorem l_lwants {x : Dsc} (hn : x.files.length ≤ 64) (hz : 4 ≤ x.size ∧ x.size ≤ 65536) {s : List Int} (hs : s.length ≤ 200000) (hc : 0 ≤ (x.total + x.size - 1) / x.size ∧ (x.total + x.size - 1) / x.size ≤ 100000) {W : List Int}
    (hW : lwant x.size s ((x.total + x.size - 1) / x.size) = W) (hwl : W.length ≤ 10000) {bs : List Bool} {H : List Int} (hb : bs.length ≤ 10000) (hQ : Q (.lst (intL (wantsOf W bs H))) O) : fs__law_wants [x.d, .lst (intL s), .lst (blL bs), .lst (intL H)] O Q E := by
  simp -dsimp [fs__law_wants, w__law_wants]
  refine l_lwanted hn hz hs hc ?_
  rw [hW]
  try simp -dsimp
  refine lc_fil (b := fun d => !decide (intOf d ∈ H)) (f := id) _ _ (fun d hd P N h1 h2 => ?_) trivial (by simp; exact sl_big (by omega)) ?_
  · obtain ⟨i, _, rfl⟩ := List.mem_map.mp hd
    simp -dsimp
    by_cases hi : i ∈ H
    · simp -dsimp [hi]
      exact h2 (by simp [intOf, hi])
    · simp -dsimp [hi]
      exact h1 (by simp [intOf, hi])
  · rw [List.nil_append, fil_ints (g := fun k => !decide (k ∈ H))]
    try simp -dsimp
    intro q hq
    try simp -dsimp
    refine ⟨by omega, ?_⟩
    refine for_inv (I := fun k η O' => O' = put O q (.ml (intL ((rgI 0 (k : Int)).filter (wtP W bs H)))) ∧ ∃ c, η = [some x.d, some (.lst (intL s)), some (.lst (blL bs)), some (.lst (intL H)), some (.lst (intL W)), some (.lst (intL (W.filter fun k => !decide (k ∈ H)))), some (.ref q), c]) _ (fun _ _ _ _ => trivial) (fun k d η O' hd hI N hN => ?_) ⟨rfl, _, rfl⟩ (fun η O' hI => ?_)
    · obtain ⟨rfl, c, rfl⟩ := hI
      obtain ⟨rfl, hk⟩ := rgD_get hd
      have hk : k < bs.length := by omega
      have eb : bs[k]? = some bs[k] := List.getElem?_eq_getElem hk
      have hl := filter_rg_len (wtP W bs H) k
      have ew : wtP W bs H k = (bs[k] && (!decide ((k : Int) ∈ H) && (W.all (fun k => decide (k ∈ H)) || decide ((k : Int) ∈ W)))) := by
        unfold wtP clm
        rw [Int.toNat_natCast, List.getD_eq_getElem?_getD, eb, Bool.and_assoc]
        rfl
      have go : ∀ η', (∃ c, η' = [some x.d, some (.lst (intL s)), some (.lst (blL bs)), some (.lst (intL H)), some (.lst (intL W)), some (.lst (intL (W.filter fun k => !decide (k ∈ H)))), some (.ref q), c]) →
          N η' (put O q (.ml (intL ((rgI 0 (k : Int)).filter (wtP W bs H) ++ if (bs[k] && (!decide ((k : Int) ∈ H) && (W.all (fun k => decide (k ∈ H)) || decide ((k : Int) ∈ W)))) then [(k : Int)] else [])))) := fun η' hη => hN _ _ ⟨by rw [filter_rg_succ, ew], hη⟩
      generalize (rgI 0 (k : Int)).filter (wtP W bs H) = l at hl go
      simp -dsimp [blL_at eb]
      generalize bs[k] = b at go
      cases b with
      | false =>
        simp -dsimp
        simpa using go _ ⟨_, rfl⟩
      | true =>
        by_cases h1 : (k : Int) ∈ H
        · simp -dsimp [h1]
          simpa [h1] using go _ ⟨_, rfl⟩
        · simp -dsimp [h1]
          refine eq_intL_nil ?_
          by_cases h2 : (W.filter fun k => !decide (k ∈ H)) = []
          · have h3 := all_in.mp h2
            simp -dsimp [h2]
            refine ⟨sl_lt (by omega), ?_⟩
            rw [intL_snoc]
            simpa [h1, h3, h2] using go _ ⟨_, rfl⟩
          · have h3 : W.all (fun k => decide (k ∈ H)) = false := by
              cases e : W.all (fun k => decide (k ∈ H)) with
              | false => rfl
              | true => exact absurd (all_in.mpr e) h2
            rw [h3] at go
            have h4 : decide ((W.filter fun k => !decide (k ∈ H)) = []) = false := decide_eq_false h2
            rw [h4]
            simp -dsimp
            by_cases h5 : (k : Int) ∈ W
            · simp -dsimp [h5]
              refine ⟨sl_lt (by omega), ?_⟩
              rw [intL_snoc]
              simpa [h1, h5] using go _ ⟨_, rfl⟩
            · simp -dsimp [h5]
              simpa [h1, h5] using go _ ⟨_, rfl⟩
    · obtain ⟨rfl, c, rfl⟩ := hI
      rw [rgD_len, show ((bs.length : Int) - 0).toNat = bs.length by omega]
      simp -dsimp
      rw [cut_put hq]
      exact rtL_of hQ
end
end Sw

set_option maxRecDepth 100000
set_option maxHeartbeats 4000000
namespace Sw
open PySem PySem.Spec PyProof.Rows L2
section
variable {O : OS} {Q : QD} {E : XW}
/-! ### the choice -/
def rar (F : List (List Bool)) (k : Int) : Nat := (F.filter fun f => f.getD k.toNat false).length
def freeOf (P : List Int) (K : List (Option Int)) : List Int := P.filter fun k => !decide (some k ∈ K)
def firstOf (A P : List Int) : List Int := A.filter fun k => decide (k ∈ P)
def key (F : List (List Bool)) (k : Int) : Int × Int := ((rar F k : Nat), k)
theorem lexLe_iff {p q : Int × Int} : lexLe p q = true ↔ p.1 < q.1 ∨ (p.1 = q.1 ∧ p.2 ≤ q.2) := by simp [lexLe]
/-- what may be chosen -/
def IsCh (P A : List Int) (F : List (List Bool)) (K : List (Option Int)) (r : Option Int) : Prop :=
  (freeOf (firstOf A P) K ≠ [] ∧ r = (freeOf (firstOf A P) K).head?) ∨
  (freeOf (firstOf A P) K = [] ∧ freeOf P K ≠ [] ∧ ∃ m ∈ freeOf P K, r = some m ∧ ∀ y ∈ freeOf P K, lexLe (key F m) (key F y) = true) ∨
  (freeOf (firstOf A P) K = [] ∧ freeOf P K = [] ∧ firstOf A P ≠ [] ∧ r = (firstOf A P).head?) ∨
  (freeOf (firstOf A P) K = [] ∧ freeOf P K = [] ∧ firstOf A P = [] ∧ r = P.head?)
theorem isCh_one {P A : List Int} {F : List (List Bool)} {K : List (Option Int)} {r r' : Option Int} (h : IsCh P A F K r) (h' : IsCh P A F K r') : r = r' := by
  rcases h with ⟨a, e⟩ | ⟨a, b, m, hm, e, hl⟩ | ⟨a, b, c, e⟩ | ⟨a, b, c, e⟩ <;> rcases h' with ⟨a', e'⟩ | ⟨a', b', m', hm', e', hl'⟩ | ⟨a', b', c', e'⟩ | ⟨a', b', c', e'⟩ <;> first | contradiction | (rw [e, e'])
  have h1 := lexLe_iff.mp (hl m' hm')
  have h2 := lexLe_iff.mp (hl' m hm)
  have : m = m' := by
    simp only [key] at h1 h2
    omega
  rw [this]
def fieldsD (F : List (List Bool)) : List D := F.map fun f => .lst (blL f)
def ixB (k : Int) : D → Bool
  | .lst l => (match l.getD k.toNat .non with
    | .bl b => b
    | _ => false)
  | _ => false
theorem ixB_of {k : Nat} {f : List Bool} (h : k < f.length) : ixB (k : Int) (.lst (blL f)) = f[k] := by
  show (match (blL f).getD (k : Int).toNat .non with
    | .bl b => b
    | _ => false) = _
  have e : (blL f).getD (k : Int).toNat .non = .bl f[k] := by
    rw [Int.toNat_natCast]
    unfold blL
    rw [List.getD_eq_getElem?_getD, List.getElem?_map, List.getElem?_eq_getElem h]
    rfl
  rw [e]
theorem fil_len {F : List (List Bool)} {k : Nat} (h : ∀ f ∈ F, k < f.length) : ((fieldsD F).filter (ixB k)).length = rar F k := by
  unfold rar fieldsD
  rw [List.filter_map, List.length_map]
  congr 1
  refine List.filter_congr fun f hf => ?_
  have hk := h f hf
  show ixB (k : Int) (.lst (blL f)) = _
  rw [ixB_of hk, Int.toNat_natCast, List.getD_eq_getElem?_getD, List.getElem?_eq_getElem hk]
  rfl
theorem l_rarity {F : List (List Bool)} {k : Nat} (h : ∀ f ∈ F, k < f.length) (hl : F.length ≤ 1000) (hQ : Q (.int (rar F k : Nat)) O) : fs_rarity [.int k, .lst (fieldsD F)] O Q E := by
  simp -dsimp [fs_rarity, w_rarity]
  refine lc_fil (b := ixB k) (f := id) _ _ (fun d hd P N h1 h2 => ?_) trivial (by unfold fieldsD; simp; exact sl_big (by omega)) ?_
  · obtain ⟨f, hf, rfl⟩ := List.mem_map.mp hd
    have hk := h f hf
    have e : f[k]? = some f[k] := List.getElem?_eq_getElem hk
    simp -dsimp [blL_at e]
    rw [ixB_of hk] at h1 h2
    generalize f[k] = b at h1 h2
    cases b
    · exact h2 rfl
    · simp -dsimp
      exact h1 rfl
  · rw [List.nil_append]
    simp -dsimp
    rw [fil_len h]
    exact rtL_of hQ
theorem filL_len {l : List Int} {g : Int → Bool} {n : Nat} (h : l.length ≤ n) : (l.filter g).length ≤ n := Nat.le_trans (List.length_filter_le _ _) h
def prL (F : List (List Bool)) (l : List Int) : List D := (l.map (key F)).map pairD
theorem pairs_eq {F : List (List Bool)} {l : List Int} : (intL l).map (fun d => pairD (key F (intOf d))) = prL F l := by
  unfold intL prL
  rw [List.map_map, List.map_map]
  rfl
theorem filM_ints {l : List Int} {g : Int → Bool} {f : D → D} : ((intL l).filter fun d => g (intOf d)).map f = (intL (l.filter g)).map f := by
  unfold intL
  rw [List.filter_map]
  rfl
theorem plDs_pairs {l : List (Int × Int)} : plDs (l.map pairD) = true := by
  rw [plDs_all, List.all_map]
  exact List.all_eq_true.mpr fun _ _ => rfl
theorem dpDs_pairs {l : List (Int × Int)} : dpDs (l.map pairD) ≤ 1 := dpDs_le fun d hd => by
  obtain ⟨p, _, rfl⟩ := List.mem_map.mp hd
  simp [pairD]
theorem ne_pairs_nil {l : List (Int × Int)} (hQ : Q (.bl (!decide (l = []))) O) : rEqq true (.lst (l.map pairD)) (.lst []) O Q := by
  rw [rEqq_pl (by simp [plDs_pairs]) (by simp) (by have := dpDs_pairs (l := l); rw [dpD_lst]; omega) (by simp)]
  cases l with
  | nil => simpa [eqT, eqTs] using hQ
  | cons p l => simpa [eqT, eqTs] using hQ
theorem ne_pr {F : List (List Bool)} {l : List Int} (hQ : Q (.bl (!decide (l = []))) O) : rEqq true (.lst (prL F l)) (.lst []) O Q := by
  refine ne_pairs_nil ?_
  cases l with
  | nil => simpa using hQ
  | cons p l => simpa using hQ
@[simp] theorem intL_cons {k : Int} {l : List Int} : intL (k :: l) = .int k :: intL l := rfl
theorem fr_find {l : List Int} {K : List (Option Int)} {i : Nat} (h : ∀ k ∈ l.take i, some k ∈ K) {k : Int} (hk : l[i]? = some k) (hn : some k ∉ K) : (freeOf l K).head? = some k := by
  have e : l = l.take i ++ k :: l.drop (i + 1) := by
    have hi := (List.getElem?_eq_some_iff.mp hk)
    obtain ⟨hlt, rfl⟩ := hi
    rw [← List.drop_eq_getElem_cons hlt, List.take_append_drop]
  rw [e]
  unfold freeOf
  rw [List.filter_append, List.filter_eq_nil_iff.mpr fun k hk => by simp [h k hk], List.nil_append, List.filter_cons_of_pos (by simp [hn])]
  rfl
theorem fr_none {l : List Int} {K : List (Option Int)} (h : ∀ k ∈ l, some k ∈ K) : freeOf l K = [] := List.filter_eq_nil_iff.mpr fun k hk => by simp [h k hk]
theorem head_ne {l : List Int} (h : l ≠ []) : ∃ k r, l = k :: r := by
  cases l with
  | nil => exact absurd rfl h
  | cons k r => exact ⟨k, r, rfl⟩
theorem opt_some {k : Int} (h : Q (optD (some k)) O) : Q (.int k) O := h
theorem l_choose {p : Pl} {a : Addr} {t : Int} (h : p.Ok) (hO : O a = some (p.o t)) (small : ∀ r ∈ p.trips, 0 ≤ r.1 ∧ r.1 < 2 ^ 50 ∧ 0 ≤ r.2.1 ∧ r.2.1 < 2 ^ 50 ∧ r.2.2 < 2 ^ 50) (ht : 0 ≤ t ∧ t < 2 ^ 50) {W : List Int} (hW : natsD (wantL p.x p.fs) = intL W)
    {bs : List Bool} {H : List Int} {F : List (List Bool)} {K : List (Option Int)} (hb : bs.length ≤ 4096) (hw : W.length ≤ 10000) (hF : ∀ f ∈ F, f.length = bs.length) (hFl : F.length ≤ 1000)
    (hQ : ∀ r, IsCh (wantsOf W bs H) (p.ahead t) F K r → Q (optD r) O) : fs_Plan_choose [.ref a, .lst (blL bs), .tup (intL H), .lst (fieldsD F), .lst (optL K)] O Q E := by
  have hwm : ∀ k ∈ wantsOf W bs H, 0 ≤ k ∧ k < bs.length := fun k hk => by
    have := List.mem_filter.mp hk
    exact rgI_mem.mp this.1
  have hwl : (wantsOf W bs H).length ≤ 4096 := by
    have := filter_rg_len (wtP W bs H) bs.length
    rw [wants_P]
    omega
  have hal : (p.ahead t).length ≤ 1000 := by
    have h1 : (p.ahead t).length ≤ p.w := ahSteps_len (Nat.zero_le _)
    have := h.w
    omega
  simp -dsimp [fs_Plan_choose, w_Plan_choose, hO, Pl.o]
  refine l_wants hO hW (by omega) hw ?_
  simp -dsimp [hO, Pl.o]
  refine l_ahead h hO small ht ?_
  generalize hP : wantsOf W bs H = P at hwm hwl hQ ⊢
  generalize p.ahead t = A at hal hQ ⊢
  try simp -dsimp
  refine lc_fil (b := fun d => decide (intOf d ∈ P)) (f := id) _ _ (fun d hd P' N h1 h2 => ?_) trivial (by simp; exact sl_big (by omega)) ?_
  · obtain ⟨i, _, rfl⟩ := List.mem_map.mp hd
    simp -dsimp
    by_cases hi : i ∈ P
    · simp -dsimp [hi]
      exact h1 (by simp [intOf, hi])
    · simp -dsimp [hi]
      exact h2 (by simp [intOf, hi])
  · rw [List.nil_append, fil_ints (g := fun k => decide (k ∈ P))]
    have hfl : (firstOf A P).length ≤ 1000 := filL_len hal
    have efl : (A.filter fun k => decide (k ∈ P)) = firstOf A P := rfl
    rw [efl]
    try simp -dsimp
    refine for_inv (I := fun i η O' => O' = O ∧ (∀ k ∈ (firstOf A P).take i, some k ∈ K) ∧ ∃ c e, η = [some (.ref a), some (.lst (blL bs)), some (.tup (intL H)), some (.lst (fieldsD F)), some (.lst (optL K)), some (.lst (intL P)), some (.lst (intL (firstOf A P))), c, e]) _ (fun _ _ _ _ => trivial) (fun i d η O' hd hI N hN => ?_) ⟨rfl, by simp, _, _, rfl⟩ (fun η O' hI => ?_)
    · obtain ⟨rfl, hk, c, e, rfl⟩ := hI
      obtain ⟨k, hk1, rfl⟩ := intL_get hd
      simp -dsimp
      by_cases hm : some k ∈ K
      · simp -dsimp [hm]
        refine hN _ _ ⟨rfl, fun k' hk' => ?_, _, _, rfl⟩
        rw [List.take_add_one, hk1] at hk'
        rcases List.mem_append.mp hk' with hk' | hk'
        · exact hk k' hk'
        · rw [List.mem_singleton.mp hk']
          exact hm
      · simp -dsimp [hm]
        refine rtL_of (opt_some (hQ (some k) (.inl ?_)))
        have e1 := fr_find hk hk1 hm
        refine ⟨fun z => ?_, e1.symm⟩
        rw [z] at e1
        cases e1
    · obtain ⟨rfl, hk, c, e, rfl⟩ := hI
      rw [intL_length, List.take_of_length_le (Nat.le_refl _)] at hk
      have f0 := fr_none hk
      simp -dsimp
      refine lc_fil (b := fun d => !decide (some (intOf d) ∈ K)) (f := fun d => pairD (key F (intOf d))) _ _ (fun d hd P' N h1 h2 => ?_) trivial (by simp; exact sl_big (by omega)) ?_
      · obtain ⟨i, hi0, rfl⟩ := List.mem_map.mp hd
        obtain ⟨i1, i2⟩ := hwm i hi0
        obtain ⟨i, rfl⟩ : ∃ n : Nat, i = (n : Int) := ⟨i.toNat, by omega⟩
        simp -dsimp
        by_cases hi : some (i : Int) ∈ K
        · simp -dsimp [hi]
          exact h2 (by simp [intOf, hi])
        · simp -dsimp [hi]
          refine l_rarity (fun f hf => by rw [hF f hf]; omega) hFl ?_
          try simp -dsimp
          exact h1 (by simp [intOf, hi])
      · rw [List.nil_append, filM_ints (g := fun k => !decide (some k ∈ K)), pairs_eq]
        have efr : (P.filter fun k => !decide (some k ∈ K)) = freeOf P K := rfl
        rw [efr]
        try simp -dsimp
        refine ne_pr ?_
        by_cases hf : freeOf P K = []
        · simp -dsimp [hf]
          refine eq_intL_nil ?_
          by_cases hA : firstOf A P = []
          · simp -dsimp [hA]
            refine eq_intL_nil ?_
            cases P with
            | nil =>
              simp -dsimp
              exact rtL_of (hQ none (.inr (.inr (.inr ⟨f0, hf, hA, rfl⟩))))
            | cons k r =>
              simp -dsimp
              exact rtL_of (hQ (some k) (.inr (.inr (.inr ⟨f0, hf, hA, rfl⟩))))
          · simp -dsimp [hA]
            obtain ⟨k, r, e⟩ := head_ne hA
            rw [e]
            simp -dsimp
            exact rtL_of (hQ (some k) (.inr (.inr (.inl ⟨f0, hf, hA, by rw [e]; rfl⟩))))
        · simp -dsimp [hf]
          refine ⟨_, (freeOf P K).map (key F), rfl, pairsD_map _, by
            rw [List.length_map]
            exact List.length_pos_iff.mpr hf, fun m hm hl => ?_⟩
          obtain ⟨k, hk2, rfl⟩ := List.mem_map.mp hm
          simp -dsimp [pairD]
          refine rtL_of (opt_some (hQ (some k) (.inr (.inl ⟨f0, hf, k, hk2, rfl, fun y hy => hl _ (List.mem_map_of_mem hy)⟩))))
end
end Sw

set_option maxRecDepth 100000
set_option maxHeartbeats 4000000
namespace Sw
open PySem PySem.Spec PyProof.Rows L2
section
variable {O : OS} {Q : QD} {E : XW}
/-! ### the law's choice -/
def bestD (F : List (List Bool)) : Option Int → D
  | none => .non
  | some m => .tup [.int (rar F m : Nat), .int m]
def BestAt (P : List Int) (K : List (Option Int)) (F : List (List Bool)) (b : Option Int) : Prop :=
  (b = none ∧ freeOf P K = []) ∨ ∃ m ∈ freeOf P K, b = some m ∧ ∀ y ∈ freeOf P K, lexLe (key F m) (key F y) = true
theorem free_snoc_in {P : List Int} {K : List (Option Int)} {k : Int} (h : some k ∈ K) : freeOf (P ++ [k]) K = freeOf P K := by
  unfold freeOf
  rw [List.filter_append]
  simp [h]
theorem free_snoc_out {P : List Int} {K : List (Option Int)} {k : Int} (h : some k ∉ K) : freeOf (P ++ [k]) K = freeOf P K ++ [k] := by
  unfold freeOf
  rw [List.filter_append]
  simp [h]
theorem free_sub {P : List Int} {K : List (Option Int)} {k : Int} (h : k ∈ freeOf P K) : k ∈ P := (List.mem_filter.mp h).1
theorem best_new {P : List Int} {K : List (Option Int)} {F : List (List Bool)} {k : Int} (h : some k ∉ K) (hb : BestAt P K F none) : BestAt (P ++ [k]) K F (some k) := by
  rcases hb with ⟨_, e⟩ | ⟨m, _, e, _⟩
  · right
    rw [free_snoc_out h, e]
    refine ⟨k, by simp, rfl, fun y hy => ?_⟩
    rw [List.nil_append, List.mem_singleton] at hy
    rw [hy]
    exact lexLe_iff.mpr (.inr ⟨rfl, Int.le_refl _⟩)
  · cases e
theorem best_less {P : List Int} {K : List (Option Int)} {F : List (List Bool)} {k m : Int} (h : some k ∉ K) (hb : BestAt P K F (some m)) (hl : rar F k < rar F m) : BestAt (P ++ [k]) K F (some k) := by
  rcases hb with ⟨e, _⟩ | ⟨m', hm, e, hy⟩
  · cases e
  · cases e
    right
    rw [free_snoc_out h]
    refine ⟨k, List.mem_append_right _ (List.mem_singleton_self _), rfl, fun y hyy => ?_⟩
    rcases List.mem_append.mp hyy with hyy | hyy
    · have := lexLe_iff.mp (hy y hyy)
      refine lexLe_iff.mpr (.inl ?_)
      simp only [key] at this ⊢
      omega
    · rw [List.mem_singleton.mp hyy]
      exact lexLe_iff.mpr (.inr ⟨rfl, Int.le_refl _⟩)
theorem best_more {P : List Int} {K : List (Option Int)} {F : List (List Bool)} {k m : Int} (h : some k ∉ K) (hb : BestAt P K F (some m)) (hl : ¬ rar F k < rar F m) (hs : ∀ y ∈ P, y < k) : BestAt (P ++ [k]) K F (some m) := by
  rcases hb with ⟨e, _⟩ | ⟨m', hm, e, hy⟩
  · cases e
  · cases e
    right
    rw [free_snoc_out h]
    refine ⟨m, List.mem_append_left _ hm, rfl, fun y hyy => ?_⟩
    rcases List.mem_append.mp hyy with hyy | hyy
    · exact hy y hyy
    · rw [List.mem_singleton.mp hyy]
      have := hs m (free_sub hm)
      refine lexLe_iff.mpr ?_
      simp only [key]
      omega
theorem best_old {P : List Int} {K : List (Option Int)} {F : List (List Bool)} {k : Int} {b : Option Int} (h : some k ∈ K) (hb : BestAt P K F b) : BestAt (P ++ [k]) K F b := by
  unfold BestAt at *
  rw [free_snoc_in h]
  exact hb
theorem l_lchoice {P A : List Int} {F : List (List Bool)} {K : List (Option Int)} {c : Nat} (hc : c ≤ 4096) (hP : ∀ k ∈ P, 0 ≤ k ∧ k < c) (hs : P.Pairwise (· < ·)) (hPl : P.length ≤ 4096) (hA : A.length ≤ 1000) (hF : ∀ f ∈ F, f.length = c) (hFl : F.length ≤ 1000)
    (hQ : ∀ r, IsCh P A F K r → Q (optD r) O) : fs__law_choice [.lst (intL P), .lst (intL A), .lst (fieldsD F), .lst (optL K)] O Q E := by
  simp -dsimp [fs__law_choice, w__law_choice]
  refine lc_fil (b := fun d => decide (intOf d ∈ P)) (f := id) _ _ (fun d hd P' N h1 h2 => ?_) trivial (by simp; exact sl_big (by omega)) ?_
  · obtain ⟨i, _, rfl⟩ := List.mem_map.mp hd
    simp -dsimp
    by_cases hi : i ∈ P
    · simp -dsimp [hi]
      exact h1 (by simp [intOf, hi])
    · simp -dsimp [hi]
      exact h2 (by simp [intOf, hi])
  · rw [List.nil_append, fil_ints (g := fun k => decide (k ∈ P))]
    have hfl : (firstOf A P).length ≤ 1000 := filL_len hA
    have efl : (A.filter fun k => decide (k ∈ P)) = firstOf A P := rfl
    rw [efl]
    try simp -dsimp
    refine lc_fil (b := fun d => !decide (some (intOf d) ∈ K)) (f := id) _ _ (fun d hd P' N h1 h2 => ?_) trivial (by simp; exact sl_big (by omega)) ?_
    · obtain ⟨i, _, rfl⟩ := List.mem_map.mp hd
      simp -dsimp
      by_cases hi : some i ∈ K
      · simp -dsimp [hi]
        exact h2 (by simp [intOf, hi])
      · simp -dsimp [hi]
        exact h1 (by simp [intOf, hi])
    · rw [List.nil_append, fil_ints (g := fun k => !decide (some k ∈ K))]
      have efr : ((firstOf A P).filter fun k => !decide (some k ∈ K)) = freeOf (firstOf A P) K := rfl
      rw [efr]
      try simp -dsimp
      refine eq_intL_nil ?_
      by_cases hf : freeOf (firstOf A P) K = []
      · simp -dsimp [hf]
        refine for_inv (I := fun i η O' => O' = O ∧ (∃ b, BestAt (P.take i) K F b ∧ ∃ d e f, η = [some (.lst (intL P)), some (.lst (intL A)), some (.lst (fieldsD F)), some (.lst (optL K)), some (.lst (intL (firstOf A P))), some (.lst []), some (bestD F b), d, e, f])) _ (fun _ _ _ _ => trivial) (fun i d η O' hd hI N hN => ?_) ⟨rfl, none, .inl ⟨rfl, by simp [freeOf]⟩, _, _, _, rfl⟩ (fun η O' hI => ?_)
        · obtain ⟨rfl, b, hb, d', e, f, rfl⟩ := hI
          obtain ⟨k, hk1, rfl⟩ := intL_get hd
          have hkm := List.mem_of_getElem? hk1
          obtain ⟨i1, i2⟩ := hP k hkm
          have et : P.take (i + 1) = P.take i ++ [k] := by rw [List.take_add_one, hk1]; rfl
          have hlt : ∀ y ∈ P.take i, y < k := fun y hy => by
            obtain ⟨j, hj, rfl⟩ := List.mem_iff_getElem.mp hy
            rw [List.length_take] at hj
            obtain ⟨hi', rfl⟩ := List.getElem?_eq_some_iff.mp hk1
            rw [List.getElem_take]
            exact List.pairwise_iff_getElem.mp hs j i (by omega) hi' (by omega)
          obtain ⟨n, rfl⟩ : ∃ n : Nat, k = (n : Int) := ⟨k.toNat, by omega⟩
          simp -dsimp
          refine lc_fil (b := ixB n) (f := id) _ _ (fun d hd P' N' h1 h2 => ?_) trivial (by unfold fieldsD; simp; exact sl_big (by omega)) ?_
          · obtain ⟨g, hg, rfl⟩ := List.mem_map.mp hd
            have hk : n < g.length := by rw [hF g hg]; omega
            have e : g[n]? = some g[n] := List.getElem?_eq_getElem hk
            simp -dsimp [blL_at e]
            rw [ixB_of hk] at h1 h2
            generalize g[n] = b at h1 h2
            cases b
            · exact h2 rfl
            · simp -dsimp
              exact h1 rfl
          · rw [List.nil_append, List.map_id]
            simp -dsimp
            rw [fil_len fun f hf => by rw [hF f hf]; omega]
            have go : ∀ b', BestAt (P.take i ++ [(n : Int)]) K F b' → ∀ η', (∃ d e f, η' = [some (.lst (intL P)), some (.lst (intL A)), some (.lst (fieldsD F)), some (.lst (optL K)), some (.lst (intL (firstOf A P))), some (.lst []), some (bestD F b'), d, e, f]) → N η' O' := fun b' h η' hη => hN _ _ ⟨rfl, b', by rw [et]; exact h, hη⟩
            by_cases hm : some (n : Int) ∈ K
            · simp -dsimp [hm]
              exact go b (best_old hm hb) _ ⟨_, _, _, rfl⟩
            · cases b with
              | none =>
                simp -dsimp [hm, bestD]
                exact go (some (n : Int)) (best_new hm hb) _ ⟨_, _, _, rfl⟩
              | some m =>
                simp -dsimp [hm, bestD]
                by_cases hl : rar F n < rar F m
                · simp -dsimp [hl]
                  exact go (some (n : Int)) (best_less hm hb hl) _ ⟨_, _, _, rfl⟩
                · simp -dsimp [hl]
                  exact go (some m) (best_more hm hb hl hlt) _ ⟨_, _, _, rfl⟩
        · obtain ⟨rfl, b, hb, d', e, f, rfl⟩ := hI
          rw [intL_length, List.take_of_length_le (Nat.le_refl _)] at hb
          rcases hb with ⟨rfl, hf2⟩ | ⟨m, hm, rfl, hy⟩
          · simp -dsimp [bestD]
            refine eq_intL_nil ?_
            by_cases hA2 : firstOf A P = []
            · simp -dsimp [hA2]
              refine eq_intL_nil ?_
              cases P with
              | nil =>
                simp -dsimp
                exact rtL_of (hQ none (.inr (.inr (.inr ⟨hf, hf2, hA2, rfl⟩))))
              | cons k r =>
                simp -dsimp
                exact rtL_of (hQ (some k) (.inr (.inr (.inr ⟨hf, hf2, hA2, rfl⟩))))
            · simp -dsimp [hA2]
              obtain ⟨k, r, e⟩ := head_ne hA2
              rw [e]
              simp -dsimp
              exact rtL_of (hQ (some k) (.inr (.inr (.inl ⟨hf, hf2, hA2, by rw [e]; rfl⟩))))
          · have hne : freeOf P K ≠ [] := fun z => by
              rw [z] at hm
              cases hm
            simp -dsimp [bestD]
            exact rtL_of (hQ (some m) (.inr (.inl ⟨hf, hne, m, hm, rfl, hy⟩)))
      · simp -dsimp [hf]
        obtain ⟨k, r, e⟩ := head_ne hf
        rw [e]
        simp -dsimp
        exact rtL_of (hQ (some k) (.inl ⟨hf, by rw [e]; rfl⟩))
end
end Sw

set_option maxRecDepth 100000
set_option maxHeartbeats 4000000
namespace Sw
open PySem PySem.Spec PyProof.Rows L2
section
variable {O : OS} {Q : QD} {E : XW}
/-- a comprehension whose items are known by a property alone -/
theorem lc_any {g : WG} {te : WE} {η : Sl} {st : OS → Prop} {R : D → Prop} : ∀ (items acc : List D) {Q : QD}, (∀ d ∈ items, ∀ P : QD, (∀ y, R y → P y O) → g d η O fun η1 O1 => te η1 O1 P) → st O → acc.length + items.length ≤ sizeLine →
    (∀ ys : List D, ys.length = items.length → (∀ y ∈ ys, R y) → Q (.lst (acc ++ ys)) O) → lcGo g wYes te η st items acc O Q
  | [], acc, Q, _, hst, _, hQ => ⟨hst, by simpa using hQ [] rfl (fun y hy => nomatch hy)⟩
  | d :: r, acc, Q, h, hst, hl, hQ => by
    refine ⟨hst, ?_⟩
    refine h d (List.mem_cons_self ..) _ fun y hy => ?_
    have hl : acc.length + (r.length + 1) ≤ sizeLine := hl
    refine ⟨by omega, lc_any r (acc ++ [y]) (fun x hx => h x (List.mem_cons_of_mem _ hx)) hst ?_ fun ys h1 h2 => ?_⟩
    · rw [List.length_append, List.length_singleton]
      omega
    · rw [List.append_assoc]
      exact hQ (y :: ys) (by rw [List.length_cons, List.length_cons, h1]) fun z hz => by
        rcases List.mem_cons.mp hz with rfl | hz
        · exact hy
        · exact h2 z hz
theorem if_key {α : Type} {b : Bool} {A : Prop} {nx : Sl → OS → Prop} {η : Sl} {η' : α → Sl} (H0 : α) (e : η = η' H0) (key : ∀ H, nx (η' H) O) (h : (∀ H, nx (η' H) O) → A) : onTF b A (nx η O) := by
  rw [onTF_and, e]
  exact And.intro (fun _ => h key) fun _ => key H0
theorem eq_same {d : D} (h : plD d = true) (h2 : dpD d ≤ 64) (hQ : Q (.bl false) O) : rEqq true d d O Q := by
  rw [rEqq_pl h h h2 h2, eqT_refl d h]
  exact hQ
theorem fields_of {c : Nat} : ∀ {ys : List D}, (∀ y ∈ ys, ∃ bs : List Bool, bs.length = c ∧ y = .lst (blL bs)) → ∃ F : List (List Bool), ys = fieldsD F ∧ ∀ f ∈ F, f.length = c
  | [], _ => ⟨[], rfl, fun f hf => nomatch hf⟩
  | y :: ys, h => by
    obtain ⟨bs, h1, h2⟩ := h y (List.mem_cons_self ..)
    obtain ⟨F, h3, h4⟩ := fields_of fun z hz => h z (List.mem_cons_of_mem _ hz)
    refine ⟨bs :: F, by rw [h2, h3]; rfl, fun f hf => ?_⟩
    rcases List.mem_cons.mp hf with rfl | hf
    · exact h1
    · exact h4 f hf
theorem opts_of : ∀ {ys : List D}, (∀ y ∈ ys, ∃ o, y = optD o) → ∃ K, ys = optL K
  | [], _ => ⟨[], rfl⟩
  | y :: ys, h => by
    obtain ⟨o, h2⟩ := h y (List.mem_cons_self ..)
    obtain ⟨F, h3⟩ := opts_of fun z hz => h z (List.mem_cons_of_mem _ hz)
    exact ⟨o :: F, by rw [h2, h3]; rfl⟩
@[simp] theorem fieldsD_length {F : List (List Bool)} : (fieldsD F).length = F.length := by unfold fieldsD; rw [List.length_map]
@[simp] theorem plDs_blL {l : List Bool} : plDs (blL l) = true := plDs_bls
@[simp] theorem dpDs_blL {l : List Bool} : dpDs (blL l) = 0 := dpDs_bls
@[simp] theorem plDs_intL {l : List Int} : plDs (intL l) = true := plDs_ints
@[simp] theorem dpDs_intL {l : List Int} : dpDs (intL l) = 0 := dpDs_ints
@[simp] theorem plDs_fields {F : List (List Bool)} : plDs (fieldsD F) = true := by
  rw [plDs_all]
  refine List.all_eq_true.mpr fun d hd => ?_
  obtain ⟨f, _, rfl⟩ := List.mem_map.mp hd
  simp
theorem dpDs_fields {F : List (List Bool)} : dpDs (fieldsD F) ≤ 1 := dpDs_le fun d hd => by
  obtain ⟨f, _, rfl⟩ := List.mem_map.mp hd
  simp
@[simp] theorem plDs_optL {l : List (Option Int)} : plDs (optL l) = true := by
  rw [plDs_all]
  refine List.all_eq_true.mpr fun d hd => ?_
  obtain ⟨f, _, rfl⟩ := List.mem_map.mp hd
  cases f <;> rfl
theorem dpDs_optL {l : List (Option Int)} : dpDs (optL l) ≤ 0 := dpDs_le fun d hd => by
  obtain ⟨f, _, rfl⟩ := List.mem_map.mp hd
  cases f <;> exact Nat.le_refl _
theorem win4_at (n : Nat) : ∃ w : Nat, atI [D.int 1, D.int 2, D.int 3, D.int 1000] ((n : Int) / 11 % 4) = some (.int (w : Int)) ∧ 1 ≤ w ∧ w ≤ 1000 := by
  have e : (n : Int) / 11 % 4 = ((n / 11 % 4 : Nat) : Int) := by omega
  rw [e]
  have h : n / 11 % 4 < 4 := Nat.mod_lt _ (by omega)
  generalize n / 11 % 4 = r at h
  match r, h with
  | 0, _ => exact ⟨1, atI_at 0 rfl rfl, by omega, by omega⟩
  | 1, _ => exact ⟨2, atI_at 1 rfl rfl, by omega, by omega⟩
  | 2, _ => exact ⟨3, atI_at 2 rfl rfl, by omega, by omega⟩
  | 3, _ => exact ⟨1000, atI_at 3 rfl rfl, by omega, by omega⟩
theorem two_at {x y : D} {i : Int} (h : i = 0 ∨ i = 1) : ∃ z, atI [x, y] i = some z ∧ (z = x ∨ z = y) := by
  rcases h with rfl | rfl
  · exact ⟨x, atI_at 0 rfl rfl, .inl rfl⟩
  · exact ⟨y, atI_at 1 rfl rfl, .inr rfl⟩
theorem desc_count (n : Nat) : (descOf n).count ≤ 17 := by
  have h := desc_total n
  have hz := sizeOk_le (desc_ok n).size
  unfold Dsc.count
  have h1 : ((descOf n).total - 1) / (descOf n).size < 17 := Int.ediv_lt_of_lt_mul (by omega) (by omega)
  omega
end
theorem law_ok : LawD fs_law 63 := by
  intro ns hlen hbits
  simp only [fs_law]
  rw [fsOf_eq]
  simp -dsimp [w_law]
  refine l_draws (a := 0) (m := 30) hlen fun ds hds hd0 => ?_
  have e0 : intL ds ++ [.int 5] = intL (ds ++ [5]) := intL_snoc
  have hd0 : ∀ i ∈ ds ++ [5], 0 ≤ i := fun i hi => by
    rcases List.mem_append.mp hi with hi | hi
    · exact hd0 i hi
    · rw [List.mem_singleton.mp hi]
      omega
  simp -dsimp
  refine ⟨sl_big (by omega), ?_⟩
  rw [e0]
  generalize ds ++ [5] = ds at hd0
  refine for_inv (I := fun _ η _ => ∃ a1 a2 a3 a4 a5 a6 a7 a8 a9 b0 b1 b2 b3 b4 b5 b6 b7 b8 b9, η = [some (.scr (ns.map .int)), a1, a2, a3, a4, a5, a6, a7, a8, a9, b0, b1, b2, b3, b4, b5, b6, b7, b8, b9]) _ (fun _ _ _ _ => trivial) (fun k d η O hd hI N hN => ?_) ⟨_, _, _, _, _, _, _, _, _, _, _, _, _, _, _, _, _, _, _, rfl⟩ (fun η O hI => ?_)
  · obtain ⟨a1, a2, a3, a4, a5, a6, a7, a8, a9, b0, b1, b2, b3, b4, b5, b6, b7, b8, b9, rfl⟩ := hI
    obtain ⟨n, hn, rfl⟩ := intL_get hd
    have hn0 := hd0 n (List.mem_of_getElem? hn)
    obtain ⟨n, rfl⟩ : ∃ m : Nat, n = (m : Int) := ⟨n.toNat, by omega⟩
    obtain ⟨w, ew, hw⟩ := win4_at n
    have hp := pl_ok (n := n) hw
    have hx := desc_ok n
    have hz := sizeOk_le hx.size
    have hnf := nfOf_le n
    have hfl : (descOf n).files.length = nfOf n := filesOf_len n
    have hsl := stream_le (n := n) hw
    try simp -dsimp
    refine l_desc ?_
    have e7 : (n : Int) / 7 = ((n / 7 : Nat) : Int) := by omega
    rw [e7]
    refine l_files hfl (by omega) (by omega) ?_
    try simp -dsimp
    rw [ew, onO_some]
    try simp -dsimp
    intro a ha
    refine l_plan (p := plOf n w) hp ha ⟨rfl, ?_⟩
    refine l_stream (x := descOf n) (fs := selOf (n / 7) (nfOf n)) (by omega) hp.f (fun i _ => by have := st_le n i; omega) hp.few ?_
    generalize hS : streamOf (descOf n).lens (selOf (n / 7) (nfOf n)) = S at hsl ⊢
    have ewt : natsD (wantL (plOf n w).x (plOf n w).fs) = intL (lwant (descOf n).size S (((descOf n).total + (descOf n).size - 1) / (descOf n).size)) := by
      rw [← hS]
      exact wanted_eq hp
    have hc : ((descOf n).total + (descOf n).size - 1) / (descOf n).size = (descOf n).count := (count_eq (by omega)).symm
    have hc2 := hx.count_le
    have hc3 := desc_count n
    try simp -dsimp
    rw [show (intL S).length = S.length from intL_length]
    obtain ⟨v, ev, hv⟩ : ∃ v : Nat, (n : Int) / 13 % ((S.length : Int) + 1) = (v : Int) ∧ v ≤ S.length := by
      have h1 := Int.emod_nonneg (a := (n : Int) / 13) (b := (S.length : Int) + 1) (by omega)
      have h2 := Int.emod_lt_of_pos (a := (n : Int) / 13) (b := (S.length : Int) + 1) (by omega)
      exact ⟨((n : Int) / 13 % ((S.length : Int) + 1)).toNat, by omega, by omega⟩
    rw [ev]
    refine l_move put_same ?_
    rw [put_put]
    refine l_lcount (x := descOf n) (by omega) hz ?_
    obtain ⟨c, ec, hcc⟩ : ∃ c : Nat, (descOf n).count = (c : Int) ∧ 1 ≤ c ∧ c ≤ 17 := ⟨(descOf n).count.toNat, by omega, by omega, by omega⟩
    rw [hc, ec]
    rw [hc, ec] at ewt
    refine l_flags (c := c) (by omega) fun bs hbs => ?_
    simp -dsimp
    refine ⟨by omega, ?_⟩
    obtain ⟨z2, ez2, hz2⟩ := two_at (x := D.int 2) (y := D.int 5) (i := (n : Int) / 29 % 2) (by omega)
    obtain ⟨m2, rfl, hm2⟩ : ∃ m : Int, z2 = .int m ∧ 0 < m := by
      rcases hz2 with rfl | rfl
      · exact ⟨2, rfl, by omega⟩
      · exact ⟨5, rfl, by omega⟩
    refine lc_fil (b := fun d => decide ((n : Int) / (19 + intOf d) % m2 = 0)) (f := id) _ _ (fun d hd P' N' h1 h2 => ?_) trivial (by rw [rgD_len]; exact sl_big (by simp; omega)) ?_
    · obtain ⟨i, rfl, i0, i1⟩ := rgD_mem hd
      simp -dsimp [ez2, hm2]
      refine ⟨⟨by omega, by omega⟩, ?_⟩
      by_cases hi : (n : Int) / (19 + i) % m2 = 0
      · simp -dsimp [hi]
        exact h1 (by simp [intOf, hi])
      · simp -dsimp [hi]
        exact h2 (by simp [intOf, hi])
    rw [List.nil_append, rgD_I, fil_ints (g := fun k => decide ((n : Int) / (19 + k) % m2 = 0))]
    generalize hH0 : (rgI 0 (c : Int)).filter (fun k => decide ((n : Int) / (19 + k) % m2 = 0)) = H0
    have hH0l : H0.length ≤ 17 := by
      rw [← hH0]
      have := filter_rg_len (fun k => decide ((n : Int) / (19 + k) % m2 = 0)) c
      omega
    generalize hW : lwant (descOf n).size S (c : Int) = W at ewt
    have hWl : W.length ≤ 17 := by
      rw [← hW]
      exact Nat.le_trans (filter_rg_len _ c) (by omega)
    try simp -dsimp
    refine if_key (η' := fun H : List Int => [some (.scr (ns.map .int)), some (.int n), some (descOf n).d, some (.tup (natsD (selOf (n / 7) (nfOf n)))), some (.int w), some (.ref a), some (.lst (intL S)), some (.int v), some (.int c), some (.lst (blL bs)), some (.lst (intL H)), b1, b2, b3, b4, b5, b6, b7, b8, b9]) H0 rfl (fun H => ?_) fun key => ?_
    rotate_left
    · simp -dsimp
      refine l_lwanted (x := descOf n) (by omega) hz (by omega) (by rw [hc, ec]; omega) ?_
      rw [hc, ec, hW]
      simp -dsimp
      refine ⟨sl_big (by omega), ?_⟩
      rw [intL_app]
      rw [show ∀ (O : OS), seqI O (.lst (intL (H0 ++ W))) = some (H0 ++ W) from fun O => intsD_L, onO_some]
      refine ⟨by rw [List.length_append]; omega, fun ks _ _ => ?_⟩
      exact key ks
    simp -dsimp
    refine ⟨by omega, ?_⟩
    refine lc_any (R := fun y => ∃ bs : List Bool, bs.length = c ∧ y = .lst (blL bs)) _ _ (fun d hd P' hP' => ?_) trivial (by rw [rgD_len]; exact sl_big (by simp; omega)) fun ys _ hys => ?_
    · obtain ⟨i, rfl, i0, i1⟩ := rgD_mem hd
      simp -dsimp
      refine ⟨⟨by omega, by omega⟩, ?_⟩
      exact l_flags (c := c) (by omega) fun bs' hb' => hP' _ ⟨bs', hb', rfl⟩
    rename_i hyl
    obtain ⟨F0, rfl, hF0⟩ := fields_of hys
    rw [rgD_len, fieldsD_length] at hyl
    have hF0l : F0.length ≤ 4 := by omega
    rw [List.nil_append]
    simp -dsimp
    refine ⟨sl_big (by omega), ?_⟩
    have eF : fieldsD F0 ++ [.lst (blL bs)] = fieldsD (F0 ++ [bs]) := by
      unfold fieldsD
      rw [List.map_append]
      rfl
    rw [eF]
    have hF : ∀ f ∈ F0 ++ [bs], f.length = c := fun f hf => by
      rcases List.mem_append.mp hf with hf | hf
      · exact hF0 f hf
      · rw [List.mem_singleton.mp hf]
        exact hbs
    have hFl : (F0 ++ [bs]).length ≤ 5 := by
      rw [List.length_append, List.length_singleton]
      omega
    generalize F0 ++ [bs] = F at hF hFl
    try simp -dsimp
    refine ⟨by omega, ?_⟩
    refine lc_any (R := fun y => ∃ o, y = optD o) _ _ (fun d hd P' hP' => ?_) trivial (by rw [rgD_len]; exact sl_big (by simp; omega)) fun ys hyl hys => ?_
    · obtain ⟨i, rfl, i0, i1⟩ := rgD_mem hd
      simp -dsimp
      obtain ⟨z, ez, hz3⟩ := two_at (x := D.non) (y := D.int ((n : Int) / (3 + i) % c)) (i := (n : Int) / (41 + i) % 2) (by omega)
      refine ⟨⟨by omega, by omega⟩, by omega, ⟨by omega, by omega⟩, ?_⟩
      rw [ez, onO_some]
      rcases hz3 with rfl | rfl
      · exact hP' _ ⟨none, rfl⟩
      · exact hP' _ ⟨some _, rfl⟩
    obtain ⟨K, rfl⟩ := opts_of hys
    rw [rgD_len, optL_length] at hyl
    rw [List.nil_append]
    simp -dsimp
    refine lc_map (f := id) _ _ (fun d hd P' hP' => ?_) trivial (by simp; exact sl_big (by omega)) ?_
    · obtain ⟨f, _, rfl⟩ := List.mem_map.mp hd
      simp -dsimp
      exact hP'
    rw [List.nil_append, List.map_id]
    have hp0 := hbs
    have small := small_of (n := n) (w := w)
    have ea : (plOf n w).ahead (v : Int) = (((S.drop v).map (· / (descOf n).size)).foldl addU []).take w := by
      rw [← hS]
      exact ahead_at hp v
    have hal : ((plOf n w).ahead (v : Int)).length ≤ 1000 := by
      have h1 : ((plOf n w).ahead (v : Int)).length ≤ (plOf n w).w := ahSteps_len (Nat.zero_le _)
      have := hp.w
      omega
    have hW' : lwant (descOf n).size S (((descOf n).total + (descOf n).size - 1) / (descOf n).size) = W := by rw [hc, ec]; exact hW
    refine l_lwants (x := descOf n) (by omega) hz (by omega) (by rw [hc, ec]; omega) hW' (by omega) (by omega) ?_
    have hwm : ∀ k ∈ wantsOf W bs H, 0 ≤ k ∧ k < (c : Int) := fun k hk => by
      have h1 := List.mem_filter.mp hk
      rw [← hbs]
      exact rgI_mem.mp h1.1
    have hwl : (wantsOf W bs H).length ≤ 4096 := by
      have := filter_rg_len (wtP W bs H) bs.length
      rw [wants_P]
      omega
    have hws : (wantsOf W bs H).Pairwise (· < ·) := by
      rw [wants_P, rgI_nat]
      refine List.Pairwise.filter _ (List.Pairwise.map _ (fun a b h => ?_) List.pairwise_lt_range)
      omega
    simp -dsimp
    refine l_wants put_same ewt (by omega) (by omega) ?_
    try simp -dsimp
    refine eq_intL ?_
    simp -dsimp
    refine l_lahead (x := descOf n) hz (by omega) ?_
    rw [← ea]
    try simp -dsimp
    refine l_lchoice (c := c) (by omega) hwm hws hwl hal hF (by omega) fun r hr => ?_
    try simp -dsimp
    refine l_choose hp put_same small ⟨by omega, by omega⟩ ewt (by omega) (by omega) (fun f hf => by rw [hF f hf, hbs]) (by omega) fun r' hr' => ?_
    cases isCh_one hr hr'
    have hpl : plD (optD r) = true := by cases r <;> rfl
    have hdl : dpD (optD r) ≤ 64 := by cases r <;> exact Nat.zero_le _
    try simp -dsimp
    refine eq_same hpl hdl ?_
    try simp -dsimp
    refine eq_same rfl (Nat.zero_le _) ?_
    have fin : ∀ η', (∃ a1 a2 a3 a4 a5 a6 a7 a8 a9 b0 b1 b2 b3 b4 b5 b6 b7 b8 b9, η' = [some (.scr (ns.map .int)), a1, a2, a3, a4, a5, a6, a7, a8, a9, b0, b1, b2, b3, b4, b5, b6, b7, b8, b9]) → ∀ O', N η' O' := fun η' h O' => hN _ _ h
    have hdF := dpDs_fields (F := F)
    have hdK := dpDs_optL (l := K)
    cases r with
    | none =>
      simp -dsimp [optD]
      refine eq_same (by simp) (by simp; omega) ?_
      simp -dsimp
      exact fin _ ⟨_, _, _, _, _, _, _, _, _, _, _, _, _, _, _, _, _, _, _, rfl⟩ _
    | some r =>
      simp -dsimp [optD]
      refine eq_same (by simp) (by simp; omega) ?_
      simp -dsimp
      exact fin _ ⟨_, _, _, _, _, _, _, _, _, _, _, _, _, _, _, _, _, _, _, rfl⟩ _
  · obtain ⟨a1, a2, a3, a4, a5, a6, a7, a8, a9, b0, b1, b2, b3, b4, b5, b6, b7, b8, b9, rfl⟩ := hI
    simp -dsimp
    exact rtL_of rfl
end Sw

set_option maxRecDepth 100000
set_option maxHeartbeats 0
namespace Sw
open PySem PySem.Spec PyProof.Rows L2
def top (i : Nat) : Stmt := PySem.Challenge.pw_swarmwhole_k87_choices_of_a_plan.main.body.getD i (.Pass ⟨0, 0, 0, 0⟩)
def W0 (K : PySem.W.Frag) : Wc := ⟨fun c => He.ga K c, layF⟩
abbrev st__law_draws : Stmt := (top 53)
def df__law_draws : He.DefD := ⟨("_law_draws", none), "_law_draws", "_law_draws", defArgs st__law_draws, defBody st__law_draws, defScope st__law_draws, [], []⟩
abbrev st__law_description : Stmt := (top 54)
def df__law_description : He.DefD := ⟨("_law_description", none), "_law_description", "_law_description", defArgs st__law_description, defBody st__law_description, defScope st__law_description, [], []⟩
abbrev st__law_files : Stmt := (top 58)
def df__law_files : He.DefD := ⟨("_law_files", none), "_law_files", "_law_files", defArgs st__law_files, defBody st__law_files, defScope st__law_files, [], []⟩
abbrev st_is_integer : Stmt := (top 6)
def df_is_integer : He.DefD := ⟨("is_integer", none), "is_integer", "is_integer", defArgs st_is_integer, defBody st_is_integer, defScope st_is_integer, [], []⟩
abbrev st_is_octet : Stmt := (top 7)
def df_is_octet : He.DefD := ⟨("is_octet", none), "is_octet", "is_octet", defArgs st_is_octet, defBody st_is_octet, defScope st_is_octet, [], []⟩
abbrev st_is_octets : Stmt := (top 8)
def df_is_octets : He.DefD := ⟨("is_octets", none), "is_octets", "is_octets", defArgs st_is_octets, defBody st_is_octets, defScope st_is_octets, [], [("size", .non)]⟩
abbrev st_is_name_octet : Stmt := (top 27)
def df_is_name_octet : He.DefD := ⟨("is_name_octet", none), "is_name_octet", "is_name_octet", defArgs st_is_name_octet, defBody st_is_name_octet, defScope st_is_name_octet, [], []⟩
abbrev st_is_name : Stmt := (top 28)
def df_is_name : He.DefD := ⟨("is_name", none), "is_name", "is_name", defArgs st_is_name, defBody st_is_name, defScope st_is_name, [], []⟩
abbrev st_is_kind : Stmt := (top 12)
def df_is_kind : He.DefD := ⟨("is_kind", none), "is_kind", "is_kind", defArgs st_is_kind, defBody st_is_kind, defScope st_is_kind, [], []⟩
abbrev st_is_size : Stmt := (top 34)
def df_is_size : He.DefD := ⟨("is_size", none), "is_size", "is_size", defArgs st_is_size, defBody st_is_size, defScope st_is_size, [], []⟩
abbrev st_is_path : Stmt := (top 29)
def df_is_path : He.DefD := ⟨("is_path", none), "is_path", "is_path", defArgs st_is_path, defBody st_is_path, defScope st_is_path, [], []⟩
abbrev st_is_file : Stmt := (top 30)
def df_is_file : He.DefD := ⟨("is_file", none), "is_file", "is_file", defArgs st_is_file, defBody st_is_file, defScope st_is_file, [], []⟩
abbrev st_are_apart : Stmt := (top 31)
def df_are_apart : He.DefD := ⟨("are_apart", none), "are_apart", "are_apart", defArgs st_are_apart, defBody st_are_apart, defScope st_are_apart, [], []⟩
abbrev st_are_files_descriptions : Stmt := (top 32)
def df_are_files_descriptions : He.DefD := ⟨("are_files_descriptions", none), "are_files", "are_files", defArgs st_are_files_descriptions, defBody st_are_files_descriptions, defScope st_are_files_descriptions, [], []⟩
abbrev st_fault_of : Stmt := (top 35)
def df_fault_of : He.DefD := ⟨("fault_of", none), "fault_of", "fault_of", defArgs st_fault_of, defBody st_fault_of, defScope st_fault_of, [], []⟩
abbrev st_check_description : Stmt := (top 36)
def df_check_description : He.DefD := ⟨("check_description", none), "check_description", "check_description", defArgs st_check_description, defBody st_check_description, defScope st_check_description, [], []⟩
abbrev st_are_files_playing : Stmt := (top 48)
def df_are_files_playing : He.DefD := ⟨("are_files_playing", none), "are_files", "are_files", defArgs st_are_files_playing, defBody st_are_files_playing, defScope st_are_files_playing, [], []⟩
abbrev st_length_of : Stmt := (top 37)
def df_length_of : He.DefD := ⟨("length_of", none), "length_of", "length_of", defArgs st_length_of, defBody st_length_of, defScope st_length_of, [], []⟩
abbrev st_count_of : Stmt := (top 38)
def df_count_of : He.DefD := ⟨("count_of", none), "count_of", "count_of", defArgs st_count_of, defBody st_count_of, defScope st_count_of, [], []⟩
abbrev st_piece_count : Stmt := (top 39)
def df_piece_count : He.DefD := ⟨("piece_count", none), "piece_count", "piece_count", defArgs st_piece_count, defBody st_piece_count, defScope st_piece_count, [], []⟩
abbrev st_is_index : Stmt := (top 40)
def df_is_index : He.DefD := ⟨("is_index", none), "is_index", "is_index", defArgs st_is_index, defBody st_is_index, defScope st_is_index, [], []⟩
abbrev st_check_index : Stmt := (top 41)
def df_check_index : He.DefD := ⟨("check_index", none), "check_index", "check_index", defArgs st_check_index, defBody st_check_index, defScope st_check_index, [], []⟩
abbrev st_starts_of : Stmt := (top 42)
def df_starts_of : He.DefD := ⟨("starts_of", none), "starts_of", "starts_of", defArgs st_starts_of, defBody st_starts_of, defScope st_starts_of, [], []⟩
abbrev st_pieces_of : Stmt := (top 43)
def df_pieces_of : He.DefD := ⟨("pieces_of", none), "pieces_of", "pieces_of", defArgs st_pieces_of, defBody st_pieces_of, defScope st_pieces_of, [], []⟩
abbrev st_Plan__all_wanted : Stmt := (inClass (top 50) 1)
def df_Plan__all_wanted : He.DefD := ⟨("Plan", some "_all_wanted"), "_all_wanted", "Plan._all_wanted", defArgs st_Plan__all_wanted, defBody st_Plan__all_wanted, defScope st_Plan__all_wanted, [], []⟩
abbrev st_Plan___init__ : Stmt := (inClass (top 50) 0)
def df_Plan___init__ : He.DefD := ⟨("Plan", some "__init__"), "__init__", "Plan.__init__", defArgs st_Plan___init__, defBody st_Plan___init__, defScope st_Plan___init__, [], []⟩
abbrev st__law_starts : Stmt := (top 55)
def df__law_starts : He.DefD := ⟨("_law_starts", none), "_law_starts", "_law_starts", defArgs st__law_starts, defBody st__law_starts, defScope st__law_starts, [], []⟩
abbrev st__law_stream : Stmt := (top 56)
def df__law_stream : He.DefD := ⟨("_law_stream", none), "_law_stream", "_law_stream", defArgs st__law_stream, defBody st__law_stream, defScope st__law_stream, [], []⟩
abbrev st_Plan_move : Stmt := (inClass (top 50) 4)
def df_Plan_move : He.DefD := ⟨("Plan", some "move"), "move", "Plan.move", defArgs st_Plan_move, defBody st_Plan_move, defScope st_Plan_move, [], []⟩
abbrev st__law_count : Stmt := (top 57)
def df__law_count : He.DefD := ⟨("_law_count", none), "_law_count", "_law_count", defArgs st__law_count, defBody st__law_count, defScope st__law_count, [], []⟩
abbrev st__law_flags : Stmt := (top 61)
def df__law_flags : He.DefD := ⟨("_law_flags", none), "_law_flags", "_law_flags", defArgs st__law_flags, defBody st__law_flags, defScope st__law_flags, [], []⟩
abbrev st__law_wanted : Stmt := (top 60)
def df__law_wanted : He.DefD := ⟨("_law_wanted", none), "_law_wanted", "_law_wanted", defArgs st__law_wanted, defBody st__law_wanted, defScope st__law_wanted, [], []⟩
abbrev st__law_wants : Stmt := (top 62)
def df__law_wants : He.DefD := ⟨("_law_wants", none), "_law_wants", "_law_wants", defArgs st__law_wants, defBody st__law_wants, defScope st__law_wants, [], []⟩
abbrev st_Plan_wants : Stmt := (inClass (top 50) 9)
def df_Plan_wants : He.DefD := ⟨("Plan", some "wants"), "wants", "Plan.wants", defArgs st_Plan_wants, defBody st_Plan_wants, defScope st_Plan_wants, [], []⟩
abbrev st__law_choice : Stmt := (top 63)
def df__law_choice : He.DefD := ⟨("_law_choice", none), "_law_choice", "_law_choice", defArgs st__law_choice, defBody st__law_choice, defScope st__law_choice, [], []⟩
abbrev st__law_ahead : Stmt := (top 59)
def df__law_ahead : He.DefD := ⟨("_law_ahead", none), "_law_ahead", "_law_ahead", defArgs st__law_ahead, defBody st__law_ahead, defScope st__law_ahead, [], []⟩
abbrev st_Plan__starts : Stmt := (inClass (top 50) 6)
def df_Plan__starts : He.DefD := ⟨("Plan", some "_starts"), "_starts", "Plan._starts", defArgs st_Plan__starts, defBody st_Plan__starts, defScope st_Plan__starts, [], []⟩
abbrev st_Plan_ahead : Stmt := (inClass (top 50) 8)
def df_Plan_ahead : He.DefD := ⟨("Plan", some "ahead"), "ahead", "Plan.ahead", defArgs st_Plan_ahead, defBody st_Plan_ahead, defScope st_Plan_ahead, [], []⟩
abbrev st_rarity : Stmt := (top 45)
def df_rarity : He.DefD := ⟨("rarity", none), "rarity", "rarity", defArgs st_rarity, defBody st_rarity, defScope st_rarity, [], []⟩
abbrev st_Plan_choose : Stmt := (inClass (top 50) 10)
def df_Plan_choose : He.DefD := ⟨("Plan", some "choose"), "choose", "Plan.choose", defArgs st_Plan_choose, defBody st_Plan_choose, defScope st_Plan_choose, [], []⟩
abbrev st_law : Stmt := (top 64)
def df_law : He.DefD := ⟨("law", none), "law", "law", defArgs st_law, defBody st_law, defScope st_law, [], []⟩
abbrev st_BadDescription_ini : Stmt := inClass (top 2) 0
def df_BadDescription_ini : He.DefD := ⟨("BadDescription", some "__init__"), "__init__", "BadDescription.__init__", defArgs st_BadDescription_ini, defBody st_BadDescription_ini, defScope st_BadDescription_ini, [], []⟩
def fn : List He.DefD := [df__law_draws, df__law_description, df__law_files, df_is_integer, df_is_octet, df_is_octets, df_is_name_octet, df_is_name, df_is_kind, df_is_size, df_is_path, df_is_file, df_are_apart, df_are_files_descriptions, df_fault_of, df_check_description, df_are_files_playing, df_length_of, df_count_of, df_piece_count, df_is_index, df_check_index, df_starts_of, df_pieces_of, df_Plan__all_wanted, df_Plan___init__, df__law_starts, df__law_stream, df_Plan_move, df__law_count, df__law_flags, df__law_wanted, df__law_wants, df_Plan_wants, df__law_choice, df__law_ahead, df_Plan__starts, df_Plan_ahead, df_rarity, df_Plan_choose, df_law, df_BadDescription_ini]
def fa : List He.Fa := [.free "int", .free "abs", .free "range", .free "tuple", .free "len", .free "list", .free "isinstance", .free "bool", .free "all", .int "MOST_NAME" 40, .int "FIRST_LETTER" 97, .int "LAST_LETTER" 122, .int "FIRST_FIGURE" 48, .int "LAST_FIGURE" 57, .glo "OTHER_SIGNS", .int "DOT" 46, .free "any", .free "str", .int "SHA_SIZE" 24, .int "MOST_SUM" 8, .int "LEAST_SIZE" 4, .int "MOST_SIZE" 65536, .int "MOST_FILES" 64, .int "MOST_PARTS" 8, .int "MOST_LENGTH" 4294967296, .free "enumerate", .free "sum", .int "MOST_PIECES" 4096, .free "set", .int "MOST_WINDOW" 1000, .free "sorted", .free "max", .free "min", .glo "BadContent", .exc "BadContent", .glo "BadDescription", .glo "BadPlan", .exc "BadPlan", .glo "_law_draws", .glo "_law_description", .glo "_law_files", .glo "is_integer", .glo "is_octet", .glo "is_octets", .glo "is_name_octet", .glo "is_name", .glo "is_kind", .glo "is_size", .glo "is_path", .glo "is_file", .glo "are_apart", .glo "are_files_descriptions", .glo "fault_of", .glo "check_description", .glo "are_files_playing", .glo "length_of", .glo "count_of", .glo "piece_count", .glo "is_index", .glo "check_index", .glo "starts_of", .glo "pieces_of", .meth "Plan" "_all_wanted", .glo "Plan", .mkr "Plan", .glo "_law_starts", .glo "_law_stream", .meth "Plan" "move", .glo "_law_count", .glo "_law_flags", .glo "_law_wanted", .glo "_law_wants", .meth "Plan" "wants", .glo "_law_choice", .glo "_law_ahead", .meth "Plan" "_starts", .meth "Plan" "ahead", .glo "rarity", .meth "Plan" "choose", .glo "law"]
def fy : List Fy := [.tup "OTHER_SIGNS" [.int 45, .int 46, .int 95], .cls "Plan" ["_description", "_files", "_window", "_place", "_wanted"], .oex "BadDescription" "reason"]
theorem sc_BadDescription_ini : FnScope ["self", "reason"] ["self", "reason"] (defScope st_BadDescription_ini) := ⟨rfl, rfl, rfl, by decide +kernel, rfl, by decide +kernel, by decide +kernel⟩
theorem sc__law_draws : FnScope ["_law_script", "_law_start", "_law_most", "_law_draws_here", "_law_cell_here", "_law_number", "_law_mixed", "_law_k"] ["_law_script", "_law_start", "_law_most"] (defScope st__law_draws) := ⟨rfl, rfl, rfl, by decide +kernel, rfl, by decide +kernel, by decide +kernel⟩
theorem sc__law_description : FnScope ["_law_number", "_law_size", "_law_files_here", "_law_total", "_law_k", "_law_length"] ["_law_number"] (defScope st__law_description) := ⟨rfl, rfl, rfl, by decide +kernel, rfl, by decide +kernel, by decide +kernel⟩
theorem sc__law_files : FnScope ["_law_description_here", "_law_number", "_law_left", "_law_files_here", "_law_k"] ["_law_description_here", "_law_number"] (defScope st__law_files) := ⟨rfl, rfl, rfl, by decide +kernel, rfl, by decide +kernel, by decide +kernel⟩
theorem sc_is_integer : FnScope ["value"] ["value"] (defScope st_is_integer) := ⟨rfl, rfl, rfl, by decide +kernel, rfl, by decide +kernel, by decide +kernel⟩
theorem sc_is_octet : FnScope ["value"] ["value"] (defScope st_is_octet) := ⟨rfl, rfl, rfl, by decide +kernel, rfl, by decide +kernel, by decide +kernel⟩
theorem sc_is_octets : FnScope ["value", "size", "item"] ["value", "size"] (defScope st_is_octets) := ⟨rfl, rfl, rfl, by decide +kernel, rfl, by decide +kernel, by decide +kernel⟩
theorem sc_is_name_octet : FnScope ["octet"] ["octet"] (defScope st_is_name_octet) := ⟨rfl, rfl, rfl, by decide +kernel, rfl, by decide +kernel, by decide +kernel⟩
theorem sc_is_name : FnScope ["value", "octet"] ["value"] (defScope st_is_name) := ⟨rfl, rfl, rfl, by decide +kernel, rfl, by decide +kernel, by decide +kernel⟩
theorem sc_is_kind : FnScope ["value"] ["value"] (defScope st_is_kind) := ⟨rfl, rfl, rfl, by decide +kernel, rfl, by decide +kernel, by decide +kernel⟩
theorem sc_is_size : FnScope ["value"] ["value"] (defScope st_is_size) := ⟨rfl, rfl, rfl, by decide +kernel, rfl, by decide +kernel, by decide +kernel⟩
theorem sc_is_path : FnScope ["value", "part"] ["value"] (defScope st_is_path) := ⟨rfl, rfl, rfl, by decide +kernel, rfl, by decide +kernel, by decide +kernel⟩
theorem sc_is_file : FnScope ["value"] ["value"] (defScope st_is_file) := ⟨rfl, rfl, rfl, by decide +kernel, rfl, by decide +kernel, by decide +kernel⟩
theorem sc_are_apart : FnScope ["paths", "place", "path", "other"] ["paths"] (defScope st_are_apart) := ⟨rfl, rfl, rfl, by decide +kernel, rfl, by decide +kernel, by decide +kernel⟩
theorem sc_are_files_descriptions : FnScope ["value", "file"] ["value"] (defScope st_are_files_descriptions) := ⟨rfl, rfl, rfl, by decide +kernel, rfl, by decide +kernel, by decide +kernel⟩
theorem sc_fault_of : FnScope ["value", "name", "kind", "size", "files", "root", "total", "file"] ["value"] (defScope st_fault_of) := ⟨rfl, rfl, rfl, by decide +kernel, rfl, by decide +kernel, by decide +kernel⟩
theorem sc_check_description : FnScope ["description", "reason"] ["description"] (defScope st_check_description) := ⟨rfl, rfl, rfl, by decide +kernel, rfl, by decide +kernel, by decide +kernel⟩
theorem sc_are_files_playing : FnScope ["description", "value", "index"] ["description", "value"] (defScope st_are_files_playing) := ⟨rfl, rfl, rfl, by decide +kernel, rfl, by decide +kernel, by decide +kernel⟩
theorem sc_length_of : FnScope ["description", "file"] ["description"] (defScope st_length_of) := ⟨rfl, rfl, rfl, by decide +kernel, rfl, by decide +kernel, by decide +kernel⟩
theorem sc_count_of : FnScope ["description"] ["description"] (defScope st_count_of) := ⟨rfl, rfl, rfl, by decide +kernel, rfl, by decide +kernel, by decide +kernel⟩
theorem sc_piece_count : FnScope ["description"] ["description"] (defScope st_piece_count) := ⟨rfl, rfl, rfl, by decide +kernel, rfl, by decide +kernel, by decide +kernel⟩
theorem sc_is_index : FnScope ["value", "count"] ["value", "count"] (defScope st_is_index) := ⟨rfl, rfl, rfl, by decide +kernel, rfl, by decide +kernel, by decide +kernel⟩
theorem sc_check_index : FnScope ["value", "count"] ["value", "count"] (defScope st_check_index) := ⟨rfl, rfl, rfl, by decide +kernel, rfl, by decide +kernel, by decide +kernel⟩
theorem sc_starts_of : FnScope ["files", "starts", "file"] ["files"] (defScope st_starts_of) := ⟨rfl, rfl, rfl, by decide +kernel, rfl, by decide +kernel, by decide +kernel⟩
theorem sc_pieces_of : FnScope ["description", "file", "starts", "size"] ["description", "file"] (defScope st_pieces_of) := ⟨rfl, rfl, rfl, by decide +kernel, rfl, by decide +kernel, by decide +kernel⟩
theorem sc_Plan__all_wanted : FnScope ["self", "found", "index", "file", "first", "behind"] ["self"] (defScope st_Plan__all_wanted) := ⟨rfl, rfl, rfl, by decide +kernel, rfl, by decide +kernel, by decide +kernel⟩
theorem nl_Plan__all_wanted : ("_all_wanted" : Str) ∉ layF "Plan" := by decide +kernel
theorem sc_Plan___init__ : FnScope ["self", "description", "files", "window"] ["self", "description", "files", "window"] (defScope st_Plan___init__) := ⟨rfl, rfl, rfl, by decide +kernel, rfl, by decide +kernel, by decide +kernel⟩
theorem sc__law_starts : FnScope ["_law_description_here", "_law_starts_here", "_law_row"] ["_law_description_here"] (defScope st__law_starts) := ⟨rfl, rfl, rfl, by decide +kernel, rfl, by decide +kernel, by decide +kernel⟩
theorem sc__law_stream : FnScope ["_law_description_here", "_law_files_here", "_law_starts_here", "_law_places", "_law_file"] ["_law_description_here", "_law_files_here"] (defScope st__law_stream) := ⟨rfl, rfl, rfl, by decide +kernel, rfl, by decide +kernel, by decide +kernel⟩
theorem sc_Plan_move : FnScope ["self", "place"] ["self", "place"] (defScope st_Plan_move) := ⟨rfl, rfl, rfl, by decide +kernel, rfl, by decide +kernel, by decide +kernel⟩
theorem nl_Plan_move : ("move" : Str) ∉ layF "Plan" := by decide +kernel
theorem sc__law_count : FnScope ["_law_description_here"] ["_law_description_here"] (defScope st__law_count) := ⟨rfl, rfl, rfl, by decide +kernel, rfl, by decide +kernel, by decide +kernel⟩
theorem sc__law_flags : FnScope ["_law_number", "_law_count_here", "_law_k"] ["_law_number", "_law_count_here"] (defScope st__law_flags) := ⟨rfl, rfl, rfl, by decide +kernel, rfl, by decide +kernel, by decide +kernel⟩
theorem sc__law_wanted : FnScope ["_law_description_here", "_law_stream_here", "_law_k", "_law_spot"] ["_law_description_here", "_law_stream_here"] (defScope st__law_wanted) := ⟨rfl, rfl, rfl, by decide +kernel, rfl, by decide +kernel, by decide +kernel⟩
theorem sc__law_wants : FnScope ["_law_description_here", "_law_stream_here", "_law_claims", "_law_held", "_law_wanted_here", "_law_lacking", "_law_found", "_law_index"] ["_law_description_here", "_law_stream_here", "_law_claims", "_law_held"] (defScope st__law_wants) := ⟨rfl, rfl, rfl, by decide +kernel, rfl, by decide +kernel, by decide +kernel⟩
theorem sc_Plan_wants : FnScope ["self", "claims", "held", "lacked", "index", "claimed"] ["self", "claims", "held"] (defScope st_Plan_wants) := ⟨rfl, rfl, rfl, by decide +kernel, rfl, by decide +kernel, by decide +kernel⟩
theorem nl_Plan_wants : ("wants" : Str) ∉ layF "Plan" := by decide +kernel
theorem sc__law_choice : FnScope ["_law_pieces", "_law_ahead_here", "_law_fields", "_law_asked", "_law_window", "_law_free", "_law_best", "_law_index", "_law_many", "_law_field"] ["_law_pieces", "_law_ahead_here", "_law_fields", "_law_asked"] (defScope st__law_choice) := ⟨rfl, rfl, rfl, by decide +kernel, rfl, by decide +kernel, by decide +kernel⟩
theorem sc__law_ahead : FnScope ["_law_description_here", "_law_stream_here", "_law_place", "_law_window", "_law_found", "_law_spot", "_law_index"] ["_law_description_here", "_law_stream_here", "_law_place", "_law_window"] (defScope st__law_ahead) := ⟨rfl, rfl, rfl, by decide +kernel, rfl, by decide +kernel, by decide +kernel⟩
theorem sc_Plan__starts : FnScope ["self", "found", "here", "lengths", "file", "_", "length"] ["self"] (defScope st_Plan__starts) := ⟨rfl, rfl, rfl, by decide +kernel, rfl, by decide +kernel, by decide +kernel⟩
theorem nl_Plan__starts : ("_starts" : Str) ∉ layF "Plan" := by decide +kernel
theorem sc_Plan_ahead : FnScope ["self", "found", "size", "here", "start", "length", "first", "index"] ["self"] (defScope st_Plan_ahead) := ⟨rfl, rfl, rfl, by decide +kernel, rfl, by decide +kernel, by decide +kernel⟩
theorem nl_Plan_ahead : ("ahead" : Str) ∉ layF "Plan" := by decide +kernel
theorem sc_rarity : FnScope ["index", "fields", "field"] ["index", "fields"] (defScope st_rarity) := ⟨rfl, rfl, rfl, by decide +kernel, rfl, by decide +kernel, by decide +kernel⟩
theorem sc_Plan_choose : FnScope ["self", "claims", "held", "fields", "asked", "pieces", "first", "index", "free"] ["self", "claims", "held", "fields", "asked"] (defScope st_Plan_choose) := ⟨rfl, rfl, rfl, by decide +kernel, rfl, by decide +kernel, by decide +kernel⟩
theorem nl_Plan_choose : ("choose" : Str) ∉ layF "Plan" := by decide +kernel
theorem sc_law : FnScope ["_law_script", "_law_draw", "_law_description_here", "_law_files_here", "_law_window", "_law_plan", "_law_stream_here", "_law_place", "_law_count_here", "_law_claims", "_law_held", "_law_fields", "_law_asked", "_law_handed", "_law_pieces", "_law_due", "_law_told", "_law_index", "_law_k", "_law_field"] ["_law_script"] (defScope st_law) := ⟨rfl, rfl, rfl, by decide +kernel, rfl, by decide +kernel, by decide +kernel⟩
theorem lf_Plan_0 : (layF "Plan")[0]? = some ("_description" : Str) := by decide +kernel
theorem lf_Plan_1 : (layF "Plan")[1]? = some ("_files" : Str) := by decide +kernel
theorem lf_Plan_2 : (layF "Plan")[2]? = some ("_window" : Str) := by decide +kernel
theorem lf_Plan_3 : (layF "Plan")[3]? = some ("_place" : Str) := by decide +kernel
theorem lf_Plan_4 : (layF "Plan")[4]? = some ("_wanted" : Str) := by decide +kernel
theorem lay_Plan : layF "Plan" = (["_description", "_files", "_window", "_place", "_wanted"] : List Str) := by decide +kernel
theorem cf_Plan {K : PySem.W.Frag} {mg : Str → Option Value} (fx : Fx fa fn fy K mg) : ClsF K (W0 K) "Plan" := cls_okF rfl lay_Plan (fx.y 1 rfl) (by decide +kernel) (by decide)
theorem is_lay : ∀ t ∈ isL, layF t.1 = [] := by decide +kernel
section
variable {P : Program} {w : World} {K : PySem.W.Frag} {mg : Str → Option Value} {base : Heap} (fx : Fx fa fn fy K mg)
include fx
theorem exc_BadContent : Exc0 K mg (W0 K) "BadContent" "BadContent" := ⟨(fx.glo 33 rfl), He.exc_ok (fx.fact 34 rfl)⟩
theorem exc_BadDescription : Exc1 P w K mg base (W0 K) "BadDescription" "BadDescription" "reason" := by
  obtain ⟨h1, h2, h3, h4⟩ := oex_ok (fx.y 2 rfl)
  obtain ⟨fd, FD⟩ := fx.def_ 41 (d := df_BadDescription_ini) rfl
  exact ⟨(fx.glo 35 rfl), (by decide +kernel : layF "BadDescription" = (["reason"] : List Str)), h1, ⟨_, fd, _, h2, h3, ini_ok FD sc_BadDescription_ini h1 h4 rfl rfl (by decide) (by decide) (by decide) (by decide) (fun _ => rfl), FD.bindsN fun _ _ _ _ _ _ us hl => match us, hl with | [_, _], _ => rfl⟩⟩
theorem exc_BadPlan : Exc0 K mg (W0 K) "BadPlan" "BadPlan" := ⟨(fx.glo 36 rfl), He.exc_ok (fx.fact 37 rfl)⟩
theorem ok__law_draws {f : Addr} {fd : FuncData} {dvs : List V} {kws : List (Str × V)} (FD : FunD K df__law_draws.name df__law_draws.qual df__law_draws.params df__law_draws.body df__law_draws.scope dvs kws f fd) : FnOk P w K mg base (L2.CX P w) 1 f fd ["_law_script", "_law_start", "_law_most"] (spD K (W0 K) 3 fs__law_draws) :=
  fn_ok (wb := w__law_draws) FD sc__law_draws rfl fun R cl cdv A outer s H E EX hr tk =>
    have nd := sc__law_draws.nd
    (s_cons (s_set (i := 3) nd (x_lstM a_nil)) (s_cons (s_for (passes_of rfl) rfl (i_sq (x_sli (x_v 0) (o_pt (x_v 1)) o_no)) (g_n 4 nd) (s_cons (s_set (i := 5) nd (x_cb c_abs (a_cons (x_ct c_int (a_cons (x_v 4) a_nil) (fx.free 0 rfl) boot_int) a_nil) (fx.free 1 rfl) boot_abs)) (s_one (s_if (t_cmp d_lt (x_v 5) (x_op d_pow x_int x_int)) (s_cons (s_set (i := 6) nd (x_op d_mod (x_ct c_int (a_cons (x_op d_add (x_op d_mul (x_v 5) x_int) x_int) a_nil) (fx.free 0 rfl) boot_int) x_int)) (s_cons (s_expr (x_ml PySem.F.slot_list_append PySem.F.type_list_append m_app (x_v 3) (a_cons (x_v 5) a_nil))) (s_cons (s_expr (x_ml PySem.F.slot_list_append PySem.F.type_list_append m_app (x_v 3) (a_cons (x_op d_fdiv (x_op d_mod (x_ct c_int (a_cons (x_op d_add (x_op d_add (x_op d_mul (x_v 6) x_int) (x_op d_fdiv (x_v 5) x_int)) x_int) a_nil) (fx.free 0 rfl) boot_int) x_int) x_int) a_nil))) (s_one (s_expr (x_ml PySem.F.slot_list_append PySem.F.type_list_append m_app (x_v 3) (a_cons (x_op d_fdiv (x_op d_mod (x_ct c_int (a_cons (x_op d_add (x_op d_add (x_op d_mul (x_v 6) x_int) (x_op d_fdiv (x_v 5) x_int)) x_int) a_nil) (fx.free 0 rfl) boot_int) x_int) x_int) a_nil))))))) (s_one (s_for (passes_of rfl) rfl (i_r1 (fx.free 2 rfl) (a_cons x_int a_nil)) (g_n 7 nd) (s_cons (s_if (t_cmp d_gt (x_v 5) x_int) (s_one (s_expr (x_ml PySem.F.slot_list_append PySem.F.type_list_append m_app (x_v 3) (a_cons (x_op d_mod (x_ct c_int (a_cons (x_v 5) a_nil) (fx.free 0 rfl) boot_int) x_int) a_nil)))) s_nil) (s_one (s_set (i := 5) nd (x_op d_fdiv (x_v 5) x_int)))))))))) (s_one (s_ret (x_sli (x_v 3) o_no (o_pt (x_v 2)))))))
theorem fn__law_draws : Fn P w K mg base (W0 K) "_law_draws" 3 1 [] fs__law_draws := by
  obtain ⟨fd, FD⟩ := fx.def_ 0 (d := df__law_draws) rfl
  exact ⟨_, fd, ["_law_script", "_law_start", "_law_most"], [], [], (fx.glo 38 rfl), FD.kp, ok__law_draws fx FD, FD.bindsN fun _ _ _ _ _ _ us hl => match us, hl with | [_, _, _], _ => rfl, .nil, fun F => .nil⟩
theorem ok__law_description {f : Addr} {fd : FuncData} {dvs : List V} {kws : List (Str × V)} (FD : FunD K df__law_description.name df__law_description.qual df__law_description.params df__law_description.body df__law_description.scope dvs kws f fd) : FnOk P w K mg base (L2.CX P w) 1 f fd ["_law_number"] (spD K (W0 K) 1 fs__law_description) :=
  fn_ok (wb := w__law_description) FD sc__law_description rfl fun R cl cdv A outer s H E EX hr tk =>
    have nd := sc__law_description.nd
    (s_cons (s_set (i := 1) nd (x_ix (x_lst (a_cons x_int (a_cons x_int (a_cons x_int a_nil)))) (x_op d_mod (x_v 0) x_int))) (s_cons (s_set (i := 2) nd (x_lstM a_nil)) (s_cons (s_set (i := 3) nd x_int) (s_cons (s_for (passes_of rfl) rfl (i_r1 (fx.free 2 rfl) (a_cons (x_op d_add x_int (x_op d_mod (x_op d_fdiv (x_v 0) x_int) x_int)) a_nil)) (g_n 4 nd) (s_cons (s_set (i := 5) nd (x_ix (x_lst (a_cons x_int (a_cons x_int (a_cons (x_v 1) (a_cons x_int (a_cons (x_op d_add (x_op d_mul x_int (x_v 1)) x_int) (a_cons x_int a_nil))))))) (x_op d_mod (x_op d_fdiv (x_v 0) (x_op d_add x_int (x_op d_mul x_int (x_v 4)))) x_int))) (s_cons (s_expr (x_ml PySem.F.slot_list_append PySem.F.type_list_append m_app (x_v 2) (a_cons (x_tup (a_cons (x_tup (a_cons (x_tup (a_cons (x_op d_add x_int (x_v 4)) a_nil)) a_nil)) (a_cons (x_v 5) a_nil))) a_nil))) (s_one (s_set (i := 3) nd (x_op d_add (x_v 3) (x_v 5))))))) (s_cons (s_if (t_cmp (d_eq hr.units) (x_v 3) x_int) (s_one (s_asg (x_tup (a_cons (x_ix (x_ix (x_v 2) x_int) x_int) (a_cons x_int a_nil))) (g_ix (x_v 2) x_int))) s_nil) (s_one (s_ret (x_tup (a_cons (x_tup (a_cons x_int a_nil)) (a_cons (x_tup (a_cons x_str (a_cons x_int a_nil))) (a_cons (x_v 1) (a_cons (x_ct c_tuple (a_cons (x_v 2) a_nil) (fx.free 3 rfl) boot_tuple) (a_cons (x_tup (a_cons x_int (a_cons x_int a_nil))) a_nil)))))))))))))
theorem fn__law_description : Fn P w K mg base (W0 K) "_law_description" 1 1 [] fs__law_description := by
  obtain ⟨fd, FD⟩ := fx.def_ 1 (d := df__law_description) rfl
  exact ⟨_, fd, ["_law_number"], [], [], (fx.glo 39 rfl), FD.kp, ok__law_description fx FD, FD.bindsN fun _ _ _ _ _ _ us hl => match us, hl with | [_], _ => rfl, .nil, fun F => .nil⟩
theorem ok__law_files {f : Addr} {fd : FuncData} {dvs : List V} {kws : List (Str × V)} (FD : FunD K df__law_files.name df__law_files.qual df__law_files.params df__law_files.body df__law_files.scope dvs kws f fd) : FnOk P w K mg base (L2.CX P w) 1 f fd ["_law_description_here", "_law_number"] (spD K (W0 K) 2 fs__law_files) :=
  fn_ok (wb := w__law_files) FD sc__law_files rfl fun R cl cdv A outer s H E EX hr tk =>
    have nd := sc__law_files.nd
    (s_cons (s_set (i := 2) nd (x_lrgM rfl (fx.free 5 rfl) (rg_1 (fx.free 2 rfl) (x_cb c_len (a_cons (x_ix (x_v 0) x_int) a_nil) (fx.free 4 rfl) boot_len)))) (s_cons (s_set (i := 3) nd (x_lstM a_nil)) (s_cons (s_for (passes_of rfl) rfl (i_r1 (fx.free 2 rfl) (a_cons (x_op d_add x_int (x_op d_mod (x_v 1) (x_cb c_len (a_cons (x_v 2) a_nil) (fx.free 4 rfl) boot_len))) a_nil)) (g_n 4 nd) (s_one (s_expr (x_ml PySem.F.slot_list_append PySem.F.type_list_append m_app (x_v 3) (a_cons (x_ml PySem.F.slot_list_pop PySem.F.type_list_pop m_pop1 (x_v 2) (a_cons (x_op d_mod (x_op d_fdiv (x_v 1) (x_op d_add x_int (x_op d_mul x_int (x_v 4)))) (x_cb c_len (a_cons (x_v 2) a_nil) (fx.free 4 rfl) boot_len)) a_nil)) a_nil))))) (s_one (s_ret (x_ct c_tuple (a_cons (x_v 3) a_nil) (fx.free 3 rfl) boot_tuple))))))
theorem fn__law_files : Fn P w K mg base (W0 K) "_law_files" 2 1 [] fs__law_files := by
  obtain ⟨fd, FD⟩ := fx.def_ 2 (d := df__law_files) rfl
  exact ⟨_, fd, ["_law_description_here", "_law_number"], [], [], (fx.glo 40 rfl), FD.kp, ok__law_files fx FD, FD.bindsN fun _ _ _ _ _ _ us hl => match us, hl with | [_, _], _ => rfl, .nil, fun F => .nil⟩
theorem ok_is_integer {f : Addr} {fd : FuncData} {dvs : List V} {kws : List (Str × V)} (FD : FunD K df_is_integer.name df_is_integer.qual df_is_integer.params df_is_integer.body df_is_integer.scope dvs kws f fd) : FnOk P w K mg base (L2.CX P w) 1 f fd ["value"] (spD K (W0 K) 1 fs_is_integer) :=
  fn_ok (wb := w_is_integer) FD sc_is_integer rfl fun R cl cdv A outer s H E EX hr tk =>
    have nd := sc_is_integer.nd
    (s_one (s_ret (x_and (x_cb c_isi (a_cons (x_v 0) (a_cons (x_ty (fx.free 0 rfl) boot_int) a_nil)) (fx.free 6 rfl) boot_isinstance) (x_one (x_not (x_cb c_isi (a_cons (x_v 0) (a_cons (x_ty (fx.free 7 rfl) boot_bool) a_nil)) (fx.free 6 rfl) boot_isinstance))))))
theorem fn_is_integer : Fn P w K mg base (W0 K) "is_integer" 1 1 [] fs_is_integer := by
  obtain ⟨fd, FD⟩ := fx.def_ 3 (d := df_is_integer) rfl
  exact ⟨_, fd, ["value"], [], [], (fx.glo 41 rfl), FD.kp, ok_is_integer fx FD, FD.bindsN fun _ _ _ _ _ _ us hl => match us, hl with | [_], _ => rfl, .nil, fun F => .nil⟩
theorem ok_is_octet {f : Addr} {fd : FuncData} {dvs : List V} {kws : List (Str × V)} (FD : FunD K df_is_octet.name df_is_octet.qual df_is_octet.params df_is_octet.body df_is_octet.scope dvs kws f fd) : FnOk P w K mg base (L2.CX P w) 2 f fd ["value"] (spD K (W0 K) 1 fs_is_octet) :=
  fn_ok (wb := w_is_octet) FD sc_is_octet rfl fun R cl cdv A outer s H E EX hr tk =>
    have nd := sc_is_octet.nd
    (s_one (s_ret (x_and (x_call (fn_is_integer fx) (hr.mono (by decide)) tk (a_cons (x_v 0) a_nil)) (x_and (x_cmp d_le x_int (x_v 0)) (x_one (x_cmp d_le (x_v 0) x_int))))))
theorem fn_is_octet : Fn P w K mg base (W0 K) "is_octet" 1 2 [] fs_is_octet := by
  obtain ⟨fd, FD⟩ := fx.def_ 4 (d := df_is_octet) rfl
  exact ⟨_, fd, ["value"], [], [], (fx.glo 42 rfl), FD.kp, ok_is_octet fx FD, FD.bindsN fun _ _ _ _ _ _ us hl => match us, hl with | [_], _ => rfl, .nil, fun F => .nil⟩
theorem ok_is_octets {f : Addr} {fd : FuncData} {dvs : List V} {kws : List (Str × V)} (FD : FunD K df_is_octets.name df_is_octets.qual df_is_octets.params df_is_octets.body df_is_octets.scope dvs kws f fd) : FnOk P w K mg base (L2.CX P w) 3 f fd ["value", "size"] (spD K (W0 K) 2 fs_is_octets) :=
  fn_ok (wb := w_is_octets) FD sc_is_octets rfl fun R cl cdv A outer s H E EX hr tk =>
    have nd := sc_is_octets.nd
    (s_cons (s_if (t_pw (t_or (t_not (t_tru (x_cb c_isi (a_cons (x_v 0) (a_cons (x_ty (fx.free 3 rfl) boot_tuple) a_nil)) (fx.free 6 rfl) boot_isinstance))) (t_or1 (t_pw (t_and (t_cmp d_isnot (x_v 1) x_non) (t_and1 (t_cmp (d_ne hr.units) (x_cb c_len (a_cons (x_v 0) a_nil) (fx.free 4 rfl) boot_len) (x_v 1)))))))) (s_one (s_ret x_bl)) s_nil) (s_one (s_ret (x_cb (c_all rfl) (a_cons (x_lc rfl nd (i_sq (x_v 0)) (own := [("item", 2)]) (blkOk_by (by kernel_rfl)) (fun _ _ _ _ _ => (gv_n 2 nd)) (fun _ _ _ _ _ => ts_nil) (fun _ _ _ _ _ => (x_call (fn_is_octet fx) (hr.mono (by decide)) tk_no (a_cons (x_v 2) a_nil)))) a_nil) (fx.free 8 rfl) boot_all))))
theorem fn_is_octets : Fn P w K mg base (W0 K) "is_octets" 2 3 [.non] fs_is_octets := by
  obtain ⟨fd, FD⟩ := fx.def_ 5 (d := df_is_octets) rfl
  obtain ⟨ds, h1, h2⟩ := FunD.binds0 (ps := ["value", "size"]) FD 1 (List.cons_ne_nil _ _) rfl fun D doc pm an cdv ct us ks l1 l2 => match us, ks, l1, l2 with | [_], [_], _, _ => ⟨_, _, _, _, _, _, rfl, rfl, rfl⟩
  exact ⟨_, fd, ["value", "size"], _, ds, (fx.glo 43 rfl), FD.kp, ok_is_octets fx FD, h2, h1, fun F => dvsD_rep (vs := [.non]) rfl⟩
theorem fnK_is_octets : FnK P w K mg base (W0 K) "is_octets" 1 1 3 ["size"] fs_is_octets := by
  obtain ⟨fd, FD⟩ := fx.def_ 5 (d := df_is_octets) rfl
  exact ⟨_, fd, ["value", "size"], _, (fx.glo 43 rfl), FD.kp, ok_is_octets fx FD, kbAll (n := 1) FD fun kV doc pm an cdv ct us ws l1 l2 => match us, ws, l1, l2 with | [_], [_], _, _ => rfl, rfl⟩
theorem ok_is_name_octet {f : Addr} {fd : FuncData} {dvs : List V} {kws : List (Str × V)} (FD : FunD K df_is_name_octet.name df_is_name_octet.qual df_is_name_octet.params df_is_name_octet.body df_is_name_octet.scope dvs kws f fd) : FnOk P w K mg base (L2.CX P w) 1 f fd ["octet"] (spD K (W0 K) 1 fs_is_name_octet) :=
  fn_ok (wb := w_is_name_octet) FD sc_is_name_octet rfl fun R cl cdv A outer s H E EX hr tk =>
    have nd := sc_is_name_octet.nd
    (s_cons (s_if (t_pw (t_or (t_pw (t_and (t_cmp d_le (x_gi (fx.int 10 rfl)) (x_v 0)) (t_and1 (t_cmp d_le (x_v 0) (x_gi (fx.int 11 rfl)))))) (t_or1 (t_pw (t_and (t_cmp d_le (x_gi (fx.int 12 rfl)) (x_v 0)) (t_and1 (t_cmp d_le (x_v 0) (x_gi (fx.int 13 rfl))))))))) (s_one (s_ret x_bl)) s_nil) (s_one (s_ret (x_cmp d_in (x_v 0) (x_gt (fx.glo 14 rfl) (tup_rep (fx.y 0 rfl) rfl))))))
theorem fn_is_name_octet : Fn P w K mg base (W0 K) "is_name_octet" 1 1 [] fs_is_name_octet := by
  obtain ⟨fd, FD⟩ := fx.def_ 6 (d := df_is_name_octet) rfl
  exact ⟨_, fd, ["octet"], [], [], (fx.glo 44 rfl), FD.kp, ok_is_name_octet fx FD, FD.bindsN fun _ _ _ _ _ _ us hl => match us, hl with | [_], _ => rfl, .nil, fun F => .nil⟩
theorem ok_is_name {f : Addr} {fd : FuncData} {dvs : List V} {kws : List (Str × V)} (FD : FunD K df_is_name.name df_is_name.qual df_is_name.params df_is_name.body df_is_name.scope dvs kws f fd) : FnOk P w K mg base (L2.CX P w) 4 f fd ["value"] (spD K (W0 K) 1 fs_is_name) :=
  fn_ok (wb := w_is_name) FD sc_is_name rfl fun R cl cdv A outer s H E EX hr tk =>
    have nd := sc_is_name.nd
    (s_cons (s_if (t_pw (t_or (t_not (t_tru (x_call (fn_is_octets fx) (hr.mono (by decide)) tk (a_cons (x_v 0) a_nil)))) (t_or (t_cmp d_lt (x_cb c_len (a_cons (x_v 0) a_nil) (fx.free 4 rfl) boot_len) x_int) (t_or1 (t_cmp d_gt (x_cb c_len (a_cons (x_v 0) a_nil) (fx.free 4 rfl) boot_len) (x_gi (fx.int 9 rfl))))))) (s_one (s_ret x_bl)) s_nil) (s_cons (s_if (t_not (t_tru (x_cb (c_all rfl) (a_cons (x_lc rfl nd (i_sq (x_v 0)) (own := [("octet", 1)]) (blkOk_by (by kernel_rfl)) (fun _ _ _ _ _ => (gv_n 1 nd)) (fun _ _ _ _ _ => ts_nil) (fun _ _ _ _ _ => (x_call (fn_is_name_octet fx) (hr.mono (by decide)) tk_no (a_cons (x_v 1) a_nil)))) a_nil) (fx.free 8 rfl) boot_all))) (s_one (s_ret x_bl)) s_nil) (s_one (s_ret (x_cb (c_any rfl) (a_cons (x_lc rfl nd (i_sq (x_v 0)) (own := [("octet", 1)]) (blkOk_by (by kernel_rfl)) (fun _ _ _ _ _ => (gv_n 1 nd)) (fun _ _ _ _ _ => ts_nil) (fun _ _ _ _ _ => (x_cmp (d_ne hr.units) (x_v 1) (x_gi (fx.int 15 rfl))))) a_nil) (fx.free 16 rfl) boot_any)))))
theorem fn_is_name : Fn P w K mg base (W0 K) "is_name" 1 4 [] fs_is_name := by
  obtain ⟨fd, FD⟩ := fx.def_ 7 (d := df_is_name) rfl
  exact ⟨_, fd, ["value"], [], [], (fx.glo 45 rfl), FD.kp, ok_is_name fx FD, FD.bindsN fun _ _ _ _ _ _ us hl => match us, hl with | [_], _ => rfl, .nil, fun F => .nil⟩
theorem ok_is_kind {f : Addr} {fd : FuncData} {dvs : List V} {kws : List (Str × V)} (FD : FunD K df_is_kind.name df_is_kind.qual df_is_kind.params df_is_kind.body df_is_kind.scope dvs kws f fd) : FnOk P w K mg base (L2.CX P w) 2 f fd ["value"] (spD K (W0 K) 1 fs_is_kind) :=
  fn_ok (wb := w_is_kind) FD sc_is_kind rfl fun R cl cdv A outer s H E EX hr tk =>
    have nd := sc_is_kind.nd
    (s_cons (s_if (t_pw (t_or (t_not (t_tru (x_cb c_isi (a_cons (x_v 0) (a_cons (x_ty (fx.free 3 rfl) boot_tuple) a_nil)) (fx.free 6 rfl) boot_isinstance))) (t_or (t_cmp (d_ne hr.units) (x_cb c_len (a_cons (x_v 0) a_nil) (fx.free 4 rfl) boot_len) x_int) (t_or (t_not (t_tru (x_cb c_isi (a_cons (x_ix (x_v 0) x_int) (a_cons (x_ty (fx.free 17 rfl) boot_str) a_nil)) (fx.free 6 rfl) boot_isinstance))) (t_or1 (t_not (t_tru (x_call (fn_is_integer fx) (hr.mono (by decide)) tk (a_cons (x_ix (x_v 0) x_int) a_nil))))))))) (s_one (s_ret x_bl)) s_nil) (s_cons (s_if (t_cmp (d_eq hr.units) (x_ix (x_v 0) x_int) x_str) (s_one (s_ret (x_cmp (d_eq hr.units) (x_ix (x_v 0) x_int) (x_gi (fx.int 18 rfl))))) s_nil) (s_one (s_ret (x_and (x_cmp (d_eq hr.units) (x_ix (x_v 0) x_int) x_str) (x_and (x_cmp d_le x_int (x_ix (x_v 0) x_int)) (x_one (x_cmp d_le (x_ix (x_v 0) x_int) (x_gi (fx.int 19 rfl))))))))))
theorem fn_is_kind : Fn P w K mg base (W0 K) "is_kind" 1 2 [] fs_is_kind := by
  obtain ⟨fd, FD⟩ := fx.def_ 8 (d := df_is_kind) rfl
  exact ⟨_, fd, ["value"], [], [], (fx.glo 46 rfl), FD.kp, ok_is_kind fx FD, FD.bindsN fun _ _ _ _ _ _ us hl => match us, hl with | [_], _ => rfl, .nil, fun F => .nil⟩
theorem ok_is_size {f : Addr} {fd : FuncData} {dvs : List V} {kws : List (Str × V)} (FD : FunD K df_is_size.name df_is_size.qual df_is_size.params df_is_size.body df_is_size.scope dvs kws f fd) : FnOk P w K mg base (L2.CX P w) 2 f fd ["value"] (spD K (W0 K) 1 fs_is_size) :=
  fn_ok (wb := w_is_size) FD sc_is_size rfl fun R cl cdv A outer s H E EX hr tk =>
    have nd := sc_is_size.nd
    (s_one (s_ret (x_and (x_call (fn_is_integer fx) (hr.mono (by decide)) tk (a_cons (x_v 0) a_nil)) (x_and (x_cmp d_le (x_gi (fx.int 20 rfl)) (x_v 0)) (x_and (x_cmp d_le (x_v 0) (x_gi (fx.int 21 rfl))) (x_one (x_cmp (d_eq hr.units) (x_op d_and (x_v 0) (x_op d_sub (x_v 0) x_int)) x_int)))))))
theorem fn_is_size : Fn P w K mg base (W0 K) "is_size" 1 2 [] fs_is_size := by
  obtain ⟨fd, FD⟩ := fx.def_ 9 (d := df_is_size) rfl
  exact ⟨_, fd, ["value"], [], [], (fx.glo 47 rfl), FD.kp, ok_is_size fx FD, FD.bindsN fun _ _ _ _ _ _ us hl => match us, hl with | [_], _ => rfl, .nil, fun F => .nil⟩
theorem ok_is_path {f : Addr} {fd : FuncData} {dvs : List V} {kws : List (Str × V)} (FD : FunD K df_is_path.name df_is_path.qual df_is_path.params df_is_path.body df_is_path.scope dvs kws f fd) : FnOk P w K mg base (L2.CX P w) 5 f fd ["value"] (spD K (W0 K) 1 fs_is_path) :=
  fn_ok (wb := w_is_path) FD sc_is_path rfl fun R cl cdv A outer s H E EX hr tk =>
    have nd := sc_is_path.nd
    (s_cons (s_if (t_pw (t_or (t_not (t_tru (x_cb c_isi (a_cons (x_v 0) (a_cons (x_ty (fx.free 3 rfl) boot_tuple) a_nil)) (fx.free 6 rfl) boot_isinstance))) (t_or (t_cmp d_lt (x_cb c_len (a_cons (x_v 0) a_nil) (fx.free 4 rfl) boot_len) x_int) (t_or1 (t_cmp d_gt (x_cb c_len (a_cons (x_v 0) a_nil) (fx.free 4 rfl) boot_len) (x_gi (fx.int 23 rfl))))))) (s_one (s_ret x_bl)) s_nil) (s_one (s_ret (x_cb (c_all rfl) (a_cons (x_lc rfl nd (i_sq (x_v 0)) (own := [("part", 1)]) (blkOk_by (by kernel_rfl)) (fun _ _ _ _ _ => (gv_n 1 nd)) (fun _ _ _ _ _ => ts_nil) (fun _ _ _ _ _ => (x_call (fn_is_name fx) (hr.mono (by decide)) tk_no (a_cons (x_v 1) a_nil)))) a_nil) (fx.free 8 rfl) boot_all))))
theorem fn_is_path : Fn P w K mg base (W0 K) "is_path" 1 5 [] fs_is_path := by
  obtain ⟨fd, FD⟩ := fx.def_ 10 (d := df_is_path) rfl
  exact ⟨_, fd, ["value"], [], [], (fx.glo 48 rfl), FD.kp, ok_is_path fx FD, FD.bindsN fun _ _ _ _ _ _ us hl => match us, hl with | [_], _ => rfl, .nil, fun F => .nil⟩
theorem ok_is_file {f : Addr} {fd : FuncData} {dvs : List V} {kws : List (Str × V)} (FD : FunD K df_is_file.name df_is_file.qual df_is_file.params df_is_file.body df_is_file.scope dvs kws f fd) : FnOk P w K mg base (L2.CX P w) 6 f fd ["value"] (spD K (W0 K) 1 fs_is_file) :=
  fn_ok (wb := w_is_file) FD sc_is_file rfl fun R cl cdv A outer s H E EX hr tk =>
    have nd := sc_is_file.nd
    (s_cons (s_if (t_pw (t_or (t_not (t_tru (x_cb c_isi (a_cons (x_v 0) (a_cons (x_ty (fx.free 3 rfl) boot_tuple) a_nil)) (fx.free 6 rfl) boot_isinstance))) (t_or (t_cmp (d_ne hr.units) (x_cb c_len (a_cons (x_v 0) a_nil) (fx.free 4 rfl) boot_len) x_int) (t_or1 (t_not (t_tru (x_call (fn_is_path fx) (hr.mono (by decide)) tk (a_cons (x_ix (x_v 0) x_int) a_nil)))))))) (s_one (s_ret x_bl)) s_nil) (s_one (s_ret (x_and (x_call (fn_is_integer fx) (hr.mono (by decide)) tk (a_cons (x_ix (x_v 0) x_int) a_nil)) (x_and (x_cmp d_le x_int (x_ix (x_v 0) x_int)) (x_one (x_cmp d_le (x_ix (x_v 0) x_int) (x_gi (fx.int 24 rfl)))))))))
theorem fn_is_file : Fn P w K mg base (W0 K) "is_file" 1 6 [] fs_is_file := by
  obtain ⟨fd, FD⟩ := fx.def_ 11 (d := df_is_file) rfl
  exact ⟨_, fd, ["value"], [], [], (fx.glo 49 rfl), FD.kp, ok_is_file fx FD, FD.bindsN fun _ _ _ _ _ _ us hl => match us, hl with | [_], _ => rfl, .nil, fun F => .nil⟩
theorem ok_are_apart {f : Addr} {fd : FuncData} {dvs : List V} {kws : List (Str × V)} (FD : FunD K df_are_apart.name df_are_apart.qual df_are_apart.params df_are_apart.body df_are_apart.scope dvs kws f fd) : FnOk P w K mg base (L2.CX P w) 1 f fd ["paths"] (spD K (W0 K) 1 fs_are_apart) :=
  fn_ok (wb := w_are_apart) FD sc_are_apart rfl fun R cl cdv A outer s H E EX hr tk =>
    have nd := sc_are_apart.nd
    (s_cons (s_for (passes_of rfl) rfl (i_en (fx.free 25 rfl) (a_cons (x_v 0) a_nil)) (g_t rfl (g_c (g_n 1 nd) (g_c (g_n 2 nd) g_z))) (s_one (s_for (passes_of rfl) rfl (i_sq (x_op d_add (x_sli (x_v 0) o_no (o_pt (x_v 1))) (x_sli (x_v 0) (o_pt (x_op d_add (x_v 1) x_int)) o_no))) (g_n 3 nd) (s_one (s_if (t_cmp (d_eq hr.units) (x_sli (x_v 3) o_no (o_pt (x_cb c_len (a_cons (x_v 2) a_nil) (fx.free 4 rfl) boot_len))) (x_v 2)) (s_one (s_ret x_bl)) s_nil))))) (s_one (s_ret x_bl)))
theorem fn_are_apart : Fn P w K mg base (W0 K) "are_apart" 1 1 [] fs_are_apart := by
  obtain ⟨fd, FD⟩ := fx.def_ 12 (d := df_are_apart) rfl
  exact ⟨_, fd, ["paths"], [], [], (fx.glo 50 rfl), FD.kp, ok_are_apart fx FD, FD.bindsN fun _ _ _ _ _ _ us hl => match us, hl with | [_], _ => rfl, .nil, fun F => .nil⟩
theorem ok_are_files_descriptions {f : Addr} {fd : FuncData} {dvs : List V} {kws : List (Str × V)} (FD : FunD K df_are_files_descriptions.name df_are_files_descriptions.qual df_are_files_descriptions.params df_are_files_descriptions.body df_are_files_descriptions.scope dvs kws f fd) : FnOk P w K mg base (L2.CX P w) 7 f fd ["value"] (spD K (W0 K) 1 fs_are_files_descriptions) :=
  fn_ok (wb := w_are_files_descriptions) FD sc_are_files_descriptions rfl fun R cl cdv A outer s H E EX hr tk =>
    have nd := sc_are_files_descriptions.nd
    (s_cons (s_if (t_pw (t_or (t_not (t_tru (x_cb c_isi (a_cons (x_v 0) (a_cons (x_ty (fx.free 3 rfl) boot_tuple) a_nil)) (fx.free 6 rfl) boot_isinstance))) (t_or (t_cmp d_lt (x_cb c_len (a_cons (x_v 0) a_nil) (fx.free 4 rfl) boot_len) x_int) (t_or1 (t_cmp d_gt (x_cb c_len (a_cons (x_v 0) a_nil) (fx.free 4 rfl) boot_len) (x_gi (fx.int 22 rfl))))))) (s_one (s_ret x_bl)) s_nil) (s_one (s_ret (x_and (x_cb (c_all rfl) (a_cons (x_lc rfl nd (i_sq (x_v 0)) (own := [("file", 1)]) (blkOk_by (by kernel_rfl)) (fun _ _ _ _ _ => (gv_n 1 nd)) (fun _ _ _ _ _ => ts_nil) (fun _ _ _ _ _ => (x_call (fn_is_file fx) (hr.mono (by decide)) tk_no (a_cons (x_v 1) a_nil)))) a_nil) (fx.free 8 rfl) boot_all) (x_one (x_call (fn_are_apart fx) (hr.mono (by decide)) tk (a_cons (x_lc rfl nd (i_sq (x_v 0)) (own := [("file", 1)]) (blkOk_by (by kernel_rfl)) (fun _ _ _ _ _ => (gv_n 1 nd)) (fun _ _ _ _ _ => ts_nil) (fun _ _ _ _ _ => (x_ix (x_v 1) x_int))) a_nil)))))))
theorem fn_are_files_descriptions : Fn P w K mg base (W0 K) "are_files_descriptions" 1 7 [] fs_are_files_descriptions := by
  obtain ⟨fd, FD⟩ := fx.def_ 13 (d := df_are_files_descriptions) rfl
  exact ⟨_, fd, ["value"], [], [], (fx.glo 51 rfl), FD.kp, ok_are_files_descriptions fx FD, FD.bindsN fun _ _ _ _ _ _ us hl => match us, hl with | [_], _ => rfl, .nil, fun F => .nil⟩
theorem ok_fault_of {f : Addr} {fd : FuncData} {dvs : List V} {kws : List (Str × V)} (FD : FunD K df_fault_of.name df_fault_of.qual df_fault_of.params df_fault_of.body df_fault_of.scope dvs kws f fd) : FnOk P w K mg base (L2.CX P w) 8 f fd ["value"] (spD K (W0 K) 1 fs_fault_of) :=
  fn_ok (wb := w_fault_of) FD sc_fault_of rfl fun R cl cdv A outer s H E EX hr tk =>
    have nd := sc_fault_of.nd
    (s_cons (s_if (t_pw (t_or (t_not (t_tru (x_cb c_isi (a_cons (x_v 0) (a_cons (x_ty (fx.free 3 rfl) boot_tuple) a_nil)) (fx.free 6 rfl) boot_isinstance))) (t_or1 (t_cmp (d_ne hr.units) (x_cb c_len (a_cons (x_v 0) a_nil) (fx.free 4 rfl) boot_len) x_int)))) (s_one (s_ret x_str)) s_nil) (s_cons (s_asg (x_v 0) (g_t rfl (g_c (g_n 1 nd) (g_c (g_n 2 nd) (g_c (g_n 3 nd) (g_c (g_n 4 nd) (g_c (g_n 5 nd) g_z))))))) (s_cons (s_if (t_not (t_tru (x_call (fn_is_name fx) (hr.mono (by decide)) tk (a_cons (x_v 1) a_nil)))) (s_one (s_ret x_str)) s_nil) (s_cons (s_if (t_not (t_tru (x_call (fn_is_kind fx) (hr.mono (by decide)) tk (a_cons (x_v 2) a_nil)))) (s_one (s_ret x_str)) s_nil) (s_cons (s_if (t_not (t_tru (x_call (fn_is_size fx) (hr.mono (by decide)) tk (a_cons (x_v 3) a_nil)))) (s_one (s_ret x_str)) s_nil) (s_cons (s_if (t_not (t_tru (x_call (fn_are_files_descriptions fx) (hr.mono (by decide)) tk (a_cons (x_v 4) a_nil)))) (s_one (s_ret x_str)) s_nil) (s_cons (s_set (i := 6) nd (x_cb (c_sum rfl) (a_cons (x_lc rfl nd (i_sq (x_v 4)) (own := [("file", 7)]) (blkOk_by (by kernel_rfl)) (fun _ _ _ _ _ => (gv_n 7 nd)) (fun _ _ _ _ _ => ts_nil) (fun _ _ _ _ _ => (x_ix (x_v 7) x_int))) a_nil) (fx.free 26 rfl) boot_sum)) (s_cons (s_if (t_pw (t_or (t_cmp d_lt (x_v 6) x_int) (t_or1 (t_cmp d_gt (x_v 6) (x_op d_mul (x_gi (fx.int 27 rfl)) (x_v 3)))))) (s_one (s_ret x_str)) s_nil) (s_one (s_ret (x_if (t_tru (x_callK (fnK_is_octets fx) (hr.mono (by decide)) tk (a_cons (x_v 5) a_nil) (k_cons (x_ix (x_v 2) x_int) k_nil))) x_non x_str)))))))))))
theorem fn_fault_of : Fn P w K mg base (W0 K) "fault_of" 1 8 [] fs_fault_of := by
  obtain ⟨fd, FD⟩ := fx.def_ 14 (d := df_fault_of) rfl
  exact ⟨_, fd, ["value"], [], [], (fx.glo 52 rfl), FD.kp, ok_fault_of fx FD, FD.bindsN fun _ _ _ _ _ _ us hl => match us, hl with | [_], _ => rfl, .nil, fun F => .nil⟩
theorem ok_check_description {f : Addr} {fd : FuncData} {dvs : List V} {kws : List (Str × V)} (FD : FunD K df_check_description.name df_check_description.qual df_check_description.params df_check_description.body df_check_description.scope dvs kws f fd) : FnOk P w K mg base (L2.CX P w) 9 f fd ["description"] (spD K (W0 K) 1 fs_check_description) :=
  fn_ok (wb := w_check_description) FD sc_check_description rfl fun R cl cdv A outer s H E EX hr tk =>
    have nd := sc_check_description.nd
    (s_cons (s_set (i := 1) nd (x_call (fn_fault_of fx) (hr.mono (by decide)) tk (a_cons (x_v 0) a_nil))) (s_one (s_if (t_cmp d_isnot (x_v 1) x_non) (s_one (s_raise1 (exc_BadDescription fx) rfl (hr.mono (by decide)) tk (a_cons (x_v 1) a_nil))) s_nil)))
theorem fn_check_description : Fn P w K mg base (W0 K) "check_description" 1 9 [] fs_check_description := by
  obtain ⟨fd, FD⟩ := fx.def_ 15 (d := df_check_description) rfl
  exact ⟨_, fd, ["description"], [], [], (fx.glo 53 rfl), FD.kp, ok_check_description fx FD, FD.bindsN fun _ _ _ _ _ _ us hl => match us, hl with | [_], _ => rfl, .nil, fun F => .nil⟩
theorem ok_are_files_playing {f : Addr} {fd : FuncData} {dvs : List V} {kws : List (Str × V)} (FD : FunD K df_are_files_playing.name df_are_files_playing.qual df_are_files_playing.params df_are_files_playing.body df_are_files_playing.scope dvs kws f fd) : FnOk P w K mg base (L2.CX P w) 2 f fd ["description", "value"] (spD K (W0 K) 2 fs_are_files_playing) :=
  fn_ok (wb := w_are_files_playing) FD sc_are_files_playing rfl fun R cl cdv A outer s H E EX hr tk =>
    have nd := sc_are_files_playing.nd
    (s_cons (s_if (t_pw (t_or (t_not (t_tru (x_cb c_isi (a_cons (x_v 1) (a_cons (x_ty (fx.free 3 rfl) boot_tuple) a_nil)) (fx.free 6 rfl) boot_isinstance))) (t_or1 (t_cmp (d_eq hr.units) (x_v 1) (x_tup a_nil))))) (s_one (s_ret x_bl)) s_nil) (s_cons (s_for (passes_of rfl) rfl (i_sq (x_v 1)) (g_n 2 nd) (s_one (s_if (t_pw (t_or (t_not (t_tru (x_call (fn_is_integer fx) (hr.mono (by decide)) tk (a_cons (x_v 2) a_nil)))) (t_or (t_cmp d_lt (x_v 2) x_int) (t_or1 (t_cmp d_ge (x_v 2) (x_cb c_len (a_cons (x_ix (x_v 0) x_int) a_nil) (fx.free 4 rfl) boot_len)))))) (s_one (s_ret x_bl)) s_nil))) (s_one (s_ret (x_cmp (d_eq hr.units) (x_lenSet rfl (fx.free 4 rfl) (fx.free 28 rfl) (x_v 1)) (x_cb c_len (a_cons (x_v 1) a_nil) (fx.free 4 rfl) boot_len))))))
theorem fn_are_files_playing : Fn P w K mg base (W0 K) "are_files_playing" 2 2 [] fs_are_files_playing := by
  obtain ⟨fd, FD⟩ := fx.def_ 16 (d := df_are_files_playing) rfl
  exact ⟨_, fd, ["description", "value"], [], [], (fx.glo 54 rfl), FD.kp, ok_are_files_playing fx FD, FD.bindsN fun _ _ _ _ _ _ us hl => match us, hl with | [_, _], _ => rfl, .nil, fun F => .nil⟩
theorem ok_length_of {f : Addr} {fd : FuncData} {dvs : List V} {kws : List (Str × V)} (FD : FunD K df_length_of.name df_length_of.qual df_length_of.params df_length_of.body df_length_of.scope dvs kws f fd) : FnOk P w K mg base (L2.CX P w) 1 f fd ["description"] (spD K (W0 K) 1 fs_length_of) :=
  fn_ok (wb := w_length_of) FD sc_length_of rfl fun R cl cdv A outer s H E EX hr tk =>
    have nd := sc_length_of.nd
    (s_one (s_ret (x_cb (c_sum rfl) (a_cons (x_lc rfl nd (i_sq (x_ix (x_v 0) x_int)) (own := [("file", 1)]) (blkOk_by (by kernel_rfl)) (fun _ _ _ _ _ => (gv_n 1 nd)) (fun _ _ _ _ _ => ts_nil) (fun _ _ _ _ _ => (x_ix (x_v 1) x_int))) a_nil) (fx.free 26 rfl) boot_sum)))
theorem fn_length_of : Fn P w K mg base (W0 K) "length_of" 1 1 [] fs_length_of := by
  obtain ⟨fd, FD⟩ := fx.def_ 17 (d := df_length_of) rfl
  exact ⟨_, fd, ["description"], [], [], (fx.glo 55 rfl), FD.kp, ok_length_of fx FD, FD.bindsN fun _ _ _ _ _ _ us hl => match us, hl with | [_], _ => rfl, .nil, fun F => .nil⟩
theorem ok_count_of {f : Addr} {fd : FuncData} {dvs : List V} {kws : List (Str × V)} (FD : FunD K df_count_of.name df_count_of.qual df_count_of.params df_count_of.body df_count_of.scope dvs kws f fd) : FnOk P w K mg base (L2.CX P w) 2 f fd ["description"] (spD K (W0 K) 1 fs_count_of) :=
  fn_ok (wb := w_count_of) FD sc_count_of rfl fun R cl cdv A outer s H E EX hr tk =>
    have nd := sc_count_of.nd
    (s_one (s_ret (x_op d_add (x_op d_fdiv (x_op d_sub (x_call (fn_length_of fx) (hr.mono (by decide)) tk (a_cons (x_v 0) a_nil)) x_int) (x_ix (x_v 0) x_int)) x_int)))
theorem fn_count_of : Fn P w K mg base (W0 K) "count_of" 1 2 [] fs_count_of := by
  obtain ⟨fd, FD⟩ := fx.def_ 18 (d := df_count_of) rfl
  exact ⟨_, fd, ["description"], [], [], (fx.glo 56 rfl), FD.kp, ok_count_of fx FD, FD.bindsN fun _ _ _ _ _ _ us hl => match us, hl with | [_], _ => rfl, .nil, fun F => .nil⟩
theorem ok_piece_count {f : Addr} {fd : FuncData} {dvs : List V} {kws : List (Str × V)} (FD : FunD K df_piece_count.name df_piece_count.qual df_piece_count.params df_piece_count.body df_piece_count.scope dvs kws f fd) : FnOk P w K mg base (L2.CX P w) 10 f fd ["description"] (spD K (W0 K) 1 fs_piece_count) :=
  fn_ok (wb := w_piece_count) FD sc_piece_count rfl fun R cl cdv A outer s H E EX hr tk =>
    have nd := sc_piece_count.nd
    (s_cons (s_expr (x_call (fn_check_description fx) (hr.mono (by decide)) tk (a_cons (x_v 0) a_nil))) (s_one (s_ret (x_call (fn_count_of fx) (hr.mono (by decide)) tk (a_cons (x_v 0) a_nil)))))
theorem fn_piece_count : Fn P w K mg base (W0 K) "piece_count" 1 10 [] fs_piece_count := by
  obtain ⟨fd, FD⟩ := fx.def_ 19 (d := df_piece_count) rfl
  exact ⟨_, fd, ["description"], [], [], (fx.glo 57 rfl), FD.kp, ok_piece_count fx FD, FD.bindsN fun _ _ _ _ _ _ us hl => match us, hl with | [_], _ => rfl, .nil, fun F => .nil⟩
theorem ok_is_index {f : Addr} {fd : FuncData} {dvs : List V} {kws : List (Str × V)} (FD : FunD K df_is_index.name df_is_index.qual df_is_index.params df_is_index.body df_is_index.scope dvs kws f fd) : FnOk P w K mg base (L2.CX P w) 2 f fd ["value", "count"] (spD K (W0 K) 2 fs_is_index) :=
  fn_ok (wb := w_is_index) FD sc_is_index rfl fun R cl cdv A outer s H E EX hr tk =>
    have nd := sc_is_index.nd
    (s_one (s_ret (x_and (x_call (fn_is_integer fx) (hr.mono (by decide)) tk (a_cons (x_v 0) a_nil)) (x_and (x_cmp d_le x_int (x_v 0)) (x_one (x_cmp d_lt (x_v 0) (x_v 1)))))))
theorem fn_is_index : Fn P w K mg base (W0 K) "is_index" 2 2 [] fs_is_index := by
  obtain ⟨fd, FD⟩ := fx.def_ 20 (d := df_is_index) rfl
  exact ⟨_, fd, ["value", "count"], [], [], (fx.glo 58 rfl), FD.kp, ok_is_index fx FD, FD.bindsN fun _ _ _ _ _ _ us hl => match us, hl with | [_, _], _ => rfl, .nil, fun F => .nil⟩
theorem ok_check_index {f : Addr} {fd : FuncData} {dvs : List V} {kws : List (Str × V)} (FD : FunD K df_check_index.name df_check_index.qual df_check_index.params df_check_index.body df_check_index.scope dvs kws f fd) : FnOk P w K mg base (L2.CX P w) 3 f fd ["value", "count"] (spD K (W0 K) 2 fs_check_index) :=
  fn_ok (wb := w_check_index) FD sc_check_index rfl fun R cl cdv A outer s H E EX hr tk =>
    have nd := sc_check_index.nd
    (s_one (s_if (t_not (t_tru (x_call (fn_is_index fx) (hr.mono (by decide)) tk (a_cons (x_v 0) (a_cons (x_v 1) a_nil))))) (s_one (s_raise (exc_BadContent fx) rfl tk)) s_nil))
theorem fn_check_index : Fn P w K mg base (W0 K) "check_index" 2 3 [] fs_check_index := by
  obtain ⟨fd, FD⟩ := fx.def_ 21 (d := df_check_index) rfl
  exact ⟨_, fd, ["value", "count"], [], [], (fx.glo 59 rfl), FD.kp, ok_check_index fx FD, FD.bindsN fun _ _ _ _ _ _ us hl => match us, hl with | [_, _], _ => rfl, .nil, fun F => .nil⟩
theorem ok_starts_of {f : Addr} {fd : FuncData} {dvs : List V} {kws : List (Str × V)} (FD : FunD K df_starts_of.name df_starts_of.qual df_starts_of.params df_starts_of.body df_starts_of.scope dvs kws f fd) : FnOk P w K mg base (L2.CX P w) 1 f fd ["files"] (spD K (W0 K) 1 fs_starts_of) :=
  fn_ok (wb := w_starts_of) FD sc_starts_of rfl fun R cl cdv A outer s H E EX hr tk =>
    have nd := sc_starts_of.nd
    (s_cons (s_set (i := 1) nd (x_lstM (a_cons x_int a_nil))) (s_cons (s_for (passes_of rfl) rfl (i_sq (x_v 0)) (g_n 2 nd) (s_one (s_expr (x_ml PySem.F.slot_list_append PySem.F.type_list_append m_app (x_v 1) (a_cons (x_op d_add (x_ix (x_v 1) (x_un u_neg x_int)) (x_ix (x_v 2) x_int)) a_nil))))) (s_one (s_retF (x_v 1)))))
theorem fn_starts_of : Fn P w K mg base (W0 K) "starts_of" 1 1 [] fs_starts_of := by
  obtain ⟨fd, FD⟩ := fx.def_ 22 (d := df_starts_of) rfl
  exact ⟨_, fd, ["files"], [], [], (fx.glo 60 rfl), FD.kp, ok_starts_of fx FD, FD.bindsN fun _ _ _ _ _ _ us hl => match us, hl with | [_], _ => rfl, .nil, fun F => .nil⟩
theorem ok_pieces_of {f : Addr} {fd : FuncData} {dvs : List V} {kws : List (Str × V)} (FD : FunD K df_pieces_of.name df_pieces_of.qual df_pieces_of.params df_pieces_of.body df_pieces_of.scope dvs kws f fd) : FnOk P w K mg base (L2.CX P w) 10 f fd ["description", "file"] (spD K (W0 K) 2 fs_pieces_of) :=
  fn_ok (wb := w_pieces_of) FD sc_pieces_of rfl fun R cl cdv A outer s H E EX hr tk =>
    have nd := sc_pieces_of.nd
    (s_cons (s_expr (x_call (fn_check_description fx) (hr.mono (by decide)) tk (a_cons (x_v 0) a_nil))) (s_cons (s_expr (x_call (fn_check_index fx) (hr.mono (by decide)) tk (a_cons (x_v 1) (a_cons (x_cb c_len (a_cons (x_ix (x_v 0) x_int) a_nil) (fx.free 4 rfl) boot_len) a_nil)))) (s_cons (s_set (i := 2) nd (x_call (fn_starts_of fx) (hr.mono (by decide)) tk (a_cons (x_ix (x_v 0) x_int) a_nil))) (s_cons (s_if (t_cmp (d_eq hr.units) (x_ix (x_v 2) (x_v 1)) (x_ix (x_v 2) (x_op d_add (x_v 1) x_int))) (s_one (s_ret (x_tup (a_cons x_int (a_cons x_int a_nil))))) s_nil) (s_cons (s_set (i := 3) nd (x_ix (x_v 0) x_int)) (s_one (s_ret (x_tup (a_cons (x_op d_fdiv (x_ix (x_v 2) (x_v 1)) (x_v 3)) (a_cons (x_op d_add (x_op d_fdiv (x_op d_sub (x_ix (x_v 2) (x_op d_add (x_v 1) x_int)) x_int) (x_v 3)) x_int) a_nil))))))))))
theorem fn_pieces_of : Fn P w K mg base (W0 K) "pieces_of" 2 10 [] fs_pieces_of := by
  obtain ⟨fd, FD⟩ := fx.def_ 23 (d := df_pieces_of) rfl
  exact ⟨_, fd, ["description", "file"], [], [], (fx.glo 61 rfl), FD.kp, ok_pieces_of fx FD, FD.bindsN fun _ _ _ _ _ _ us hl => match us, hl with | [_, _], _ => rfl, .nil, fun F => .nil⟩
theorem ok_Plan__all_wanted {f : Addr} {fd : FuncData} {dvs : List V} {kws : List (Str × V)} (FD : FunD K df_Plan__all_wanted.name df_Plan__all_wanted.qual df_Plan__all_wanted.params df_Plan__all_wanted.body df_Plan__all_wanted.scope dvs kws f fd) : FnOk P w K mg base (L2.CX P w) 11 f fd ["self"] (spD K (W0 K) 1 fs_Plan__all_wanted) :=
  fn_ok (wb := w_Plan__all_wanted) FD sc_Plan__all_wanted rfl fun R cl cdv A outer s H E EX hr tk =>
    have nd := sc_Plan__all_wanted.nd
    (s_cons (s_set (i := 1) nd (x_lstM a_nil)) (s_cons (s_for (passes_of rfl) rfl (i_r1 (fx.free 2 rfl) (a_cons (x_call (fn_piece_count fx) (hr.mono (by decide)) tk (a_cons (x_fld (cf_Plan fx) (x_v 0) lf_Plan_0) a_nil)) a_nil)) (g_n 2 nd) (s_one (s_for (passes_of rfl) rfl (i_sq (x_fld (cf_Plan fx) (x_v 0) lf_Plan_1)) (g_n 3 nd) (s_cons (s_asg (x_call (fn_pieces_of fx) (hr.mono (by decide)) tk (a_cons (x_fld (cf_Plan fx) (x_v 0) lf_Plan_0) (a_cons (x_v 3) a_nil))) (g_t rfl (g_c (g_n 4 nd) (g_c (g_n 5 nd) g_z)))) (s_one (s_if (t_pw (t_and (t_chain d_le d_lt (x_v 4) (x_v 2) (x_v 5)) (t_and1 (t_cmp d_notin (x_v 2) (x_v 1))))) (s_one (s_expr (x_ml PySem.F.slot_list_append PySem.F.type_list_append m_app (x_v 1) (a_cons (x_v 2) a_nil)))) s_nil)))))) (s_one (s_retF (x_v 1)))))
theorem mt_Plan__all_wanted : Mt P w K mg base (W0 K) "Plan" "_all_wanted" 1 11 fs_Plan__all_wanted := by
  obtain ⟨fd, FD⟩ := fx.def_ 24 (d := df_Plan__all_wanted) rfl
  exact ⟨_, fd, ["self"], He.meth_ok (fx.fact 62 rfl), ok_Plan__all_wanted fx FD, FD.bindsN fun _ _ _ _ _ _ us hl => match us, hl with | [_], _ => rfl⟩
theorem ok_Plan___init__ {f : Addr} {fd : FuncData} {dvs : List V} {kws : List (Str × V)} (FD : FunD K df_Plan___init__.name df_Plan___init__.qual df_Plan___init__.params df_Plan___init__.body df_Plan___init__.scope dvs kws f fd) : FnOk P w K mg base (L2.CX P w) 12 f fd ["self", "description", "files", "window"] (spD K (W0 K) 4 fs_Plan___init__) :=
  fn_ok (wb := w_Plan___init__) FD sc_Plan___init__ rfl fun R cl cdv A outer s H E EX hr tk =>
    have nd := sc_Plan___init__.nd
    (s_cons (s_expr (x_call (fn_check_description fx) (hr.mono (by decide)) tk (a_cons (x_v 1) a_nil))) (s_cons (s_if (t_pw (t_or (t_not (t_tru (x_call (fn_are_files_playing fx) (hr.mono (by decide)) tk (a_cons (x_v 1) (a_cons (x_v 2) a_nil))))) (t_or (t_not (t_tru (x_call (fn_is_integer fx) (hr.mono (by decide)) tk (a_cons (x_v 3) a_nil)))) (t_or (t_cmp d_lt (x_v 3) x_int) (t_or1 (t_cmp d_gt (x_v 3) (x_gi (fx.int 29 rfl)))))))) (s_one (s_raise (exc_BadPlan fx) rfl tk)) s_nil) (s_cons (s_fld (cf_Plan fx) (x_v 0) (x_v 1) lf_Plan_0) (s_cons (s_fld (cf_Plan fx) (x_v 0) (x_v 2) lf_Plan_1) (s_cons (s_fld (cf_Plan fx) (x_v 0) (x_v 3) lf_Plan_2) (s_cons (s_fld (cf_Plan fx) (x_v 0) x_int lf_Plan_3) (s_one (s_fld (cf_Plan fx) (x_v 0) (x_meth0 (mt_Plan__all_wanted fx) (cf_Plan fx) nl_Plan__all_wanted (hr.mono (by decide)) tk (x_v 0)) lf_Plan_4))))))))
theorem mk_Plan : Mkc P w K mg base (W0 K) "Plan" "Plan" 4 12 fs_Plan___init__ := by
  obtain ⟨fd, FD⟩ := fx.def_ 25 (d := df_Plan___init__) rfl
  exact ⟨_, fd, ["self", "description", "files", "window"], (fx.glo 63 rfl), He.mkr_ok (fx.fact 64 rfl), ok_Plan___init__ fx FD, FD.bindsN fun _ _ _ _ _ _ us hl => match us, hl with | [_, _, _, _], _ => rfl⟩
theorem ok__law_starts {f : Addr} {fd : FuncData} {dvs : List V} {kws : List (Str × V)} (FD : FunD K df__law_starts.name df__law_starts.qual df__law_starts.params df__law_starts.body df__law_starts.scope dvs kws f fd) : FnOk P w K mg base (L2.CX P w) 1 f fd ["_law_description_here"] (spD K (W0 K) 1 fs__law_starts) :=
  fn_ok (wb := w__law_starts) FD sc__law_starts rfl fun R cl cdv A outer s H E EX hr tk =>
    have nd := sc__law_starts.nd
    (s_cons (s_set (i := 1) nd (x_lstM (a_cons x_int a_nil))) (s_cons (s_for (passes_of rfl) rfl (i_sq (x_ix (x_v 0) x_int)) (g_n 2 nd) (s_one (s_expr (x_ml PySem.F.slot_list_append PySem.F.type_list_append m_app (x_v 1) (a_cons (x_op d_add (x_ix (x_v 1) (x_un u_neg x_int)) (x_ix (x_v 2) x_int)) a_nil))))) (s_one (s_retF (x_v 1)))))
theorem fn__law_starts : Fn P w K mg base (W0 K) "_law_starts" 1 1 [] fs__law_starts := by
  obtain ⟨fd, FD⟩ := fx.def_ 26 (d := df__law_starts) rfl
  exact ⟨_, fd, ["_law_description_here"], [], [], (fx.glo 65 rfl), FD.kp, ok__law_starts fx FD, FD.bindsN fun _ _ _ _ _ _ us hl => match us, hl with | [_], _ => rfl, .nil, fun F => .nil⟩
theorem ok__law_stream {f : Addr} {fd : FuncData} {dvs : List V} {kws : List (Str × V)} (FD : FunD K df__law_stream.name df__law_stream.qual df__law_stream.params df__law_stream.body df__law_stream.scope dvs kws f fd) : FnOk P w K mg base (L2.CX P w) 2 f fd ["_law_description_here", "_law_files_here"] (spD K (W0 K) 2 fs__law_stream) :=
  fn_ok (wb := w__law_stream) FD sc__law_stream rfl fun R cl cdv A outer s H E EX hr tk =>
    have nd := sc__law_stream.nd
    (s_cons (s_set (i := 2) nd (x_call (fn__law_starts fx) (hr.mono (by decide)) tk (a_cons (x_v 0) a_nil))) (s_cons (s_set (i := 3) nd (x_lst a_nil)) (s_cons (s_for (passes_of rfl) rfl (i_sq (x_v 1)) (g_n 4 nd) (s_one (s_set (i := 3) nd (x_op d_add (x_v 3) (x_lrg rfl (fx.free 5 rfl) (rg_2 (fx.free 2 rfl) (x_ix (x_v 2) (x_v 4)) (x_ix (x_v 2) (x_op d_add (x_v 4) x_int)))))))) (s_one (s_ret (x_v 3))))))
theorem fn__law_stream : Fn P w K mg base (W0 K) "_law_stream" 2 2 [] fs__law_stream := by
  obtain ⟨fd, FD⟩ := fx.def_ 27 (d := df__law_stream) rfl
  exact ⟨_, fd, ["_law_description_here", "_law_files_here"], [], [], (fx.glo 66 rfl), FD.kp, ok__law_stream fx FD, FD.bindsN fun _ _ _ _ _ _ us hl => match us, hl with | [_, _], _ => rfl, .nil, fun F => .nil⟩
theorem ok_Plan_move {f : Addr} {fd : FuncData} {dvs : List V} {kws : List (Str × V)} (FD : FunD K df_Plan_move.name df_Plan_move.qual df_Plan_move.params df_Plan_move.body df_Plan_move.scope dvs kws f fd) : FnOk P w K mg base (L2.CX P w) 1 f fd ["self", "place"] (spD K (W0 K) 2 fs_Plan_move) :=
  fn_ok (wb := w_Plan_move) FD sc_Plan_move rfl fun R cl cdv A outer s H E EX hr tk =>
    have nd := sc_Plan_move.nd
    (s_one (s_fld (cf_Plan fx) (x_v 0) (x_v 1) lf_Plan_3))
theorem mt_Plan_move : Mt P w K mg base (W0 K) "Plan" "move" 2 1 fs_Plan_move := by
  obtain ⟨fd, FD⟩ := fx.def_ 28 (d := df_Plan_move) rfl
  exact ⟨_, fd, ["self", "place"], He.meth_ok (fx.fact 67 rfl), ok_Plan_move fx FD, FD.bindsN fun _ _ _ _ _ _ us hl => match us, hl with | [_, _], _ => rfl⟩
theorem ok__law_count {f : Addr} {fd : FuncData} {dvs : List V} {kws : List (Str × V)} (FD : FunD K df__law_count.name df__law_count.qual df__law_count.params df__law_count.body df__law_count.scope dvs kws f fd) : FnOk P w K mg base (L2.CX P w) 2 f fd ["_law_description_here"] (spD K (W0 K) 1 fs__law_count) :=
  fn_ok (wb := w__law_count) FD sc__law_count rfl fun R cl cdv A outer s H E EX hr tk =>
    have nd := sc__law_count.nd
    (s_one (s_ret (x_op d_fdiv (x_op d_sub (x_op d_add (x_ix (x_call (fn__law_starts fx) (hr.mono (by decide)) tk (a_cons (x_v 0) a_nil)) (x_un u_neg x_int)) (x_ix (x_v 0) x_int)) x_int) (x_ix (x_v 0) x_int))))
theorem fn__law_count : Fn P w K mg base (W0 K) "_law_count" 1 2 [] fs__law_count := by
  obtain ⟨fd, FD⟩ := fx.def_ 29 (d := df__law_count) rfl
  exact ⟨_, fd, ["_law_description_here"], [], [], (fx.glo 68 rfl), FD.kp, ok__law_count fx FD, FD.bindsN fun _ _ _ _ _ _ us hl => match us, hl with | [_], _ => rfl, .nil, fun F => .nil⟩
theorem ok__law_flags {f : Addr} {fd : FuncData} {dvs : List V} {kws : List (Str × V)} (FD : FunD K df__law_flags.name df__law_flags.qual df__law_flags.params df__law_flags.body df__law_flags.scope dvs kws f fd) : FnOk P w K mg base (L2.CX P w) 1 f fd ["_law_number", "_law_count_here"] (spD K (W0 K) 2 fs__law_flags) :=
  fn_ok (wb := w__law_flags) FD sc__law_flags rfl fun R cl cdv A outer s H E EX hr tk =>
    have nd := sc__law_flags.nd
    (s_one (s_ret (x_lc rfl nd (i_r1 (fx.free 2 rfl) (a_cons (x_v 1) a_nil)) (own := [("_law_k", 2)]) (blkOk_by (by kernel_rfl)) (fun _ _ _ _ _ => (gv_n 2 nd)) (fun _ _ _ _ _ => ts_nil) (fun _ _ _ _ _ => (x_cmp d_gt (x_op d_mod (x_op d_fdiv (x_v 0) (x_op d_add x_int (x_op d_mul x_int (x_v 2)))) x_int) x_int)))))
theorem fn__law_flags : Fn P w K mg base (W0 K) "_law_flags" 2 1 [] fs__law_flags := by
  obtain ⟨fd, FD⟩ := fx.def_ 30 (d := df__law_flags) rfl
  exact ⟨_, fd, ["_law_number", "_law_count_here"], [], [], (fx.glo 69 rfl), FD.kp, ok__law_flags fx FD, FD.bindsN fun _ _ _ _ _ _ us hl => match us, hl with | [_, _], _ => rfl, .nil, fun F => .nil⟩
theorem ok__law_wanted {f : Addr} {fd : FuncData} {dvs : List V} {kws : List (Str × V)} (FD : FunD K df__law_wanted.name df__law_wanted.qual df__law_wanted.params df__law_wanted.body df__law_wanted.scope dvs kws f fd) : FnOk P w K mg base (L2.CX P w) 3 f fd ["_law_description_here", "_law_stream_here"] (spD K (W0 K) 2 fs__law_wanted) :=
  fn_ok (wb := w__law_wanted) FD sc__law_wanted rfl fun R cl cdv A outer s H E EX hr tk =>
    have nd := sc__law_wanted.nd
    (s_one (s_ret (x_lc rfl nd (i_r1 (fx.free 2 rfl) (a_cons (x_call (fn__law_count fx) (hr.mono (by decide)) tk (a_cons (x_v 0) a_nil)) a_nil)) (own := [("_law_k", 2)]) (blkOk_by (by kernel_rfl)) (fun _ _ _ _ _ => (gv_n 2 nd)) (fun _ _ _ _ _ => (ts_one (t_cmp d_in (x_v 2) (x_lc rfl nd (i_sq (x_v 1)) (own := [("_law_spot", 3)]) (blkOk_by (by kernel_rfl)) (fun _ _ _ _ _ => (gv_n 3 nd)) (fun _ _ _ _ _ => ts_nil) (fun _ _ _ _ _ => (x_op d_fdiv (x_v 3) (x_ix (x_v 0) x_int))))))) (fun _ _ _ _ _ => (x_v 2)))))
theorem fn__law_wanted : Fn P w K mg base (W0 K) "_law_wanted" 2 3 [] fs__law_wanted := by
  obtain ⟨fd, FD⟩ := fx.def_ 31 (d := df__law_wanted) rfl
  exact ⟨_, fd, ["_law_description_here", "_law_stream_here"], [], [], (fx.glo 70 rfl), FD.kp, ok__law_wanted fx FD, FD.bindsN fun _ _ _ _ _ _ us hl => match us, hl with | [_, _], _ => rfl, .nil, fun F => .nil⟩
theorem ok__law_wants {f : Addr} {fd : FuncData} {dvs : List V} {kws : List (Str × V)} (FD : FunD K df__law_wants.name df__law_wants.qual df__law_wants.params df__law_wants.body df__law_wants.scope dvs kws f fd) : FnOk P w K mg base (L2.CX P w) 4 f fd ["_law_description_here", "_law_stream_here", "_law_claims", "_law_held"] (spD K (W0 K) 4 fs__law_wants) :=
  fn_ok (wb := w__law_wants) FD sc__law_wants rfl fun R cl cdv A outer s H E EX hr tk =>
    have nd := sc__law_wants.nd
    (s_cons (s_set (i := 4) nd (x_call (fn__law_wanted fx) (hr.mono (by decide)) tk (a_cons (x_v 0) (a_cons (x_v 1) a_nil)))) (s_cons (by first | exact (s_set (i := 5) nd (x_lc rfl nd (i_sq (x_v 4)) (own := [("_law_index", 7)]) (blkOk_by (by kernel_rfl)) (fun _ _ _ _ _ => (gv_n 7 nd)) (fun _ _ _ _ _ => (ts_one (t_cmp d_notin (x_v 7) (x_v 3)))) (fun _ _ _ _ _ => (x_v 7)))) | exact (s_lc rfl nd (i_sq (x_v 4)) (own := [("_law_index", 7)]) (blkOk_by (by kernel_rfl)) (fun _ _ _ _ _ => (gv_n 7 nd)) (fun _ _ _ _ _ => (ts_one (t_cmp d_notin (x_v 7) (x_v 3)))) (fun _ _ _ _ _ => (x_v 7)) rfl (i := 5))) (s_cons (s_set (i := 6) nd (x_lstM a_nil)) (s_cons (s_for (passes_of rfl) rfl (i_r1 (fx.free 2 rfl) (a_cons (x_cb c_len (a_cons (x_v 2) a_nil) (fx.free 4 rfl) boot_len) a_nil)) (g_n 7 nd) (s_one (s_if (t_pw (t_and (t_tru (x_ix (x_v 2) (x_v 7))) (t_and (t_cmp d_notin (x_v 7) (x_v 3)) (t_and1 (t_pw (t_or (t_cmp (d_eq hr.units) (x_v 5) (x_lst a_nil)) (t_or1 (t_cmp d_in (x_v 7) (x_v 4))))))))) (s_one (s_expr (x_ml PySem.F.slot_list_append PySem.F.type_list_append m_app (x_v 6) (a_cons (x_v 7) a_nil)))) s_nil))) (s_one (s_retF (x_v 6)))))))
theorem fn__law_wants : Fn P w K mg base (W0 K) "_law_wants" 4 4 [] fs__law_wants := by
  obtain ⟨fd, FD⟩ := fx.def_ 32 (d := df__law_wants) rfl
  exact ⟨_, fd, ["_law_description_here", "_law_stream_here", "_law_claims", "_law_held"], [], [], (fx.glo 71 rfl), FD.kp, ok__law_wants fx FD, FD.bindsN fun _ _ _ _ _ _ us hl => match us, hl with | [_, _, _, _], _ => rfl, .nil, fun F => .nil⟩
theorem ok_Plan_wants {f : Addr} {fd : FuncData} {dvs : List V} {kws : List (Str × V)} (FD : FunD K df_Plan_wants.name df_Plan_wants.qual df_Plan_wants.params df_Plan_wants.body df_Plan_wants.scope dvs kws f fd) : FnOk P w K mg base (L2.CX P w) 1 f fd ["self", "claims", "held"] (spD K (W0 K) 3 fs_Plan_wants) :=
  fn_ok (wb := w_Plan_wants) FD sc_Plan_wants rfl fun R cl cdv A outer s H E EX hr tk =>
    have nd := sc_Plan_wants.nd
    (s_cons (by first | exact (s_set (i := 3) nd (x_lc rfl nd (i_en (fx.free 25 rfl) (a_cons (x_v 1) a_nil)) (own := [("index", 4), ("claimed", 5)]) (blkOk_by (by kernel_rfl)) (fun _ _ _ _ _ => (gv_t rfl (gv_c (gv_n 4 nd) (gv_c (gv_n 5 nd) gv_z)))) (fun _ _ _ _ _ => (ts_one (t_pw (t_and (t_tru (x_v 5)) (t_and1 (t_cmp d_notin (x_v 4) (x_v 2))))))) (fun _ _ _ _ _ => (x_v 4)))) | exact (s_lc rfl nd (i_en (fx.free 25 rfl) (a_cons (x_v 1) a_nil)) (own := [("index", 4), ("claimed", 5)]) (blkOk_by (by kernel_rfl)) (fun _ _ _ _ _ => (gv_t rfl (gv_c (gv_n 4 nd) (gv_c (gv_n 5 nd) gv_z)))) (fun _ _ _ _ _ => (ts_one (t_pw (t_and (t_tru (x_v 5)) (t_and1 (t_cmp d_notin (x_v 4) (x_v 2))))))) (fun _ _ _ _ _ => (x_v 4)) rfl (i := 3))) (s_cons (s_if (t_tru (x_cb (c_all rfl) (a_cons (x_lc rfl nd (i_sq (x_fld (cf_Plan fx) (x_v 0) lf_Plan_4)) (own := [("index", 4)]) (blkOk_by (by kernel_rfl)) (fun _ _ _ _ _ => (gv_n 4 nd)) (fun _ _ _ _ _ => ts_nil) (fun _ _ _ _ _ => (x_cmp d_in (x_v 4) (x_v 2)))) a_nil) (fx.free 8 rfl) boot_all)) (s_one (s_ret (x_v 3))) s_nil) (s_one (s_ret (x_lc rfl nd (i_sq (x_v 3)) (own := [("index", 4)]) (blkOk_by (by kernel_rfl)) (fun _ _ _ _ _ => (gv_n 4 nd)) (fun _ _ _ _ _ => (ts_one (t_cmp d_in (x_v 4) (x_fld (cf_Plan fx) (x_v 0) lf_Plan_4)))) (fun _ _ _ _ _ => (x_v 4)))))))
theorem mt_Plan_wants : Mt P w K mg base (W0 K) "Plan" "wants" 3 1 fs_Plan_wants := by
  obtain ⟨fd, FD⟩ := fx.def_ 33 (d := df_Plan_wants) rfl
  exact ⟨_, fd, ["self", "claims", "held"], He.meth_ok (fx.fact 72 rfl), ok_Plan_wants fx FD, FD.bindsN fun _ _ _ _ _ _ us hl => match us, hl with | [_, _, _], _ => rfl⟩
theorem ok__law_choice {f : Addr} {fd : FuncData} {dvs : List V} {kws : List (Str × V)} (FD : FunD K df__law_choice.name df__law_choice.qual df__law_choice.params df__law_choice.body df__law_choice.scope dvs kws f fd) : FnOk P w K mg base (L2.CX P w) 1 f fd ["_law_pieces", "_law_ahead_here", "_law_fields", "_law_asked"] (spD K (W0 K) 4 fs__law_choice) :=
  fn_ok (wb := w__law_choice) FD sc__law_choice rfl fun R cl cdv A outer s H E EX hr tk =>
    have nd := sc__law_choice.nd
    (s_cons (by first | exact (s_set (i := 4) nd (x_lc rfl nd (i_sq (x_v 1)) (own := [("_law_index", 7)]) (blkOk_by (by kernel_rfl)) (fun _ _ _ _ _ => (gv_n 7 nd)) (fun _ _ _ _ _ => (ts_one (t_cmp d_in (x_v 7) (x_v 0)))) (fun _ _ _ _ _ => (x_v 7)))) | exact (s_lc rfl nd (i_sq (x_v 1)) (own := [("_law_index", 7)]) (blkOk_by (by kernel_rfl)) (fun _ _ _ _ _ => (gv_n 7 nd)) (fun _ _ _ _ _ => (ts_one (t_cmp d_in (x_v 7) (x_v 0)))) (fun _ _ _ _ _ => (x_v 7)) rfl (i := 4))) (s_cons (by first | exact (s_set (i := 5) nd (x_lc rfl nd (i_sq (x_v 4)) (own := [("_law_index", 7)]) (blkOk_by (by kernel_rfl)) (fun _ _ _ _ _ => (gv_n 7 nd)) (fun _ _ _ _ _ => (ts_one (t_cmp d_notin (x_v 7) (x_v 3)))) (fun _ _ _ _ _ => (x_v 7)))) | exact (s_lc rfl nd (i_sq (x_v 4)) (own := [("_law_index", 7)]) (blkOk_by (by kernel_rfl)) (fun _ _ _ _ _ => (gv_n 7 nd)) (fun _ _ _ _ _ => (ts_one (t_cmp d_notin (x_v 7) (x_v 3)))) (fun _ _ _ _ _ => (x_v 7)) rfl (i := 5))) (s_cons (s_if (t_cmp (d_ne hr.units) (x_v 5) (x_lst a_nil)) (s_one (s_ret (x_ix (x_v 5) x_int))) s_nil) (s_cons (s_set (i := 6) nd x_non) (s_cons (s_for (passes_of rfl) rfl (i_sq (x_v 0)) (g_n 7 nd) (s_cons (s_set (i := 8) nd (x_cb c_len (a_cons (x_lc rfl nd (i_sq (x_v 2)) (own := [("_law_field", 9)]) (blkOk_by (by kernel_rfl)) (fun _ _ _ _ _ => (gv_n 9 nd)) (fun _ _ _ _ _ => (ts_one (t_tru (x_ix (x_v 9) (x_v 7))))) (fun _ _ _ _ _ => (x_v 9))) a_nil) (fx.free 4 rfl) boot_len)) (s_one (s_if (t_pw (t_and (t_cmp d_notin (x_v 7) (x_v 3)) (t_and1 (t_pw (t_or (t_cmp d_is (x_v 6) x_non) (t_or1 (t_cmp d_lt (x_v 8) (x_ix (x_v 6) x_int)))))))) (s_one (s_set (i := 6) nd (x_tup (a_cons (x_v 8) (a_cons (x_v 7) a_nil))))) s_nil)))) (s_cons (s_if (t_cmp d_isnot (x_v 6) x_non) (s_one (s_ret (x_ix (x_v 6) x_int))) s_nil) (s_cons (s_if (t_cmp (d_ne hr.units) (x_v 4) (x_lst a_nil)) (s_one (s_ret (x_ix (x_v 4) x_int))) s_nil) (s_one (s_ret (x_if (t_cmp (d_ne hr.units) (x_v 0) (x_lst a_nil)) (x_ix (x_v 0) x_int) x_non))))))))))
theorem fn__law_choice : Fn P w K mg base (W0 K) "_law_choice" 4 1 [] fs__law_choice := by
  obtain ⟨fd, FD⟩ := fx.def_ 34 (d := df__law_choice) rfl
  exact ⟨_, fd, ["_law_pieces", "_law_ahead_here", "_law_fields", "_law_asked"], [], [], (fx.glo 73 rfl), FD.kp, ok__law_choice fx FD, FD.bindsN fun _ _ _ _ _ _ us hl => match us, hl with | [_, _, _, _], _ => rfl, .nil, fun F => .nil⟩
theorem ok__law_ahead {f : Addr} {fd : FuncData} {dvs : List V} {kws : List (Str × V)} (FD : FunD K df__law_ahead.name df__law_ahead.qual df__law_ahead.params df__law_ahead.body df__law_ahead.scope dvs kws f fd) : FnOk P w K mg base (L2.CX P w) 1 f fd ["_law_description_here", "_law_stream_here", "_law_place", "_law_window"] (spD K (W0 K) 4 fs__law_ahead) :=
  fn_ok (wb := w__law_ahead) FD sc__law_ahead rfl fun R cl cdv A outer s H E EX hr tk =>
    have nd := sc__law_ahead.nd
    (s_cons (s_set (i := 4) nd (x_lstM a_nil)) (s_cons (s_for (passes_of rfl) rfl (i_sq (x_sli (x_v 1) (o_pt (x_v 2)) o_no)) (g_n 5 nd) (s_cons (s_set (i := 6) nd (x_op d_fdiv (x_v 5) (x_ix (x_v 0) x_int))) (s_one (s_if (t_cmp d_notin (x_v 6) (x_v 4)) (s_one (s_expr (x_ml PySem.F.slot_list_append PySem.F.type_list_append m_app (x_v 4) (a_cons (x_v 6) a_nil)))) s_nil)))) (s_one (s_ret (x_sli (x_v 4) o_no (o_pt (x_v 3)))))))
theorem fn__law_ahead : Fn P w K mg base (W0 K) "_law_ahead" 4 1 [] fs__law_ahead := by
  obtain ⟨fd, FD⟩ := fx.def_ 35 (d := df__law_ahead) rfl
  exact ⟨_, fd, ["_law_description_here", "_law_stream_here", "_law_place", "_law_window"], [], [], (fx.glo 74 rfl), FD.kp, ok__law_ahead fx FD, FD.bindsN fun _ _ _ _ _ _ us hl => match us, hl with | [_, _, _, _], _ => rfl, .nil, fun F => .nil⟩
theorem ok_Plan__starts {f : Addr} {fd : FuncData} {dvs : List V} {kws : List (Str × V)} (FD : FunD K df_Plan__starts.name df_Plan__starts.qual df_Plan__starts.params df_Plan__starts.body df_Plan__starts.scope dvs kws f fd) : FnOk P w K mg base (L2.CX P w) 1 f fd ["self"] (spD K (W0 K) 1 fs_Plan__starts) :=
  fn_ok (wb := w_Plan__starts) FD sc_Plan__starts rfl fun R cl cdv A outer s H E EX hr tk =>
    have nd := sc_Plan__starts.nd
    (s_cons (s_set (i := 1) nd (x_lstM a_nil)) (s_cons (s_set (i := 2) nd x_int) (s_cons (by first | exact (s_set (i := 3) nd (x_lc rfl nd (i_sq (x_ix (x_fld (cf_Plan fx) (x_v 0) lf_Plan_0) x_int)) (own := [("_", 5), ("length", 6)]) (blkOk_by (by kernel_rfl)) (fun _ _ _ _ _ => (gv_t rfl (gv_c (gv_n 5 nd) (gv_c (gv_n 6 nd) gv_z)))) (fun _ _ _ _ _ => ts_nil) (fun _ _ _ _ _ => (x_v 6)))) | exact (s_lc rfl nd (i_sq (x_ix (x_fld (cf_Plan fx) (x_v 0) lf_Plan_0) x_int)) (own := [("_", 5), ("length", 6)]) (blkOk_by (by kernel_rfl)) (fun _ _ _ _ _ => (gv_t rfl (gv_c (gv_n 5 nd) (gv_c (gv_n 6 nd) gv_z)))) (fun _ _ _ _ _ => ts_nil) (fun _ _ _ _ _ => (x_v 6)) rfl (i := 3))) (s_cons (s_for (passes_of rfl) rfl (i_sq (x_fld (cf_Plan fx) (x_v 0) lf_Plan_1)) (g_n 4 nd) (s_cons (s_expr (x_ml PySem.F.slot_list_append PySem.F.type_list_append m_app (x_v 1) (a_cons (x_tup (a_cons (x_v 2) (a_cons (x_cb (c_sum rfl) (a_cons (x_sli (x_v 3) o_no (o_pt (x_v 4))) a_nil) (fx.free 26 rfl) boot_sum) (a_cons (x_ix (x_v 3) (x_v 4)) a_nil)))) a_nil))) (s_one (s_aug (i := 2) nd d_iadd (x_ix (x_v 3) (x_v 4)))))) (s_one (s_retF (x_v 1)))))))
theorem mt_Plan__starts : Mt P w K mg base (W0 K) "Plan" "_starts" 1 1 fs_Plan__starts := by
  obtain ⟨fd, FD⟩ := fx.def_ 36 (d := df_Plan__starts) rfl
  exact ⟨_, fd, ["self"], He.meth_ok (fx.fact 75 rfl), ok_Plan__starts fx FD, FD.bindsN fun _ _ _ _ _ _ us hl => match us, hl with | [_], _ => rfl⟩
theorem ok_Plan_ahead {f : Addr} {fd : FuncData} {dvs : List V} {kws : List (Str × V)} (FD : FunD K df_Plan_ahead.name df_Plan_ahead.qual df_Plan_ahead.params df_Plan_ahead.body df_Plan_ahead.scope dvs kws f fd) : FnOk P w K mg base (L2.CX P w) 2 f fd ["self"] (spD K (W0 K) 1 fs_Plan_ahead) :=
  fn_ok (wb := w_Plan_ahead) FD sc_Plan_ahead rfl fun R cl cdv A outer s H E EX hr tk =>
    have nd := sc_Plan_ahead.nd
    (s_cons (s_set (i := 1) nd (x_lstM a_nil)) (s_cons (s_set (i := 2) nd (x_ix (x_fld (cf_Plan fx) (x_v 0) lf_Plan_0) x_int)) (s_cons (s_for (passes_of rfl) rfl (i_sq (x_meth0 (mt_Plan__starts fx) (cf_Plan fx) nl_Plan__starts (hr.mono (by decide)) tk (x_v 0))) (g_t rfl (g_c (g_n 3 nd) (g_c (g_n 4 nd) (g_c (g_n 5 nd) g_z)))) (s_one (s_if (t_pw (t_and (t_cmp d_gt (x_v 5) x_int) (t_and1 (t_cmp d_gt (x_op d_add (x_v 3) (x_v 5)) (x_fld (cf_Plan fx) (x_v 0) lf_Plan_3))))) (s_cons (s_set (i := 6) nd (x_op d_add (x_v 4) (x_cb (c_max2 rfl) (a_cons x_int (a_cons (x_op d_sub (x_fld (cf_Plan fx) (x_v 0) lf_Plan_3) (x_v 3)) a_nil)) (fx.free 31 rfl) boot_max))) (s_one (s_for (passes_of rfl) rfl (i_r2 (fx.free 2 rfl) (a_cons (x_op d_fdiv (x_v 6) (x_v 2)) (a_cons (x_op d_add (x_op d_fdiv (x_op d_sub (x_op d_add (x_v 4) (x_v 5)) x_int) (x_v 2)) x_int) a_nil))) (g_n 7 nd) (s_one (s_if (t_pw (t_and (t_cmp d_notin (x_v 7) (x_v 1)) (t_and1 (t_cmp d_lt (x_cb c_len (a_cons (x_v 1) a_nil) (fx.free 4 rfl) boot_len) (x_fld (cf_Plan fx) (x_v 0) lf_Plan_2))))) (s_one (s_expr (x_ml PySem.F.slot_list_append PySem.F.type_list_append m_app (x_v 1) (a_cons (x_v 7) a_nil)))) s_nil))))) s_nil))) (s_one (s_ret (x_ct c_tuple (a_cons (x_v 1) a_nil) (fx.free 3 rfl) boot_tuple))))))
theorem mt_Plan_ahead : Mt P w K mg base (W0 K) "Plan" "ahead" 1 2 fs_Plan_ahead := by
  obtain ⟨fd, FD⟩ := fx.def_ 37 (d := df_Plan_ahead) rfl
  exact ⟨_, fd, ["self"], He.meth_ok (fx.fact 76 rfl), ok_Plan_ahead fx FD, FD.bindsN fun _ _ _ _ _ _ us hl => match us, hl with | [_], _ => rfl⟩
theorem ok_rarity {f : Addr} {fd : FuncData} {dvs : List V} {kws : List (Str × V)} (FD : FunD K df_rarity.name df_rarity.qual df_rarity.params df_rarity.body df_rarity.scope dvs kws f fd) : FnOk P w K mg base (L2.CX P w) 1 f fd ["index", "fields"] (spD K (W0 K) 2 fs_rarity) :=
  fn_ok (wb := w_rarity) FD sc_rarity rfl fun R cl cdv A outer s H E EX hr tk =>
    have nd := sc_rarity.nd
    (s_one (s_ret (x_cb c_len (a_cons (x_lc rfl nd (i_sq (x_v 1)) (own := [("field", 2)]) (blkOk_by (by kernel_rfl)) (fun _ _ _ _ _ => (gv_n 2 nd)) (fun _ _ _ _ _ => (ts_one (t_tru (x_ix (x_v 2) (x_v 0))))) (fun _ _ _ _ _ => (x_v 2))) a_nil) (fx.free 4 rfl) boot_len)))
theorem fn_rarity : Fn P w K mg base (W0 K) "rarity" 2 1 [] fs_rarity := by
  obtain ⟨fd, FD⟩ := fx.def_ 38 (d := df_rarity) rfl
  exact ⟨_, fd, ["index", "fields"], [], [], (fx.glo 77 rfl), FD.kp, ok_rarity fx FD, FD.bindsN fun _ _ _ _ _ _ us hl => match us, hl with | [_, _], _ => rfl, .nil, fun F => .nil⟩
theorem ok_Plan_choose {f : Addr} {fd : FuncData} {dvs : List V} {kws : List (Str × V)} (FD : FunD K df_Plan_choose.name df_Plan_choose.qual df_Plan_choose.params df_Plan_choose.body df_Plan_choose.scope dvs kws f fd) : FnOk P w K mg base (L2.CX P w) 3 f fd ["self", "claims", "held", "fields", "asked"] (spD K (W0 K) 5 fs_Plan_choose) :=
  fn_ok (wb := w_Plan_choose) FD sc_Plan_choose rfl fun R cl cdv A outer s H E EX hr tk =>
    have nd := sc_Plan_choose.nd
    (s_cons (s_set (i := 5) nd (x_meth (mt_Plan_wants fx) (cf_Plan fx) nl_Plan_wants (hr.mono (by decide)) tk (x_v 0) (a_cons (x_v 1) (a_cons (x_v 2) a_nil)))) (s_cons (by first | exact (s_set (i := 6) nd (x_lc rfl nd (i_sq (x_meth0 (mt_Plan_ahead fx) (cf_Plan fx) nl_Plan_ahead (hr.mono (by decide)) tk (x_v 0))) (own := [("index", 7)]) (blkOk_by (by kernel_rfl)) (fun _ _ _ _ _ => (gv_n 7 nd)) (fun _ _ _ _ _ => (ts_one (t_cmp d_in (x_v 7) (x_v 5)))) (fun _ _ _ _ _ => (x_v 7)))) | exact (s_lc rfl nd (i_sq (x_meth0 (mt_Plan_ahead fx) (cf_Plan fx) nl_Plan_ahead (hr.mono (by decide)) tk (x_v 0))) (own := [("index", 7)]) (blkOk_by (by kernel_rfl)) (fun _ _ _ _ _ => (gv_n 7 nd)) (fun _ _ _ _ _ => (ts_one (t_cmp d_in (x_v 7) (x_v 5)))) (fun _ _ _ _ _ => (x_v 7)) rfl (i := 6))) (s_cons (s_for (passes_of rfl) rfl (i_sq (x_v 6)) (g_n 7 nd) (s_one (s_if (t_cmp d_notin (x_v 7) (x_v 4)) (s_one (s_ret (x_v 7))) s_nil))) (s_cons (by first | exact (s_set (i := 8) nd (x_lc rfl nd (i_sq (x_v 5)) (own := [("index", 7)]) (blkOk_by (by kernel_rfl)) (fun _ _ _ _ _ => (gv_n 7 nd)) (fun _ _ _ _ _ => (ts_one (t_cmp d_notin (x_v 7) (x_v 4)))) (fun _ _ _ _ _ => (x_tup (a_cons (x_call (fn_rarity fx) (hr.mono (by decide)) tk_no (a_cons (x_v 7) (a_cons (x_v 3) a_nil))) (a_cons (x_v 7) a_nil)))))) | exact (s_lc rfl nd (i_sq (x_v 5)) (own := [("index", 7)]) (blkOk_by (by kernel_rfl)) (fun _ _ _ _ _ => (gv_n 7 nd)) (fun _ _ _ _ _ => (ts_one (t_cmp d_notin (x_v 7) (x_v 4)))) (fun _ _ _ _ _ => (x_tup (a_cons (x_call (fn_rarity fx) (hr.mono (by decide)) tk_no (a_cons (x_v 7) (a_cons (x_v 3) a_nil))) (a_cons (x_v 7) a_nil)))) rfl (i := 8))) (s_cons (s_if (t_cmp (d_ne hr.units) (x_v 8) (x_lst a_nil)) (s_one (s_ret (x_ix (x_cb (c_minP rfl hr.units) (a_cons (x_v 8) a_nil) (fx.free 32 rfl) boot_min) x_int))) s_nil) (s_cons (s_if (t_cmp (d_ne hr.units) (x_v 6) (x_lst a_nil)) (s_one (s_ret (x_ix (x_v 6) x_int))) s_nil) (s_one (s_ret (x_if (t_cmp (d_ne hr.units) (x_v 5) (x_lst a_nil)) (x_ix (x_v 5) x_int) x_non)))))))))
theorem mt_Plan_choose : Mt P w K mg base (W0 K) "Plan" "choose" 5 3 fs_Plan_choose := by
  obtain ⟨fd, FD⟩ := fx.def_ 39 (d := df_Plan_choose) rfl
  exact ⟨_, fd, ["self", "claims", "held", "fields", "asked"], He.meth_ok (fx.fact 78 rfl), ok_Plan_choose fx FD, FD.bindsN fun _ _ _ _ _ _ us hl => match us, hl with | [_, _, _, _, _], _ => rfl⟩
theorem ok_law {f : Addr} {fd : FuncData} {dvs : List V} {kws : List (Str × V)} (FD : FunD K df_law.name df_law.qual df_law.params df_law.body df_law.scope dvs kws f fd) : FnOk P w K mg base (L2.CX P w) 14 f fd ["_law_script"] (spD K (W0 K) 1 fs_law) :=
  fn_ok (wb := w_law) FD sc_law rfl fun R cl cdv A outer s H E EX hr tk =>
    have nd := sc_law.nd
    (s_cons (s_for (passes_of rfl) rfl (i_sq (x_op d_add (x_call (fn__law_draws fx) (hr.mono (by decide)) tk (a_cons (x_v 0) (a_cons x_int (a_cons x_int a_nil)))) (x_lst (a_cons x_int a_nil)))) (g_n 1 nd) (s_cons (s_set (i := 2) nd (x_call (fn__law_description fx) (hr.mono (by decide)) tk (a_cons (x_v 1) a_nil))) (s_cons (s_set (i := 3) nd (x_call (fn__law_files fx) (hr.mono (by decide)) tk (a_cons (x_v 2) (a_cons (x_op d_fdiv (x_v 1) x_int) a_nil)))) (s_cons (s_set (i := 4) nd (x_ix (x_lst (a_cons x_int (a_cons x_int (a_cons x_int (a_cons x_int a_nil))))) (x_op d_mod (x_op d_fdiv (x_v 1) x_int) x_int))) (s_cons (s_set (i := 5) nd (x_make (mk_Plan fx) (hr.mono (by decide)) tk (a_cons (x_v 2) (a_cons (x_v 3) (a_cons (x_v 4) a_nil))))) (s_cons (s_set (i := 6) nd (x_call (fn__law_stream fx) (hr.mono (by decide)) tk (a_cons (x_v 2) (a_cons (x_v 3) a_nil)))) (s_cons (s_set (i := 7) nd (x_op d_mod (x_op d_fdiv (x_v 1) x_int) (x_op d_add (x_cb c_len (a_cons (x_v 6) a_nil) (fx.free 4 rfl) boot_len) x_int))) (s_cons (s_expr (x_meth (mt_Plan_move fx) (cf_Plan fx) nl_Plan_move (hr.mono (by decide)) tk (x_v 5) (a_cons (x_v 7) a_nil))) (s_cons (s_set (i := 8) nd (x_call (fn__law_count fx) (hr.mono (by decide)) tk (a_cons (x_v 2) a_nil))) (s_cons (s_set (i := 9) nd (x_call (fn__law_flags fx) (hr.mono (by decide)) tk (a_cons (x_op d_fdiv (x_v 1) x_int) (a_cons (x_v 8) a_nil)))) (s_cons (by first | exact (s_set (i := 10) nd (x_lc rfl nd (i_r1 (fx.free 2 rfl) (a_cons (x_v 8) a_nil)) (own := [("_law_index", 17)]) (blkOk_by (by kernel_rfl)) (fun _ _ _ _ _ => (gv_n 17 nd)) (fun _ _ _ _ _ => (ts_one (t_cmp (d_eq hr.units) (x_op d_mod (x_op d_fdiv (x_v 1) (x_op d_add x_int (x_v 17))) (x_ix (x_lst (a_cons x_int (a_cons x_int a_nil))) (x_op d_mod (x_op d_fdiv (x_v 1) x_int) x_int))) x_int))) (fun _ _ _ _ _ => (x_v 17)))) | exact (s_lc rfl nd (i_r1 (fx.free 2 rfl) (a_cons (x_v 8) a_nil)) (own := [("_law_index", 17)]) (blkOk_by (by kernel_rfl)) (fun _ _ _ _ _ => (gv_n 17 nd)) (fun _ _ _ _ _ => (ts_one (t_cmp (d_eq hr.units) (x_op d_mod (x_op d_fdiv (x_v 1) (x_op d_add x_int (x_v 17))) (x_ix (x_lst (a_cons x_int (a_cons x_int a_nil))) (x_op d_mod (x_op d_fdiv (x_v 1) x_int) x_int))) x_int))) (fun _ _ _ _ _ => (x_v 17)) rfl (i := 10))) (s_cons (s_if (t_cmp (d_eq hr.units) (x_op d_mod (x_op d_fdiv (x_v 1) x_int) x_int) x_int) (s_one (s_set (i := 10) nd (x_sortSet rfl (fx.free 30 rfl) (fx.free 28 rfl) (x_op d_add (x_v 10) (x_call (fn__law_wanted fx) (hr.mono (by decide)) tk (a_cons (x_v 2) (a_cons (x_v 6) a_nil))))))) s_nil) (s_cons (s_set (i := 11) nd (x_op d_add (x_lc rfl nd (i_r1 (fx.free 2 rfl) (a_cons (x_op d_mod (x_op d_fdiv (x_v 1) x_int) x_int) a_nil)) (own := [("_law_k", 18)]) (blkOk_by (by kernel_rfl)) (fun _ _ _ _ _ => (gv_n 18 nd)) (fun _ _ _ _ _ => ts_nil) (fun _ _ _ _ _ => (x_call (fn__law_flags fx) (hr.mono (by decide)) tk_no (a_cons (x_op d_fdiv (x_v 1) (x_op d_add x_int (x_op d_mul x_int (x_v 18)))) (a_cons (x_v 8) a_nil))))) (x_lst (a_cons (x_v 9) a_nil)))) (s_cons (by first | exact (s_set (i := 12) nd (x_lc rfl nd (i_r1 (fx.free 2 rfl) (a_cons (x_op d_mod (x_op d_fdiv (x_v 1) x_int) x_int) a_nil)) (own := [("_law_k", 18)]) (blkOk_by (by kernel_rfl)) (fun _ _ _ _ _ => (gv_n 18 nd)) (fun _ _ _ _ _ => ts_nil) (fun _ _ _ _ _ => (x_ix (x_lst (a_cons x_non (a_cons (x_op d_mod (x_op d_fdiv (x_v 1) (x_op d_add x_int (x_v 18))) (x_v 8)) a_nil))) (x_op d_mod (x_op d_fdiv (x_v 1) (x_op d_add x_int (x_v 18))) x_int))))) | exact (s_lc rfl nd (i_r1 (fx.free 2 rfl) (a_cons (x_op d_mod (x_op d_fdiv (x_v 1) x_int) x_int) a_nil)) (own := [("_law_k", 18)]) (blkOk_by (by kernel_rfl)) (fun _ _ _ _ _ => (gv_n 18 nd)) (fun _ _ _ _ _ => ts_nil) (fun _ _ _ _ _ => (x_ix (x_lst (a_cons x_non (a_cons (x_op d_mod (x_op d_fdiv (x_v 1) (x_op d_add x_int (x_v 18))) (x_v 8)) a_nil))) (x_op d_mod (x_op d_fdiv (x_v 1) (x_op d_add x_int (x_v 18))) x_int))) rfl (i := 12))) (s_cons (s_set (i := 13) nd (x_tup (a_cons (x_ct c_list (a_cons (x_v 9) a_nil) (fx.free 5 rfl) boot_list) (a_cons (x_ct c_tuple (a_cons (x_v 10) a_nil) (fx.free 3 rfl) boot_tuple) (a_cons (x_lc rfl nd (i_sq (x_v 11)) (own := [("_law_field", 19)]) (blkOk_by (by kernel_rfl)) (fun _ _ _ _ _ => (gv_n 19 nd)) (fun _ _ _ _ _ => ts_nil) (fun _ _ _ _ _ => (x_ct c_list (a_cons (x_v 19) a_nil) (fx.free 5 rfl) boot_list))) (a_cons (x_ct c_list (a_cons (x_v 12) a_nil) (fx.free 5 rfl) boot_list) a_nil)))))) (s_cons (s_set (i := 14) nd (x_call (fn__law_wants fx) (hr.mono (by decide)) tk (a_cons (x_v 2) (a_cons (x_v 6) (a_cons (x_v 9) (a_cons (x_v 10) a_nil)))))) (s_cons (s_if (t_cmp (d_ne hr.units) (x_meth (mt_Plan_wants fx) (cf_Plan fx) nl_Plan_wants (hr.mono (by decide)) tk (x_v 5) (a_cons (x_ix (x_v 13) x_int) (a_cons (x_ix (x_v 13) x_int) a_nil))) (x_v 14)) (s_one (s_ret x_bl)) s_nil) (s_cons (s_set (i := 15) nd (x_call (fn__law_choice fx) (hr.mono (by decide)) tk (a_cons (x_v 14) (a_cons (x_call (fn__law_ahead fx) (hr.mono (by decide)) tk (a_cons (x_v 2) (a_cons (x_v 6) (a_cons (x_v 7) (a_cons (x_v 4) a_nil))))) (a_cons (x_v 11) (a_cons (x_v 12) a_nil)))))) (s_cons (s_set (i := 16) nd (x_meth (mt_Plan_choose fx) (cf_Plan fx) nl_Plan_choose (hr.mono (by decide)) tk (x_v 5) (a_cons (x_ix (x_v 13) x_int) (a_cons (x_ix (x_v 13) x_int) (a_cons (x_ix (x_v 13) x_int) (a_cons (x_ix (x_v 13) x_int) a_nil)))))) (s_cons (s_if (t_pw (t_or (t_cmp (d_ne hr.units) (x_v 16) (x_v 15)) (t_or (t_cmp (d_ne hr.units) (x_cmp d_is (x_v 16) x_non) (x_cmp d_is (x_v 15) x_non)) (t_or1 (t_tru (x_cb c_isi (a_cons (x_v 16) (a_cons (x_ty (fx.free 7 rfl) boot_bool) a_nil)) (fx.free 6 rfl) boot_isinstance)))))) (s_one (s_ret x_bl)) s_nil) (s_one (s_if (t_cmp (d_ne hr.units) (x_v 13) (x_tup (a_cons (x_v 9) (a_cons (x_ct c_tuple (a_cons (x_v 10) a_nil) (fx.free 3 rfl) boot_tuple) (a_cons (x_v 11) (a_cons (x_v 12) a_nil)))))) (s_one (s_ret x_bl)) s_nil)))))))))))))))))))))) (s_one (s_ret x_bl)))
end
end Sw

set_option maxRecDepth 100000
set_option maxHeartbeats 0
namespace Sw
open PySem PySem.Spec PyProof.Rows L2
def names0 : List PySem.Str := ["SwarmError", "BadDescription", "BadContent", "BadPlan", "is_integer", "is_octet", "is_octets", "SHA_SIZE", "MOST_SUM", "is_kind", "MOST_NAME", "MOST_PARTS", "MOST_FILES", "MOST_LENGTH", "LEAST_SIZE", "MOST_SIZE", "MOST_PIECES", "FIRST_LETTER", "LAST_LETTER", "FIRST_FIGURE", "LAST_FIGURE", "DOT", "OTHER_SIGNS", "is_name_octet", "is_name", "is_path", "is_file", "are_apart", "are_files", "are_files_descriptions"]
def names1 : List PySem.Str := ["is_size", "fault_of", "check_description", "length_of", "count_of", "piece_count", "is_index", "check_index", "starts_of", "pieces_of", "rarity", "MOST_WINDOW", "are_files_playing", "Plan", "_law_cell", "_law_draws", "_law_description", "_law_starts", "_law_stream", "_law_count", "_law_files", "_law_ahead", "_law_wanted", "_law_flags", "_law_wants", "_law_choice"]
def names : List PySem.Str := names0 ++ names1
abbrev Rw : PySem.W.OpenRow := PySem.W.OpenLaw.row PySem.Challenge.rw_swarmwhole_k87_choices_of_a_plan
abbrev hk : PySem.W.Hook := hookS 5 fa fn fy
def ob (s : PySem.W.SharedT) : AlS := obsSG 5 fa fn fy (HandSHeadRun.getT s)
theorem ob_eq (s : PySem.W.SharedT) : ob s = hk.obs s.abs := obsSG_eq (HandSHeadRun.getT_eq s)
theorem run (w : World) : HandSHeadRun.RunEq Rw (PySem.W.view Rw.prog [64]) hk ob 20000 names w := by
  intro os
  kernel_rfl
end Sw

set_option maxRecDepth 100000
set_option maxHeartbeats 0
namespace Sw
open PySem PySem.Spec PyProof.Rows L2
theorem facts_end {P : Program} {w : World} {K : PySem.W.Frag} {h : Heap} {mg : Str → Option Value} {f : Addr} (X : K.In h) (G : h.Ns mainGlobals mg) (hfa : mg ("law" : Str) = some (.ref f)) (c : SaysS fa fn fy K) :
    ∃ fd : FuncData, (∀ (s : Shared) (u : Value), BindsTo s fd ⟨[u], []⟩ [("_law_script", u)]) ∧ ∀ base : Heap, K.In base → base.Ns mainGlobals mg → FnOk P w K mg base (L2.CX P w) 14 f fd ["_law_script"] (spD K (W0 K) 1 fs_law) := by
  have fx : Fx fa fn fy K mg := ⟨⟨h, X, G⟩, c⟩
  obtain ⟨fd, FD⟩ := fx.def_ 40 (d := df_law) rfl
  have e := hfa.symm.trans (fx.glo 79 (x := "law") rfl)
  cases e
  have b := FunD.bindsA (ps := ["_law_script"]) FD fun _ _ _ _ _ _ us hl => match us, hl with | [_], _ => rfl
  exact ⟨fd, fun s u => b s [u] rfl, fun base _ _ => ok_law fx FD⟩
end Sw
open PySem PySem.W PySem.Calls PyProof.Rows
theorem PySem.Challenge.cw_swarmwhole_k87_choices_of_a_plan_holds : PySem.Challenge.rw_swarmwhole_k87_choices_of_a_plan.Holds := by
  w_on; o_law
  refine HandSHeadRun.head_any (r := OpenLaw.row PySem.Challenge.rw_swarmwhole_k87_choices_of_a_plan) (q := view (OpenLaw.row PySem.Challenge.rw_swarmwhole_k87_choices_of_a_plan).prog [64]) (H := Sw.hk) (ob := Sw.ob) (M := 20000) (loose := Sw.names) (d := HandSHeadRun.topDef (OpenLaw.row PySem.Challenge.rw_swarmwhole_k87_choices_of_a_plan).prog 64) (kwd := []) Sw.ob_eq
    (by kernel_rfl) (fun s => by kernel_rfl) Sw.run (by kernel_rfl) (by kernel_rfl) (by kernel_rfl) (by rfl) (by first | assumption | decide +kernel) (by decide +kernel) ⟨rfl, rfl, rfl, rfl, rfl, by decide +kernel⟩ ?hw ?hc
  case hw => w_witness2
  case hc =>
    refine Sw.walk_ofD (l := PySem.Challenge.rw_swarmwhole_k87_choices_of_a_plan) (n := 63) (k := 14) (x := "_law_script") (fs := Sw.fs_law) (W0 := Sw.W0) rfl (by decide) (by kernel_rfl) ⟨rfl, by decide, by decide⟩ ?F Sw.law_ok
    intro w mg fa h Y G hmg0
    obtain ⟨K, KX, c⟩ := Y
    have hmg : mg ("law" : PySem.Str) = some (.ref fa) := by
      have e : (HandSHeadRun.topDef (OpenLaw.row PySem.Challenge.rw_swarmwhole_k87_choices_of_a_plan).prog 64).name = ("law" : PySem.Str) := by kernel_rfl
      rw [← e]
      exact hmg0
    obtain ⟨fd, hb, hF⟩ := Sw.facts_end (P := (PySem.Challenge.rw_swarmwhole_k87_choices_of_a_plan).prog) (w := w) KX G hmg c
    exact ⟨K, fd, KX, hb, hF⟩

